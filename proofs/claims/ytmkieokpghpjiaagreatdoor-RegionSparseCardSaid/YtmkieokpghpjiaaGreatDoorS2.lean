/-
  For every list of rules, every number of variables and every level the statement RegionSparse holds: the sparse rule is the reference's, or the error is.
-/
import Derived.Test.YtmkieokpghpjiaaGreatDoorS1
import Derived.RangeFuncOwn
import Derived.OrdersIn
import Derived.TacticsIn
import Derived.Test.YtmkieokpghpjiaaGreatDoorProg
import Derived.KernelRfl
set_option maxHeartbeats 4000000
set_option linter.all false
namespace Go.Proofs
open Go
abbrev A0:=@Option.toList_some
abbrev A1:=@List.mapM_cons
abbrev A2:=@Nat.add_mul_mod_self_left
abbrev A3:=@Nat.le_mul_of_pos_right
abbrev A4:=@Nat.le_div_iff_mul_le
abbrev A5:=@Nat.pow_mul
abbrev A6:=@Nat.pow_le_pow_left
abbrev A7:=@Rat.neg_num
abbrev A8:=@Rat.div_def
abbrev A9:=@List.getElem?_reverse
abbrev AZ:=@Bool.or_false
abbrev F0:=@Nat.pos_of_ne_zero
abbrev F1:=@Rat.neg_den
abbrev F2:=@Int.mul_neg_of_neg_of_pos
abbrev FH:=@List.getElem?_cons_succ
abbrev FI:=@Nat.lt_trans
abbrev FJ:=@Go.getD_set_ne
abbrev FK:=@Go.wpIn_cond_split
abbrev FL:=@Array.mapM_eq_mapM_toList
abbrev FM:=@Go.Sem.run_map
abbrev FN:=@Nat.add_sub_cancel
abbrev FO:=@Nat.div_lt_self
abbrev FP:=@Nat.mul_add_div
abbrev FQ:=@List.set_cons_succ
abbrev FR:=@Nat.le_of_lt_succ
abbrev FS:=@Nat.add_sub_cancel_left
abbrev FT:=@Nat.mul_lt_mul_of_pos_left
abbrev FU:=@Nat.one_le_div_iff
abbrev FV:=@Nat.gcd_zero_right
abbrev FX:=@Nat.gcd_rec
abbrev FY:=@Int.mul_neg
abbrev FZ:=@Int.neg_mul_neg
abbrev N0:=@Go.run_takeDeferred
abbrev N1:=@Go.World.alloc_heap_new
abbrev N2:=@List.getLast?_cons_cons
abbrev N3:=@List.take_succ_eq_append_getElem
abbrev N4:=@Nat.lt_or_gt_of_ne
abbrev N5:=@Nat.mul_add_mod
abbrev N6:=@List.getElem?_append_right
abbrev N7:=@Nat.mul_lt_mul_of_pos_right
abbrev N8:=@Nat.add_mul_div_left
abbrev N9:=@List.length_replicate
abbrev NW:=@List.filter_cons
abbrev NX:=@Option.bind_some
abbrev NY:=@Array.mem_of_getElem?
abbrev NZ:=@Go.wpIn_region_any
abbrev Oa:=@Int.natAbs_add_le
abbrev YV:=@List.dropLast_concat_getLast
abbrev YW:=@List.drop_append_of_le_length
abbrev aL:=@congrArg
abbrev aV:=@List.length_map
abbrev bB:=@decide_eq_true
abbrev bE:=@decide_eq_false
abbrev bR:=@List.not_mem_nil
abbrev bX:=@Nat.pow_succ
abbrev c8:=@Go.World.putObj_heap_other
abbrev cg:=@Nat.mul_add
abbrev cn:=@List.getD_eq_getElem?_getD
abbrev co:=@Nat.pow_le_pow_right
abbrev dD:=@List.map_append
abbrev dN:=@Nat.blt_eq
abbrev dO:=@List.take_add_one
abbrev dP:=@Int.natAbs_natCast
abbrev dl:=@List.all_cons
abbrev dw:=@Nat.mul_comm
abbrev eC:=@Nat.mul_assoc
abbrev eT:=@Nat.mul_le_mul
abbrev eU:=@Int.natAbs_mul
abbrev gB:=@Nat.pow_pos
abbrev iX:=@Nat.pow_add
abbrev ib:=@Nat.mod_lt
abbrev iy:=@Nat.lt_of_lt_of_le
abbrev jN:=@Nat.lt_of_le_of_lt
abbrev jO:=@Array.getElem?_append
abbrev jP:=@Nat.mul_zero
abbrev jQ:=@Int.sign_eq_one_of_pos
abbrev kC:=@List.take_append_drop
abbrev lE:=@Ne.symm
abbrev lF:=@List.nil_append
abbrev lG:=@Int.neg_mul
abbrev lH:=@Int.sign_eq_neg_one_of_neg
abbrev mN:=@List.all_eq_true
abbrev mP:=@of_decide_eq_true
abbrev mQ:=@Nat.div_eq_of_lt
abbrev mR:=@Nat.div_le_self
abbrev nQ:=@Nat.le_of_lt
abbrev nR:=@Nat.div_lt_iff_lt_mul
abbrev oH:=@Nat.div_add_mod
abbrev oI:=@Nat.mul_pos
abbrev oJ:=@Nat.div_one
abbrev qI:=@List.reverse_reverse
abbrev qJ:=@Nat.pow_zero
abbrev sA:=@Nat.pow_one
abbrev sC:=@Nat.gcd_comm
abbrev sD:=@Int.zero_mul
abbrev su:=@List.foldl_append
abbrev sw:=@of_decide_eq_false
abbrev uO:=@Array.getElem?_eq_none
abbrev uP:=@Nat.div_mul_le_self
abbrev uQ:=@Rat.mul_def'
abbrev uR:=@Int.lt_trichotomy
abbrev xC:=@beq_iff_eq
abbrev xD:=@Int.natAbs_neg
abbrev xE:=@Int.mul_pos
abbrev xk:=@Go.callsIn_wide
abbrev xl:=@List.pairwise_lt_range
abbrev xm:=@List.take_zero
abbrev xn:=@Go.wpIn_region_list
abbrev xo:=@List.length_filter_le
abbrev xp:=@Go.callsIn_of_wp_marks
abbrev xq:=@Array.getElem?_replicate
abbrev xt:=@Go.World.putObj_heap_same
abbrev xu:=@Int.tmod_eq_emod_of_nonneg
abbrev xv:=@List.length_singleton
abbrev xw:=@List.map_replicate
abbrev xy:=@List.getD_cons_succ
abbrev xz:=@Nat.mul_left_comm
end Go.Proofs
namespace Go.Proofs.Fl
open Go.RowKit
def qj(all:Array Oper)(tm:Nat->SV)(o:Oper):Option Bool :=
 match o.guard with
 |none=>some true
 |some (j,want)=>match(all[j]?).bind (·.dst) with
  |none=>some false
  |some t=>match tm t with
   | .iv (.bool b)=>some (b==want)
   | .und=>some false
   |_=>none
section
variable (T:TypeId->Option TY)(Φ:Ctr)
def Fact(all:Array Oper)(o:Oper)(g:Nat)(tm:Nat->SV)(bx:Nat->Option Bx)(l:Lg):Prop :=
 (qj all tm o=some true/\mv T Φ o (aS tm) bx g (Is l.r l.e))\/(qj all tm o=some false/\l.r=.und/\l.e = {})
def gh(all:Array Oper):List Oper->Nat->(Nat->SV)->(Nat->Option Bx)->List Lg->((Nat->SV)->(Nat->Option Bx)->List Lg->Prop)->Prop
 | [],_,tm,bx,log,K=>K tm bx log
 |o::os,g,tm,bx,log,K=>match qj all tm o with
  |some true=>mv T Φ o (aS tm) bx g (fun r e=>gh all os (g+1) (fb tm o.dst r) (g6 (bT bx e.fz) e.wr) (⟨r,e⟩::log) K)
  |some false=>gh all os (g+1) (fb tm o.dst .und) bx (⟨.und,{}⟩::log) K
  |none=>False
variable {T}{Φ}
def PV{all:Array Oper}{K:(Nat->SV)->(Nat->Option Bx)->List Lg->Prop}:∀{os:List Oper} {g:Nat} {tm:Nat->SV} {bx:Nat->Option Bx} {log:List Lg},gh T Φ all os g tm bx log K->
 ∃recs:List Lg,recs.length=os.length/\
  (∀k o l,os[k]?=some o->recs[k]?=some l->Fact T Φ all o (g+k) (((os.zip recs).take k).foldl (fun tm p=>fb tm p.1.dst p.2.r) tm) (((os.zip recs).take k).foldl (fun bx p=>g6 (bT bx p.2.e.fz) p.2.e.wr) bx) l)/\
  K ((os.zip recs).foldl (fun tm p=>fb tm p.1.dst p.2.r) tm) ((os.zip recs).foldl (fun bx p=>g6 (bT bx p.2.e.fz) p.2.e.wr) bx) (recs.reverse++log):=by
 intro os;induction os with
 |nil=>intro g tm bx log h;exact⟨[],rfl,fun k o l hk=>by simp at hk,h⟩
 |cons o os ih=>
  intro g tm bx log h;unfold gh at h;have key:∃l:Lg,Fact T Φ all o g tm bx l/\gh T Φ all os (g+1) (fb tm o.dst l.r) (g6 (bT bx l.e.fz) l.e.wr) (l::log) K:=by
   split at h
   . rename_i hy;obtain⟨r,e,h1,h2⟩:=CE h;exact⟨⟨r,e⟩,.inl ⟨hy,h1⟩,h2⟩
   . rename_i hy;exact⟨⟨.und,{}⟩,.inr ⟨hy,rfl,rfl⟩,h⟩
   exact h.elim
  obtain⟨l,hf,h'⟩:=key;obtain⟨recs,e1,e2,e3⟩:=ih h';refine⟨l::recs,by simp[e1],?_,by simpa using e3⟩;intro k o' l' hk hl;cases k with
  |zero=>simp at hk hl;subst hk;subst hl;simpa using hf
  |succ k=>
   simp only[FH] at hk hl;have:=e2 k o' l' hk hl;rw[show g+1+k=g+(k+1) by omega] at this;simpa using this
end
def iC(o:Oper):List Nat:=o.after.toList.filterMap fun e=>bif Region.binds .any e then some e.on else none
def wc(tab:List Nat)(es:List Nat):Nat:=es.foldl (fun m e=>m ||| (1 <<< e ||| tab.getD e 0)) 0
def k9(ops:List Oper):List Nat:=ops.foldl (fun tab o=>tab ++ [wc tab (iC o)]) []
def gd(all:Array Oper)(o:Oper):List Nat :=
 match o.guard with
 |some (j,_)=>match(all[j]?).bind (·.dst) with
  |some t=>t::(o.op.operands.toList.filterMap fun | .tmp t=>some t|_=>none)
  |none=>o.op.operands.toList.filterMap fun | .tmp t=>some t|_=>none
 |none=>o.op.operands.toList.filterMap fun | .tmp t=>some t|_=>none
def rc(ops:List Oper)(k:Nat):List (Nat×Nat) :=
 match ops with
 | []=>[]
 |o::os=>match o.dst with
  |some d=>(d,k)::rc os (k+1)
  |none=>rc os (k+1)
def uniq:List (Nat×Nat)->Bool
 | []=>true
 |p::l=>l.all (fun q=>!Nat.beq p.1 q.1)&&uniq l
def dV(tab:List Nat)(i j:Nat):Bool:=Nat.beq i j||((tab.getD i 0).testBit j||(tab.getD j 0).testBit i)
def yy(all:Array Oper)(tab:List Nat)(ws:List (Nat×Nat)):List Oper->Nat->Bool
 | [],_=>true
 |o::os,i=>(Nat.beq (tab.getD i 0) (wc tab (iC o))&&(iC o).all fun e=>Nat.blt e i) &&
  ((gd all o).all (fun t=>ws.all fun p=>!Nat.beq p.1 t||dV tab i p.2)&&yy all tab ws os (i+1))
def pv(all:Array Oper)(tab:List Nat):Bool:=uniq (rc all.toList 0)&&yy all tab (rc all.toList 0) all.toList 0
def zi(tab:List Nat)(i:Nat)(x:Eff):List Lg->Nat->Bool
 | [],_=>true
 |l::ls,j=>(dV tab i j || !mb x l.e)&&zi tab i x ls (j+1)
def yG(tab:List Nat)(all:List Lg):List Lg->Nat->Bool
 | [],_=>true
 |l::ls,i=>(match l.e.wr with
  | []=>true
  |_=>zi tab i l.e all 0)&&yG tab all ls (i+1)
def Wi(tab:List Nat)(log:List Lg):Bool:=yG tab log log 0
def Hz{tab:List Nat}{a:Nat}:∀{es:List Nat} {m:Nat},(es.foldl (fun m e=>m ||| (1 <<< e ||| tab.getD e 0)) m).testBit a=true->m.testBit a=true\/∃e∈es,e=a\/(tab.getD e 0).testBit a=true
 | [],m,h=>.inl h
 |e::es,m,h=>by
  rw[iV] at h;rcases Hz h with h|⟨e',h1,h2⟩
  .
   rw[Nat.testBit_or,Nat.testBit_or] at h;cases hm:m.testBit a with
   |true=>exact .inl rfl
   |false=>
    right;refine⟨e,by simp,?_⟩;cases h1:(tab.getD e 0).testBit a with
    |true=>exact .inr rfl
    |false=>
     left;rw[hm,h1] at h;simp only[Nat.one_shiftLeft,Nat.testBit_two_pow,xe,AZ,ff] at h;exact h
  exact .inr ⟨e',by simp[h1],h2⟩
def GT{tab es:List Nat}{a:Nat}(h:(wc tab es).testBit a=true):∃e∈es,e=a\/(tab.getD e 0).testBit a=true:=by
 rcases Hz h with h|h
 . simp at h
 exact h
structure Flow(all:Array Oper)(tab:List Nat):Prop where
 edge:∀(i:Nat) (o:Oper),all[i]?=some o->∀e∈iC o,e<i
 mask:∀(i:Nat) (o:Oper),all[i]?=some o->tab.getD i 0=wc tab (iC o)
 uniq:∀(i j:Nat) (o o':Oper) (d:Nat),all[i]?=some o->all[j]?=some o'->o.dst=some d->o'.dst=some d->i=j
 looks:∀(i:Nat) (o:Oper),all[i]?=some o->∀t∈gd all o,∀(j:Nat) (o':Oper),all[j]?=some o'->o'.dst=some t->dV tab i j=true
def Ph{ops:List Oper}:∀{k j:Nat} {o:Oper} {d:Nat},ops[j]?=some o->o.dst=some d->(d,k+j)∈rc ops k:=by
 induction ops with
 |nil=>intro k j o d h;simp at h
 |cons p l ih=>
  intro k j o d h hd;unfold rc;cases j with
  |zero=>simp at h;subst h;simp[hd]
  |succ j=>
   have:=ih (k:=k+1) (by simpa using h) hd;rw[show k+1+j=k+(j+1) by omega] at this;split<;>simp[this]
def BN:∀{l:List (Nat×Nat)},uniq l=true->∀p∈l,∀q∈l,p.1=q.1->p=q
 | [],_,p,hp=>by simp at hp
 |x::l,h,p,hp=>by
  simp only[uniq,aH,mN,gz] at h;intro q hq e;rcases List.mem_cons.1 hp with hp|hp
  . rcases List.mem_cons.1 hq with hq|hq
    . rw[hp,hq]
    have:=h.1 q hq;rw[<-hp,e,bD] at this;cases this
  rcases List.mem_cons.1 hq with hq|hq
  . have:=h.1 p hp;rw[<-hq,<-e,bD] at this;cases this
  exact BN h.2 p hp q hq e
def Gu{all:Array Oper}{tab:List Nat}{ws:List (Nat×Nat)}:∀{os:List Oper} {k:Nat},yy all tab ws os k=true->∀i o,os[i]?=some o->
 (∀e∈iC o,e<k+i)/\tab.getD (k+i) 0=wc tab (iC o)/\∀t∈gd all o,∀p∈ws,p.1=t->dV tab (k+i) p.2=true
 | [],_,_,i,o,h=>by simp at h
 |o'::os,k,h,i,o,ho=>by
  simp only[yy,aH] at h;obtain⟨⟨h1,h2⟩,h3,h4⟩:=h;cases i with
  |zero=>
   simp at ho;subst ho;refine⟨fun e he=>?_,aB h1,fun t ht p hp e=>?_⟩
   . have:=List.all_eq_true.1 h2 e he;simp[dN] at this;omega
   have:=List.all_eq_true.1 (List.all_eq_true.1 h3 t ht) p hp;rw[e,bD] at this;simpa using this
  |succ i=>
   have:=Gu h4 i o (by simpa using ho);rw[show k+1+i=k+(i+1) by omega] at this;exact this
def Dv{all:Array Oper}{tab:List Nat}(h:pv all tab=true):Flow all tab:=by
 simp only[pv,aH] at h;have sp:=fun i o (ho:all[i]?=some o)=>Gu h.2 i o (by simpa using ho);simp only[a8] at sp;have wm:∀{j:Nat} {o:Oper} {d:Nat},all[j]?=some o->o.dst=some d->(d,j)∈rc all.toList 0:=fun{j o d} ho hd=>by
  have:=Ph (k:=0) (ops:=all.toList) (j:=j) (o:=o) (d:=d) (by simpa using ho) hd;rwa[a8] at this
 refine⟨fun i o ho=>(sp i o ho).1,fun i o ho=>(sp i o ho).2.1,fun i j o o' d h1 h2 h3 h4=>?_,fun i o ho t ht j o' h1 h2=>(sp i o ho).2.2 t ht _ (wm h1 h2) rfl⟩;have:=BN h.1 _ (wm h1 h3) _ (wm h2 h4) rfl;exact(Prod.mk.inj this).2
def GJ{tab:List Nat}{i:Nat}{x:Eff}:∀{ls:List Lg} {k:Nat},zi tab i x ls k=true->∀j l,ls[j]?=some l->dV tab i (k+j)=true\/mb x l.e=false
 | [],_,_,j,l,h=>by simp at h
 |l'::ls,k,h,j,l,hl=>by
  simp only[zi,aH,iW,gz] at h;cases j with
  |zero=>simp at hl;subst hl;exact h.1
  |succ j=>
   have:=GJ h.2 j l (by simpa using hl);rwa[show k+1+j=k+(j+1) by omega] at this
def Gw{tab:List Nat}{all:List Lg}:∀{ls:List Lg} {k:Nat},yG tab all ls k=true->∀i x,ls[i]?=some x->∀j l,all[j]?=some l->dV tab (k+i) j=true\/mb x.e l.e=false
 | [],_,_,i,x,h=>by simp at h
 |l'::ls,k,h,i,x,hx=>by
  simp only[yG,aH] at h;intro j l hl;cases i with
  |zero=>
   simp at hx;subst hx;have h1:=h.1;split at h1
   . rename_i hw;exact .inr (by simp[mb,hw])
   simpa using GJ h1 j l hl
  |succ i=>
   have:=Gw h.2 i x (by simpa using hx) j l hl;rwa[show k+1+i=k+(i+1) by omega] at this
def B5{tab:List Nat}{i j:Nat}:dV tab i j=dV tab j i:=by
 unfold dV;have:Nat.beq i j=Nat.beq j i:=by
  cases h:Nat.beq i j with
  |true=>rw[aB h,bD]
  |false=>
   cases h2:Nat.beq j i with
   |false=>rfl
   |true=>rw[aB h2,bD] at h;cases h
 rw[this,Bool.or_comm ((tab.getD i 0).testBit j)]
def Ck{p p':Nat->Bool}{i:Nat}(h1:p i=true)(h2:p' i=false)(h3:∀j,p' j=true->p j=true):∀{l:List Nat},i∈l->(l.filter p').length<(l.filter p).length
 | [],h=>by simp at h
 |j::l,h=>by
  have hle:∀l:List Nat,(l.filter p').length<=(l.filter p).length:=by
   intro l;induction l with
   |nil=>simp
   |cons k l ih=>
    simp only[NW];cases hp':p' k with
    |true=>simp[h3 k hp'];exact ih
    |false=>
     cases p k
     . simpa using ih
     simp;omega
  by_cases hji:j=i
  . subst hji;simp only[NW,h1,h2,bL];have:=hle l;simp;omega
  have hm:i∈l:=by
   rcases List.mem_cons.1 h with e|e
   . exact absurd e.symm hji
   exact e
  have:=Ck h1 h2 h3 hm;simp only[NW];cases hp':p' j with
  |true=>simp[h3 j hp'];exact this
  |false=>
   cases p j
   . simpa using this
   simp;omega
section
variable {all:Array Oper}{tab:List Nat}{S:Nat->Bool}
def Flow.anc_lt(hf:Flow all tab):∀(i:Nat) (o:Oper),all[i]?=some o->∀a,(tab.getD i 0).testBit a=true->a<i:=by
 intro i;induction i using Nat.strongRecOn with
 |_ i ih=>
  intro o ho a ha;rw[hf.mask i o ho] at ha;obtain⟨e,he,h⟩:=GT ha;have hlt:=hf.edge i o ho e he;rcases h with rfl|h
  . exact hlt
  have hsz:e<all.size:=FI hlt (Array.getElem?_eq_some_iff.1 ho).1;have:=ih e hlt all[e] (by simp[hsz]) a h;omega
def z7(all:Array Oper)(S:Nat->Bool):Prop:=∀j o,all[j]?=some o->S j=true->∀e∈iC o,S e=true
def Flow.anc_in(hf:Flow all tab)(hc:z7 all S):∀(i:Nat) (o:Oper),all[i]?=some o->(∀e∈iC o,S e=true)->∀a,(tab.getD i 0).testBit a=true->S a=true:=by
 intro i;induction i using Nat.strongRecOn with
 |_ i ih=>
  intro o ho he0 a ha;rw[hf.mask i o ho] at ha;obtain⟨e,he,h⟩:=GT ha;have hlt:=hf.edge i o ho e he;rcases h with rfl|h
  . exact he0 e he
  have hsz:e<all.size:=FI hlt (Array.getElem?_eq_some_iff.1 ho).1;have hg:all[e]?=some all[e]:=by simp[hsz]
  exact ih e hlt all[e] hg (hc e _ hg (he0 e he)) a h
def Flow.near_same(hf:Flow all tab)(hc:z7 all S){i j:Nat}{o o':Oper}(hi:all[i]?=some o)(hj:all[j]?=some o')(hr:∀e∈iC o,S e=true)(hS:S i=false)(hn:dV tab i j=true):decide (j<i)=S j:=by
 simp only[dV,iW] at hn;rcases hn with h|h|h
 . have:=aB h;subst this;rw[hS];simp
 . rw[hf.anc_in hc i o hi hr j h];simpa using hf.anc_lt i o hi j h
 have h1:=hf.anc_lt j o' hj i h;cases hSj:S j with
 |true=>
  have:=hf.anc_in hc j o' hj (hc j o' hj hSj) i h;rw[hS] at this;cases this
 |false=>simpa using by omega
end
section
variable {T:TypeId->Option TY}{Φ:Ctr}{all:Array Oper}{o:Oper}{g:Nat}{tm tm':Nat->SV}{bx bx':Nat->Option Bx}{l:Lg}
def Q1{x:Operand}{t:Nat}(hx:x∈o.op.operands)(e:x=.tmp t):t∈gd all o:=by
 have h:t∈o.op.operands.toList.filterMap fun | .tmp t=>some t|_=>none:=List.mem_filterMap.2 ⟨x,by simpa using hx,by subst e;rfl⟩;unfold gd;split
 . split
   . exact dC _ h
   exact h
 exact h
def Fact.foot(h:Fact T Φ all o g tm bx l)(ht:∀t∈gd all o,tm' t=tm t)(hb:∀id∈l.e.rd,eqF (bx id) (bx' id))(hw:∀p∈l.e.wr,bx' p.1=bx p.1):Fact T Φ all o g tm' bx' l:=by
 have hy:qj all tm' o=qj all tm o:=by
  unfold qj;split
  . rfl
  rename_i j want hg;split
  . rfl
  rename_i t hd;have:tm' t=tm t:=ht t (by unfold gd;simp only[hg,hd];simp);rw[this]
 unfold Fact at *;rw[hy];rcases h with⟨h1,h2⟩|h
 . refine .inl ⟨h1,RY h2 (fun x hx=>?_) hb hw⟩;cases x with
   |tmp t=>exact ht t (Q1 hx rfl)
   |_=>rfl
 exact .inr h
def HO{E:Env}{nt:Nat}{H:ak}{U:Nat->Nat×Nat}{a:Act}{w:World}(h:St E nt H U tm bx a w){c:Bool}(hy:qj all tm o=some c):Region.wanted o (yielded all a.tmps)=c:=by
 unfold qj at hy;unfold Region.wanted;split at hy
 . rename_i hg;simp only[hg];simpa using hy
 rename_i j want hg;simp only[hg];split at hy
 . rename_i hd;simp only[yielded,hd,Option.bind_none];simpa using hy
 rename_i t hd;simp only[yielded,hd,NX];have hs:=h.sim.slot t;split at hy
 . rename_i b ht;rw[ht] at hs;have e:=oV hs;cases hx:a.tmps[t]? with
   |none=>simp[hx,undef] at e
   |some u=>simp[hx] at e;subst e;simpa using hy
 . rename_i ht;rw[ht] at hs;change a.tmps.getD t undef=undef at hs;cases hx:a.tmps[t]? with
   |none=>simpa using hy
   |some u=>simp[hx] at hs;subst hs;simpa[undef] using hy
 cases hy
end
section
variable {P:Program}{I:World->Prop}{T:TypeId->Option TY}{Φ:Ctr}{E:Env}{nt:Nat}{Q:Exit->Act->World->Prop}
def dc(nt:Nat)(l:List Oper):Bool:=l.all fun o=>match o.dst with
 |some d=>Nat.blt d nt
 |none=>true
def oO{l:List Oper}(h:dc nt l=true){o:Oper}(ho:o∈l:=by simp):∀d,o.dst=some d->d<nt:=fun d hd=>by
 have:=List.all_eq_true.1 h o ho;simp only[hd,dN] at this;exact this
def FW(ro:Option Nat):Fence:={ Fence.wide with round:=ro }
def Mb{P:Program}{ro:Option Nat}{n:Nat}{f:FuncId}{args:Array Value}{w:World}{R:Ending->World->Prop}(h:Calls P f args w R):CallsIn (FW ro) n P f args w R :=
 xk (n:=n) |>.2 h
def W2{P:Program}{ro:Option Nat}{n:Nat}{row:String}{args:Array Value}{w:World}{R:Value->World->Prop}(h:Rows P row args w R):RowsIn (FW ro) n P row args w R :=
 fun c cs _=>let ⟨v,w',r,s⟩:=h c cs;⟨v,w',r,(stepsIn_wide (P:=P)).2 s⟩
def tN{P:Program}{ro:Option Nat}{o:Oper}{a:Act}{w:World}{K:Act->World->Prop}{Q:Exit->Act->World->Prop}(hnd:∀c,o.op≠ .defer c)(h:o.wp P a w K Q):o.wpIn (FW ro) 0 P a w K Q:=by
 refine⟨fun _ _=>trivial,?_⟩;rw[show(FW ro).round=ro from rfl,Oper.semAt_eq ro a.eval o hnd];unfold Oper.wp at h;generalize (execOp a.eval o).run P w=r at *;cases r with
 |ok x w'=>
  cases x<;>simp only[Oper.upon,Oper.uponIn] at h ⊢ <;>
   first
    |exact h
    |exact⟨fun e=>(by cases e),Mb h⟩
    |exact⟨fun e=>(by cases e),W2 h⟩
 |halt x w'=>cases x<;>simp only[Oper.upon,Oper.uponIn] at h ⊢ <;> exact h
def Cm{ro:Option Nat}(hT:cu P T)(hΦ:CtrOk P I Φ)(hIE:∀w,BelowO E.own E.w0 w->I w){all:Array Oper}{o:Oper}(hd:∀d,o.dst=some d->d<nt){H:ak}{U:Nat->Nat×Nat}{tm:Nat->SV}{bx:Nat->Option Bx}{a:Act}{w:World}{g:Nat}{l:Lg}(h:St E nt H U tm bx a w)(hf:Fact T Φ all o g tm bx l)
 {K:Act->World->Prop} (hK:∀H U a w,St E nt H U (fb tm o.dst l.r) (g6 (bT bx l.e.fz) l.e.wr) a w->K a w) :
 if Region.wanted o (yielded all a.tmps) then o.wpIn (FW ro) 0 P a w K Q else(∀f,o.about P w a.eval=some f->(FW ro).fn f)/\K (a.put o.dst undef) w:=by
 rcases hf with⟨hy,hop⟩|⟨hy,hr,he⟩
 . rw[HO h hy];simp only[bL];refine tN (fun c hc=>?_) (Oper.wp_mono (fun a w hp=>?_) (V9 hT hΦ (fun w' hw'=>hIE w' (h.sim.below.trans (hw'))) h hd hop))
   . unfold mv at hop;rw[hc] at hop;exact hop.elim
   obtain⟨r,e,H,U,⟨rfl,rfl⟩,hS⟩:=hp;exact hK _ _ _ _ hS
 rw[HO h hy];simp only[dB,bM];rw[hr,he] at hK;exact⟨fun _ _=>trivial,hK H U _ w (h.put hd (r:=.und) rfl)⟩
def Sim.drawn{H:ak}{U:Nat->Nat×Nat}{tm:Nat->SV}{bx:Nat->Option Bx}{a:Act}{w:World}(h:St E nt H U tm bx a w):St E nt H U tm bx a { w with drawn:=w.drawn+1 } :=
 ⟨h.sim.sm rfl rfl rfl rfl,h.defers,h.size⟩
def Uw{ro:Option Nat}(hT:cu P T)(hΦ:CtrOk P I Φ)(hIE:∀w,BelowO E.own E.w0 w->I w){all:Array Oper}{K:(Nat->SV)->(Nat->Option Bx)->List Lg->Prop}(hK:∀H U tm bx log a w,K tm bx log->St E nt H U tm bx a w->Q .normal a w) :
 ∀{os:List Oper} {g:Nat} {tm:Nat->SV} {bx:Nat->Option Bx} {log:List Lg} {H:ak} {U:Nat->Nat×Nat} {a:Act} {w:World},dc nt os=true->St E nt H U tm bx a w->gh T Φ all os g tm bx log K->wpListIn (FW ro) 0 P all Q os a w:=by
 intro os;induction os with
 |nil=>intro g tm bx log H U a w _ h ho;exact hK _ _ _ _ _ _ _ ho h
 |cons o os ih=>
  intro g tm bx log H U a w hd h ho;have hd':dc nt os=true:=by
   simp only[dc,dl,aH] at hd;exact hd.2
  have key:∃l:Lg,Fact T Φ all o g tm bx l/\gh T Φ all os (g+1) (fb tm o.dst l.r) (g6 (bT bx l.e.fz) l.e.wr) (l::log) K:=by
   unfold gh at ho;split at ho
   . rename_i hy;obtain⟨r,e,h1,h2⟩:=CE ho;exact⟨⟨r,e⟩,.inl ⟨hy,h1⟩,h2⟩
   . rename_i hy;exact⟨⟨.und,{}⟩,.inr ⟨hy,rfl,rfl⟩,ho⟩
   exact ho.elim
  obtain⟨l,hf,h'⟩:=key;unfold wpListIn;exact Cm hT hΦ hIE (oO hd) h hf fun H U a w hS=>ih hd' hS h'
def WO{ro:Option Nat}(hT:cu P T)(hΦ:CtrOk P I Φ)(hIE:∀w,BelowO E.own E.w0 w->I w){all:Array Oper}{tab:List Nat}(hd:dc nt all.toList=true)(hf:Flow all tab){g:Nat}{tm:Nat->SV}{bx:Nat->Option Bx}{D:Nat->Option Nat}(hD:∀i o,all[i]?=some o->D i=o.dst)(L:Nat->Lg)
 (hfact:∀i o,all[i]?=some o->Fact T Φ all o (g+i) (fun t=>ef D L (fun j=>decide (j<i)) t (List.range all.size) (tm t)) (fun id=>cK L (fun j=>decide (j<i)) id (List.range all.size) (bx id)) (L i))
 (hconf:∀i j,i<all.size->j<all.size->dV tab i j=true\/mb (L i).e (L j).e=false)
 (hQ:∀H U a w,St E nt H U (fun t=>ef D L (fun _=>true) t (List.range all.size) (tm t)) (fun id=>cK L (fun _=>true) id (List.range all.size) (bx id)) a w->Q .normal a w) :
 ∀(fuel:Nat) (listed:Array Bool) (S:Nat->Bool) (H:ak) (U:Nat->Nat×Nat) (a:Act) (w:World),(∀j,j<all.size->listed.getD j true=S j/\listed.getD j false=S j)->((List.range all.size).filter fun j=>!S j).length<=fuel->z7 all S->
  St E nt H U (fun t=>ef D L S t (List.range all.size) (tm t)) (fun id=>cK L S id (List.range all.size) (bx id)) a w->wpAnyIn (FW ro) 0 P .any all Q fuel listed a w:=by
 have lt:∀{j o},all[j]?=some o->j<all.size:=fun h=>(Array.getElem?_eq_some_iff.1 h).1;have edge_iff:∀{o:Oper} {p:Nat->Prop},(∀e∈o.after,Region.binds .any e=true->p e.on)↔∀e∈iC o,p e:=by
  intro o p;unfold iC;constructor
  . intro h e he;obtain⟨x,hx,e'⟩:=List.mem_filterMap.1 he;cases hb:Region.binds .any x with
    |true=>simp[hb] at e';subst e';exact h x (by simpa using hx) hb
    |false=>simp[hb] at e'
  intro h x hx hb;exact h _ (List.mem_filterMap.2 ⟨x,by simpa using hx,by simp[hb]⟩)
 have done:∀{listed:Array Bool} {S:Nat->Bool},(∀j,j<all.size->listed.getD j true=S j/\listed.getD j false=S j)->Region.ready .any all listed=[]->∀j,j<all.size->S j=true:=by
  intro listed S hl hr j;induction j using Nat.strongRecOn with
  |_ j ih=>
   intro hj;cases hS:S j with
   |true=>rfl
   |false=>
    have hg:all[j]?=some all[j]:=by simp[hj]
    have:j∈Region.ready .any all listed:=mem_ready.2 ⟨by rw[(hl j hj).1,hS],all[j],hg,(edge_iff (p:=fun e=>listed.getD e false=true)).2 fun e he=>by
     have:=hf.edge j _ hg e he;rw[(hl e (by omega)).2];exact ih e this (by omega)⟩
    rw[hr] at this;simp at this
 have fin:∀{S:Nat->Bool} {H:ak} {U:Nat->Nat×Nat} {a:Act} {w:World},(∀j,j<all.size->S j=true)->St E nt H U (fun t=>ef D L S t (List.range all.size) (tm t)) (fun id=>cK L S id (List.range all.size) (bx id)) a w->Q .normal a w:=by
  intro S H U a w hS h;refine hQ H U a w ?_;have e1:(fun t=>ef D L S t (List.range all.size) (tm t))=(fun t=>ef D L (fun _=>true) t (List.range all.size) (tm t)):=funext fun t=>vl fun i hi _=>hS i (List.mem_range.1 hi);have e2:(fun id=>cK L S id (List.range all.size) (bx id))=(fun id=>cK L (fun _=>true) id (List.range all.size) (bx id)):=funext fun id=>vw fun i hi hne=>absurd (hS i (List.mem_range.1 hi)) hne;rw[<-e1,<-e2];exact h
 intro fuel;induction fuel with
 |zero=>
  intro listed S H U a w hl hn hc h;have hS:∀j,j<all.size->S j=true:=fun j hj=>by
   have h0:(List.range all.size).filter (fun j=>!S j)=[]:=ss (by omega);have:=List.filter_eq_nil_iff.1 h0 j (List.mem_range.2 hj);simpa using this
  refine⟨?_,fin hS h⟩;cases hr:Region.ready .any all listed with
  |nil=>rfl
  |cons i is=>
   have hi:i∈Region.ready .any all listed:=by rw[hr];simp
   obtain⟨h0,o,ho,_⟩:=mem_ready.1 hi;rw[(hl i (lt ho)).1,hS i (lt ho)] at h0;cases h0
 |succ fuel ih=>
  intro listed S H U a w hl hn hc h;refine⟨fun hr=>fin (done hl hr) h,fun i hi=>?_⟩;obtain⟨h0,o,ho,hall⟩:=mem_ready.1 hi;have hilt:=lt ho;have hSi:S i=false:=by rw[<-(hl i hilt).1];exact h0
  have hre:∀e∈iC o,S e=true:=fun e he=>by
   have:=hf.edge i o ho e he;rw[<-(hl e (by omega)).2];exact(edge_iff (p:=fun e=>listed.getD e false=true)).1 hall e he
  have same:∀j,j<all.size->dV tab i j=true->decide (j<i)=S j:=fun j hj hn=>hf.near_same hc ho (show all[j]?=some all[j] by simp[hj]) hre hSi hn;have hfa:Fact T Φ all o (g+i) (fun t=>ef D L S t (List.range all.size) (tm t)) (fun id=>cK L S id (List.range all.size) (bx id)) (L i):=by
   refine(hfact i o ho).foot (fun t ht=>?_) (fun id hid=>?_) (fun p hp=>?_)
   . refine(vl fun j hj hdj=>?_).symm;have hj:=List.mem_range.1 hj;have hg:all[j]?=some all[j]:=by simp[hj]
     exact same j hj (hf.looks i o ho t ht j _ hg (by rw[<-hD j _ hg];exact hdj))
   . refine Lh (fun j hj hne=>?_) (eqF.refl _);have hj:=List.mem_range.1 hj;rcases hconf j i hj hilt with hn|hm
     . rw[B5] at hn;exact absurd (same j hj hn) hne
     exact Q2 hm (.inl hid)
   refine(vw fun j hj hne=>?_).symm;have hj:=List.mem_range.1 hj;rcases hconf i j hilt hj with hn|hm
   . exact absurd (same j hj hn) hne
   exact(x8 hm hp).1
  unfold wpOpIn;simp only[ho];refine Cm hT hΦ hIE (oO hd (by simpa using NY ho)) h hfa fun H U a w hS=>?_;refine ih _ (fun j=>S j||Nat.beq j i) H U a w (fun j hj=>?_) ?_ ?_ ?_
  .
   by_cases hji:j=i
   .
    subst hji;have hsz:j<listed.size:=by
     rcases gb j listed.size with h'|h'
     . exact h'
     simp[uO h'] at h0
    simp[hsz,bD]
   have hb:Nat.beq j i=false:=by
    cases hb:Nat.beq j i
    . rfl
    exact absurd (aB hb) hji
   rw[FJ true (lE hji),FJ false (lE hji),hb,AZ];exact hl j hj
  . have:=Ck (p:=fun j=>!S j) (p':=fun j=>!(S j||Nat.beq j i)) (i:=i) (by simp[hSi]) (by simp[bD]) (fun j hj=>by simp at hj ⊢;exact hj.1) (List.mem_range.2 hilt);omega
  . intro j o' hj hSj e he;simp only[iW] at hSj ⊢;rcases hSj with hSj|hSj
    . exact .inl (hc j o' hj hSj e he)
    have:=aB hSj;subst this;rw[ho] at hj;cases hj;exact .inl (hre e he)
  have e1:(fun t=>ef D L (fun j=>S j||Nat.beq j i) t (List.range all.size) (tm t))=fb (fun t=>ef D L S t (List.range all.size) (tm t)) o.dst (L i).r:=by
   funext t;rw[J2 (S:=S) (i:=i) (fun _=>rfl) (List.mem_range.2 hilt) (fun j hj h1 h2=>by
    have hj:=List.mem_range.1 hj;have hg:all[j]?=some all[j]:=by simp[hj]
    rw[hD i o ho] at h1;rw[hD j _ hg] at h2;exact hf.uniq j i _ o t hg ho h2 h1)]
   rw[hD i o ho];cases hdo:o.dst with
   |none=>simp[fb]
   |some d=>
    by_cases hdt:d=t
    . subst hdt;simp[fb,a6]
    simp[fb,hdt,aI _ _ _ (lE hdt)]
  have e2:(fun id=>cK L (fun j=>S j||Nat.beq j i) id (List.range all.size) (bx id))=g6 (bT (fun id=>cK L S id (List.range all.size) (bx id)) (L i).e.fz) (L i).e.wr:=by
   funext id;rw[Mi,DH (S:=S) (i:=i) (fun _=>rfl) hSi xl (List.mem_range.2 hilt)];intro j hj hij hSj b;have hj:=List.mem_range.1 hj;have hnn:dV tab i j=false:=by
    cases hn:dV tab i j with
    |false=>rfl
    |true=>
     have:=same j hj hn;rw[hSj] at this;simp at this;omega
   have m1:=(hconf i j hilt hj).resolve_left (by rw[hnn];simp);have m2:=(hconf j i hj hilt).resolve_left (by rw[B5,hnn];simp);exact Rq m2 m1 id b
  rw[e1,e2];exact hS
end
structure Cx where
 P:Program
 I:World->Prop
 T:TypeId->Option TY
 hT:cu P T
 hm:P.follows .mixedOrders=true
 bel:∀n w w',I w->w.heap.size<=n->Below n w w'->I w'
 mu:FuncId->Bool
 ma:FuncId->Bool
 ro:Option Nat->Prop
 r0:ro none
abbrev Cx.C(X:Cx):Ctr:=⟨X.ma,bj X.P X.I,X.mu,aW X.P X.I,bc X.P X.I⟩
def Cx.ok(X:Cx):CtrOk X.P X.I X.C:=⟨fun _ _ _ _ h=>h,fun _ _ _ h=>h,fun _ _ _ _ _ _ _ _ _ h=>h⟩
def tW(X:Cx)(all:Array Oper)(draw:Bool)(Y:AS)(K:AS->Prop):Prop :=
 gh X.T X.C all all.toList Y.nx Y.tm Y.bx [] fun tm bx log=>match draw with
  |true=>Wi (k9 all.toList) log.reverse=true/\K ⟨tm,bx,Y.nx+all.size⟩
  |false=>K ⟨tm,bx,Y.nx+all.size⟩
def CW(X:Cx)(nt:Nat)(c:Code)(Y:AS)(K:Exit->AS->Prop):Prop :=
 ∀(ro:{ r:Option Nat // X.ro r }) (E:Env) (Q:Exit->Act->World->Prop),(∀w,BelowO E.own E.w0 w->X.I w)->(∀e Y' M H U a w,K e Y'->St (E.mks M) nt H U Y'.tm Y'.bx a w->Q e a w)->
  ∀M H U a w,St (E.mks M) nt H U Y.tm Y.bx a w->c.wpIn (FW ro.1) 0 X.P Q a w
def WZ(X:Cx)(nt:Nat)(y:Code)(K:Exit->AS->Prop):Exit->AS->Prop
 | .normal,Y=>CW X nt y Y K
 |e,Y=>K e Y
def zX(id:Nat)(K:Exit->AS->Prop):Exit->AS->Prop
 | .exit i,Y=>bif Nat.beq i id then K .normal Y else K (.exit i) Y
 |e,Y=>K e Y
section
variable {X:Cx}{nt:Nat}{Y:AS}{K:Exit->AS->Prop}
def CW.mono{c:Code}{K':Exit->AS->Prop}(h:CW X nt c Y K')(hk:∀e Y,K' e Y->K e Y):CW X nt c Y K :=
 fun ro E Q hI hQ M H U a w hS=>h ro E Q hI (fun e Y' M H U a w k hS=>hQ e Y' M H U a w (hk _ _ k) hS) M H U a w hS
def CW.skip(h:K .normal Y):CW X nt .skip Y K:=fun _ _ _ _ hQ M H U a w hS=>wpIn_skip (hQ _ _ M H U a w h hS)
def CW.ret(h:K .ret Y):CW X nt .ret Y K:=fun _ _ _ _ hQ M H U a w hS=>wpIn_ret (hQ _ _ M H U a w h hS)
def CW.exit{id:Nat}(h:K (.exit id) Y):CW X nt (.exit id) Y K:=fun _ _ _ _ hQ M H U a w hS=>wpIn_exit (hQ _ _ M H U a w h hS)
def CW.label{l:Nat}(h:K .normal Y):CW X nt (.label l) Y K:=fun _ _ _ _ hQ M H U a w hS=>wpIn_label (hQ _ _ M H U a w h hS)
def CW.seq{x y:Code}(h:CW X nt x Y (WZ X nt y K)):CW X nt (.seq x y) Y K:=fun ro E Q hI hQ M H U a w hS=>
 wpIn_seq (h ro E _ hI (fun e Y' M H U a w k hS=>by
  cases e with
  |normal=>exact k ro E Q hI hQ M H U a w hS
  |_=>exact hQ _ _ M H U a w k hS) M H U a w hS)
def CW.cond{c:Operand}{x y:Code}{t:Bool}(hc:aS Y.tm c=.iv (.bool t))(h1:t=true->CW X nt x Y K)(h2:t=false->CW X nt y Y K):CW X nt (.cond c x y) Y K:=fun ro E Q hI hQ M H U a w hS=>by
 have hv:=bb hS.sim rfl c;rw[hc] at hv;exact FK (oV hv) (fun e=>h1 e ro E Q hI hQ M H U a w hS) (fun e=>h2 e ro E Q hI hQ M H U a w hS)
def CW.block{id:Nat}{c:Code}(h:CW X nt c Y (zX id K)):CW X nt (.block id c) Y K:=fun ro E Q hI hQ M H U a w hS=>
 wpIn_block (h ro E _ hI (fun e Y' M H U a w k hS=>by
  cases e with
  |exit i=>
   simp only[zX] at k;simp only[Exit.inBlock];by_cases hi:i=id
   . subst hi;rw[bD] at k;simp only[bL];exact hQ _ _ M H U a w k hS
   have hb:Nat.beq i id=false:=by
    cases hb:Nat.beq i id
    . rfl
    exact absurd (aB hb) hi
   rw[hb] at k;simp only[hi,bM];exact hQ _ _ M H U a w k hS
  |_=>exact hQ _ _ M H U a w k hS) M H U a w hS)
def Ru{os:List Oper}{recs:List Lg}(hl:recs.length=os.length)(D:Nat->Option Nat)(hD:∀i o,os[i]?=some o->D i=o.dst)(hu:∀(i j:Nat) (o o':Oper) (d:Nat),os[i]?=some o->os[j]?=some o'->o.dst=some d->o'.dst=some d->i=j)(tm:Nat->SV)(bx:Nat->Option Bx):∀k,k<=os.length->
 (((os.zip recs).take k).foldl (fun tm p=>fb tm p.1.dst p.2.r) tm)=(fun t=>ef D (fun i=>recs.getD i default) (fun j=>decide (j<k)) t (List.range os.length) (tm t))/\
 (((os.zip recs).take k).foldl (fun bx p=>g6 (bT bx p.2.e.fz) p.2.e.wr) bx)=(fun id=>cK (fun i=>recs.getD i default) (fun j=>decide (j<k)) id (List.range os.length) (bx id)):=by
 intro k;induction k with
 |zero=>
  intro _;have z1:∀(t:Nat) (l:List Nat) (x:SV),ef D (fun i=>recs.getD i default) (fun j=>decide (j<0)) t l x=x:=by
   intro t l;induction l with
   |nil=>intro x;rfl
   |cons i l ih=>intro x;rw[ef,aq (by simp)];exact ih x
  have z2:∀(t:Nat) (l:List Nat) (x:Option Bx),cK (fun i=>recs.getD i default) (fun j=>decide (j<0)) t l x=x:=by
   intro t l;induction l with
   |nil=>intro x;rfl
   |cons i l ih=>intro x;rw[cK,aq (by simp)];exact ih x
  refine⟨?_,?_⟩
  . funext t;simp only[xm,uJ];exact(z1 t _ _).symm
  funext t;simp only[xm,uJ];exact(z2 t _ _).symm
 |succ k ih=>
  intro hk;obtain⟨i1,i2⟩:=ih (by omega);have ho:os[k]?=some os[k]:=by simp
  have hr:recs[k]?=some (recs[k]'(by omega)):=by simp
  have hz:(os.zip recs)[k]?=some (os[k],recs[k]'(by omega)):=by
   rw[List.getElem?_zip_eq_some];exact⟨ho,hr⟩
  have hg:recs.getD k default=recs[k]'(by omega):=by simp[hr]
  have hS:∀j,decide (j<k+1)=(decide (j<k)||Nat.beq j k):=by
   intro j;by_cases h1:j<k
   . simp[h1];omega
   by_cases h2:j=k
   . subst h2;simp[bD]
   have hb:Nat.beq j k=false:=by
    cases hb:Nat.beq j k
    . rfl
    exact absurd (aB hb) h2
   simp[h1,hb];omega
  have hm:k∈List.range os.length:=List.mem_range.2 (by omega);constructor
  .
   rw[dO,su,i1,hz];funext t;rw[J2 (S:=fun j=>decide (j<k)) (i:=k) hS hm (fun j hj h1 h2=>by
    have hj:=List.mem_range.1 hj;have hgj:os[j]?=some os[j]:=by simp[hj]
    rw[hD k _ ho] at h1;rw[hD j _ hgj] at h2;exact hu j k _ _ t hgj ho h2 h1),hD k _ ho]
   simp only[A0,iV,uJ,hg];cases hdo:os[k].dst with
   |none=>simp[fb]
   |some d=>
    by_cases hdt:d=t
    . subst hdt;simp[fb,a6]
    simp[fb,hdt,aI _ _ _ (lE hdt)]
  rw[dO,su,i2,hz];funext id;rw[DH (S:=fun j=>decide (j<k)) (i:=k) hS (by simp) xl hm (fun j _ h1 h2=>by simp at h2;omega)];simp only[A0,iV,uJ];rw[Mi,hg]
def CW.region{id:Nat}{all:Array Oper}{draw:Bool}(hd:dc nt all.toList=true)(hf:draw=true->pv all (k9 all.toList)=true)(h:tW X all draw Y (K .normal)):CW X nt (.region id all draw) Y K:=fun ro E Q hI hQ M H U a w hS=>by
 unfold tW at h;cases draw with
 |false=>
  exact xn (Uw (E:=E.mks M) X.hT X.ok hI (fun H U tm bx log a w k hS=>hQ .normal ⟨tm,bx,Y.nx+all.size⟩ M H U a w k hS) hd hS h)
 |true=>
  have hfl:=Dv (hf rfl);obtain⟨recs,e1,e2,e3,e4⟩:=PV h;have hlen:all.toList.length=all.size:=by simp
  let D:Nat->Option Nat:=fun i=>(all[i]?).bind (·.dst)
  have hD:∀i o,all[i]?=some o->D i=o.dst:=fun i o ho=>by simp[D,ho]
  have hD':∀i o,all.toList[i]?=some o->D i=o.dst:=fun i o ho=>hD i o (by simpa using ho);have hu:∀(i j:Nat) (o o':Oper) (d:Nat),all.toList[i]?=some o->all.toList[j]?=some o'->o.dst=some d->o'.dst=some d->i=j:=fun i j o o' d h1 h2=>hfl.uniq i j o o' d (by simpa using h1) (by simpa using h2);have zf:=Ru (D:=D) e1 hD' hu Y.tm Y.bx;rw[hlen] at zf;have hall:=zf all.size (ah _);have htk:(all.toList.zip recs).take all.size=all.toList.zip recs:=ay (by simp[e1]);rw[htk] at hall;rw[hall.1,hall.2] at e4;have t1:(fun t=>ef D (fun i=>recs.getD i default) (fun j=>decide (j<all.size)) t (List.range all.size) (Y.tm t))=(fun t=>ef D (fun i=>recs.getD i default) (fun _=>true) t (List.range all.size) (Y.tm t)) :=
   funext fun t=>vl fun i hi _=>by simpa using List.mem_range.1 hi
  have t2:(fun id=>cK (fun i=>recs.getD i default) (fun j=>decide (j<all.size)) id (List.range all.size) (Y.bx id))=(fun id=>cK (fun i=>recs.getD i default) (fun _=>true) id (List.range all.size) (Y.bx id)) :=
   funext fun id=>vw fun i hi hne=>absurd (by simpa using List.mem_range.1 hi) hne
  rw[t1,t2] at e4;refine NZ X.hm (WO (E:=E.mks M) X.hT X.ok hI hd hfl (g:=Y.nx) (tm:=Y.tm) (bx:=Y.bx) hD (fun i=>recs.getD i default) (fun i o ho=>?_) (fun i j hi hj=>?_) (fun H U a w hS=>hQ .normal _ M H U a w e4 hS) all.size _ (fun _=>false) H U a _ (fun j hj=>?_) ?_ ?_ (Sim.drawn ?_))
  .
   have hlt:i<all.size:=(Array.getElem?_eq_some_iff.1 ho).1;have hr:recs[i]?=some (recs.getD i default):=by
    have:i<recs.length:=by omega
    simp[this]
   have:=e2 i o _ (by simpa using ho) hr;rw[(zf i (by omega)).1,(zf i (by omega)).2] at this;exact this
  .
   simp only[eS,qI] at e3;have hi':recs[i]?=some (recs.getD i default):=by
    have:i<recs.length:=by omega
    simp[this]
   have hj':recs[j]?=some (recs.getD j default):=by
    have:j<recs.length:=by omega
    simp[this]
   have:=Gw e3 i _ hi' j _ hj';rwa[a8] at this
  . simp[hj]
  . refine bf (xo _ _) (by simp)
  . intro j o _ h;cases h
  have z1:∀(t:Nat) (l:List Nat) (x:SV),ef D (fun i=>recs.getD i default) (fun _=>false) t l x=x:=by
   intro t l;induction l with
   |nil=>intro x;rfl
   |cons i l ih=>intro x;rw[ef,aq (by simp)];exact ih x
  have z2:∀(t:Nat) (l:List Nat) (x:Option Bx),cK (fun i=>recs.getD i default) (fun _=>false) t l x=x:=by
   intro t l;induction l with
   |nil=>intro x;rfl
   |cons i l ih=>intro x;rw[cK,aq (by simp)];exact ih x
  simp only[z1,z2];exact hS
end
end Go.Proofs.Fl
namespace Go.Proofs.Fl
def ab{α U:Sort _}{a:α}{b:U}:a=a/\b=b:=⟨rfl,rfl⟩
open Go.RowKit
def r5(V:Nat->Nat):SV->SV
 | .ptr g off=>.ptr (V g) off
 | .ref g off n f=>.ref (V g) off n f
 | .eptr g i off=>.eptr (V g) i off
 | .clo f gs=>.clo f (gs.map V)
 | .cv v f gs=>.cv v f (gs.map V)
 |s=>s
def oz(bx:Nat->Option Bx):SV->Bool
 | .ptr g _=>(bx g).isSome
 | .ref g _ _ _=>(bx g).isSome
 | .eptr g _ _=>(bx g).isSome
 | .clo _ gs=>gs.all fun g=>(bx g).isSome
 | .cv _ _ gs=>gs.all fun g=>(bx g).isSome
 |_=>true
structure Wk(Y Y':AS):Prop where
 ex:∃ V:Nat->Nat,(∀t,Y'.tm t=.unk\/(Y.tm t=r5 V (Y'.tm t)/\oz Y'.bx (Y'.tm t)=true))/\(∀g b,Y'.bx g=some b->b=.dead\/Y.bx (V g)=some b)/\
  (∀g g' b b',Y'.bx g=some b->Y'.bx g'=some b'->V g=V g'->g=g')/\(∀i,i<8->Y.bx (aP+i)=none\/(V (aP+i)=aP+i/\Y'.bx (aP+i)≠none))
section
variable {E:Env}{nt:Nat}{H:ak}{U:Nat->Nat × Nat}{a:Act}{w:World}{Y Y':AS}
def SR.weak{bx bx':Nat->Option Bx}{V:Nat->Nat}(hb:∀g b,bx' g=some b->b=.dead\/bx (V g)=some b){v:Value}:∀{s:SV},oz bx' s=true->SR H U bx v (r5 V s)->SR H (fun g=>U (V g)) bx' v s
 | .unk,_,_=>trivial
 | .und,_,h=>h
 | .iv _,_,h=>h
 | .nilS,_,h=>h
 | .iptr _ _,_,h=>h
 | .yld _,_,h=>h
 | .val _,_,h=>h
 | .slN _,_,h=>h
 | .cv u f gs,ho,⟨h0,h1,h2⟩=>by
  simp only[oz,mN] at ho;refine⟨h0,fun g hg e=>?_,?_⟩
  . have:=ho g hg;rw[e] at this;cases this
  rw[h2,cC];rfl
 | .clo f gs,ho,⟨h1,h2⟩=>by
  simp only[oz,mN] at ho;refine⟨fun g hg e=>?_,?_⟩
  . have:=ho g hg;rw[e] at this;cases this
  rw[h2,cC];rfl
 | .ptr g off,ho,h=>by
  refine⟨?_,h.2⟩;simp only[oz] at ho;intro e;rw[e] at ho;cases ho
 | .ref g off n full,ho,h=>by
  simp only[oz] at ho;cases hg:bx' g with
  |none=>rw[hg] at ho;cases ho
  |some b=>
   cases b with
   |var=>simp only[SR,hg]
   |bld=>simp only[SR,hg]
   |arrN=>simp only[SR,hg]
   |dead=>simp only[SR,hg]
   |arr e sz es fz=>
    rcases hb g _ hg with h0|h0
    . cases h0
    simp only[r5,SR,h0] at h;simp only[SR,hg];exact h
 | .eptr g i off,ho,h=>by
  simp only[oz] at ho;cases hg:bx' g with
  |none=>rw[hg] at ho;cases ho
  |some b=>
   cases b with
   |var=>simp only[SR,hg]
   |bld=>simp only[SR,hg]
   |dead=>simp only[SR,hg]
   |arrN p e sz es=>
    rcases hb g _ hg with h0|h0
    . cases h0
    simp only[r5,SR,h0] at h;simp only[SR,hg];exact h
   |arr e sz es fz=>
    rcases hb g _ hg with h0|h0
    . cases h0
    simp only[r5,SR,h0] at h;simp only[SR,hg];exact h
def St.weak(h:St E nt H U Y.tm Y.bx a w)(hw:Wk Y Y'):∃ U',St E nt H U' Y'.tm Y'.bx a w:=by
 obtain⟨V,h1,h2,h3,h4⟩:=hw.ex;refine⟨fun g=>U (V g),⟨h.sim.has,h.sim.below,h.sim.lo,h.sim.ext,fun t=>?_,fun g b hg=>?_,fun g g' b b' hg hg' ha ha' e=>?_,fun p k hk=>?_,h.sim.marks,fun g s g' b R hg hg' ha hR=>?_⟩,h.defers,h.size⟩
 . rcases h1 t with e|⟨e,ho⟩
   . rw[e];trivial
   have:=h.sim.slot t;rw[e] at this;exact this.weak h2 ho
 . rcases h2 g b hg with e|e
   . subst e;trivial
   exact h.sim.box _ _ e
 .
  rcases h2 g b hg with e1|e1
  . subst e1;cases ha
  rcases h2 g' b' hg' with e2|e2
  . subst e2;cases ha'
  exact h3 g g' b b' hg hg' (h.sim.inj _ _ _ _ e1 e2 ha ha' e)
 . obtain⟨p1,p2,p3,p4⟩:=h.sim.pin p k hk;rcases h4 (p-aP) (by omega) with e|⟨e1,e2⟩
   . rw[show aP+(p-aP)=p by omega] at e;exact absurd e p2
   rw[show aP+(p-aP)=p by omega] at e1 e2;exact⟨by show U (V p)=k;rw[e1];exact p1,e2,p3,p4⟩
 rcases h2 g _ hg with e1|e1
 . cases e1
 rcases h2 g' b hg' with e2|e2
 . subst e2;cases ha
 exact h.sim.hid _ s _ b R e1 e2 ha hR
end
def nC:List (Nat×SV)->Nat->SV
 | [],_=>.unk
 |p::l,t=>bif Nat.beq t p.1 then p.2 else nC l t
def dG:List (Nat×Bx)->Nat->Option Bx
 | [],_=>none
 |p::l,t=>bif Nat.beq t p.1 then some p.2 else dG l t
def aF(l:List (Nat×SV))(m:List (Nat×Bx))(nx:Nat):AS:=⟨nC l,dG m,nx⟩
def nD:List (Nat×Nat)->Nat->Nat
 | [],g=>g
 |p::l,g=>bif Nat.beq g p.1 then p.2 else nD l g
def DW(tm:Nat->SV)(r:List (Nat×Nat))(bx':Nat->Option Bx):List (Nat×SV)->Prop
 | []=>True
 |p::l=>(tm p.1=r5 (nD r) p.2/\oz bx' p.2=true)/\DW tm r bx' l
def wq(bx:Nat->Option Bx)(r:List (Nat×Nat)):List (Nat×Bx)->Prop
 | []=>True
 |p::l=>bx (nD r p.1)=some p.2/\wq bx r l
def yL:∀{l:List (Nat×SV)} {t:Nat},nC l t=.unk\/(t,nC l t)∈l
 | [],_=>.inl rfl
 |p::l,t=>by
  unfold nC;cases h:Nat.beq t p.1 with
  |true=>
   have:=aB h;subst this;exact .inr (by simp)
  |false=>
   rcases yL (l:=l) (t:=t) with h|h
   . exact .inl h
   exact .inr (dC _ h)
def jo:∀{l:List (Nat×Bx)} {t:Nat} {b:Bx},dG l t=some b->(t,b)∈l
 | [],_,_,h=>by simp[dG] at h
 |p::l,t,b,h=>by
  unfold dG at h;cases hb:Nat.beq t p.1 with
  |true=>
   have:=aB hb;subst this;simp[hb] at h;rw[<-h];simp
  |false=>
   rw[hb] at h;exact dC _ (jo h)
def G5{tm:Nat->SV}{r:List (Nat×Nat)}{bx':Nat->Option Bx}:∀{l:List (Nat×SV)},DW tm r bx' l->∀p∈l,tm p.1=r5 (nD r) p.2/\oz bx' p.2=true
 | [],_,p,h=>by simp at h
 |q::l,hs,p,h=>by
  rcases List.mem_cons.1 h with rfl|h
  . exact hs.1
  exact G5 hs.2 p h
def ya{bx:Nat->Option Bx}{r:List (Nat×Nat)}:∀{l:List (Nat×Bx)},wq bx r l->∀p∈l,bx (nD r p.1)=some p.2
 | [],_,p,h=>by simp at h
 |q::l,hs,p,h=>by
  rcases List.mem_cons.1 h with rfl|h
  . exact hs.1
  exact ya hs.2 p h
def oj(bx:Nat->Option Bx)(r:List (Nat×Nat))(m:List (Nat×Bx))(i:Nat):Prop:=bx (aP+i)=none\/(nD r (aP+i)=aP+i/\(dG m (aP+i)).isSome=true)
def pinsW(bx:Nat->Option Bx)(r:List (Nat×Nat))(m:List (Nat×Bx)):Prop:=oj bx r m 0/\oj bx r m 1/\oj bx r m 2/\oj bx r m 3/\oj bx r m 4/\oj bx r m 5/\oj bx r m 6/\oj bx r m 7
def pinsW.get{bx:Nat->Option Bx}{r:List (Nat×Nat)}{m:List (Nat×Bx)}(h:pinsW bx r m):∀i,i<8->oj bx r m i
 |0,_=>h.1
 |1,_=>h.2.1
 |2,_=>h.2.2.1
 |3,_=>h.2.2.2.1
 |4,_=>h.2.2.2.2.1
 |5,_=>h.2.2.2.2.2.1
 |6,_=>h.2.2.2.2.2.2.1
 |7,_=>h.2.2.2.2.2.2.2
 |n+8,hn=>absurd hn (by omega)
def Wk.tab{Y:AS}{l:List (Nat×SV)}{m:List (Nat×Bx)}{nx:Nat}(r:List (Nat×Nat))(h1:DW Y.tm r (dG m) l)(h2:wq Y.bx r m)(h3:uniq (m.map fun p=>(nD r p.1,p.1))=true)
 (h4:pinsW Y.bx r m:=by(refine⟨?_,?_,?_,?_,?_,?_,?_,?_⟩<;>first|exact .inl rfl|exact .inr ⟨rfl,rfl⟩)):Wk Y (aF l m nx):=by
 refine⟨nD r,fun t=>?_,fun g b hg=>?_,fun g g' b b' hg hg' e=>?_,fun i hi=>(h4.get i hi).imp id fun e=>⟨e.1,fun en=>by have:=e.2;rw[show dG m (aP+i)=none from en] at this;cases this⟩⟩
 . rcases yL (l:=l) (t:=t) with h|h
   . exact .inl h
   have:=G5 h1 _ h;exact .inr this
 . exact .inr (ya h2 _ (jo hg))
 have m1:=jo hg;have m2:=jo hg';have:=BN h3 (nD r g,g) (List.mem_map.2 ⟨_,m1,rfl⟩) (nD r g',g') (List.mem_map.2 ⟨_,m2,rfl⟩) e;exact(Prod.mk.inj this).2
def Se{p:Nat->Prop}:∀{n:Nat},p n->∃m,p m/\∀k,p k->m<=k:=by
 intro n;induction n using Nat.strongRecOn with
 |_ n ih=>
  intro hn;by_cases h:∃k,k<n/\p k
  . obtain⟨k,h1,h2⟩:=h;exact ih k h1 h2
  exact⟨n,hn,fun k hk=>by
   rcases gb k n with h'|h'
   . exact absurd ⟨k,h',hk⟩ h
   exact h'⟩
open Classical in
noncomputable def n5(p:Nat->Prop):Nat:=if h:∃m,p m/\∀k,p k->m<=k then h.choose else 0
def x4{p:Nat->Prop}{n:Nat}(h:p n):p (n5 p)/\n5 p<=n:=by
 have he:=Se h;unfold n5;rw[dif_pos he];exact⟨he.choose_spec.1,he.choose_spec.2 n h⟩
def My{G:Type}(inv:G->AS)(μ:G->Nat)(g:G)(K:Exit->AS->Prop):Exit->AS->Prop
 | .normal,Y=>∃g',Wk Y (inv g')/\μ g'<μ g
 |e,Y=>K e Y
def MB{G:Type}(inv:G->AS)(K:Exit->AS->Prop):Exit->AS->Prop
 | .normal,Y=>∃g',Wk Y (inv g')
 |e,Y=>K e Y
section
variable {X:Cx}{nt:Nat}{Y:AS}{K:Exit->AS->Prop}
def CW.weak{c:Code}{Y':AS}(hw:Wk Y Y')(h:CW X nt c Y' K):CW X nt c Y K:=fun ro E Q hI hQ M H U a w hS=>by
 obtain⟨U',hS'⟩:=hS.weak hw;exact h ro E Q hI hQ M H U' a w hS'
def CW.loop{G:Type}(inv:G->AS)(μ:G->Nat){c:Code}(g0:G)(h0:Wk Y (inv g0))(h:∀g,CW X nt c (inv g) (My inv μ g K)):CW X nt (.loop c) Y K:=fun ro E Q hI hQ M0 H U a w hS=>by
 let J:G->Act->World->Prop:=fun g a w=>∃M H U,St (E.mks M) nt H U (inv g).tm (inv g).bx a w
 let M:Act->World->Nat:=fun a w=>n5 fun n=>∃g,μ g=n/\J g a w
 obtain⟨β0,hS0⟩:=hS.weak h0;refine wpIn_loop (fun a w=>∃g,J g a w) M ⟨g0,M0,H,β0,hS0⟩ fun a w ⟨g1,hJ1⟩=>?_;obtain⟨⟨g,e,hJ⟩,_⟩:=x4 (p:=fun n=>∃g,μ g=n/\J g a w) ⟨g1,rfl,hJ1⟩;obtain⟨M1,H1,β1,hS1⟩:=hJ;refine h g ro E _ hI (fun e' Y' M2 H U a' w' k hS=>?_) M1 H1 β1 a w hS1;cases e' with
 |normal=>
  obtain⟨g',hw,hlt⟩:=k;obtain⟨U',hS'⟩:=hS.weak hw;have hJ':J g' a' w':=⟨M2,H,U',hS'⟩;have:=(x4 (p:=fun n=>∃g,μ g=n/\J g a' w') ⟨g',rfl,hJ'⟩).2;refine⟨⟨g',hJ'⟩,?_⟩;show n5 _<n5 _;rw[<-e];exact jN this hlt
 |_=>exact hQ _ _ M2 H U a' w' k hS
def CW.join{G:Type}(inv:G->AS){x y:Code}(h1:CW X nt x Y (MB inv K))(h2:∀g,CW X nt y (inv g) K):CW X nt (.seq x y) Y K:=CW.seq (h1.mono fun e Y' k=>by
 cases e with
 |normal=>obtain⟨g,hw⟩:=k;exact CW.weak hw (h2 g)
 |_=>exact k)
end
def argS:List IV->Nat->SV
 | [],_=>.und
 |x::_,0=>.iv x
 |_::l,t+1=>argS l t
def kY(T:TypeId->Option TY)(tm:Nat->SV)(bx:Nat->Option Bx):List ResultVar->Option (List IV×List Nat)
 | []=>some ([],[])
 | .tmp t::rs=>match dL bx (tm t) with
  |some (x,f)=>match kY T tm bx rs with
   |some (xs,fs)=>some (x::xs,f++fs)
   |none=>none
  |none=>none
 | .cell a t::rs=>match T t,tm a with
  |some ty,.ptr g off=>match bx g with
   |some (.var y)=>match jE ty.sh.agg ty.size y off with
    |some x=>match kY T tm bx rs with
     |some (xs,fs)=>some (x::xs,fs)
     |none=>none
    |none=>none
   |_=>none
  |_,_=>none
def iD:List IV->IV
 | [x]=>x
 |xs=>.tup xs
def pQ(T:TypeId->Option TY)(rs:List ResultVar)(r:IV)(Y:AS):Prop :=
 match kY T Y.tm Y.bx rs with
 |some (xs,_)=>iD xs=r
 |none=>False
def M4(T:TypeId->Option TY)(rs:List ResultVar)(r:IV):Exit->AS->Prop
 | .normal,Y=>pQ T rs r Y
 | .ret,Y=>pQ T rs r Y
 |_,_=>False
def Dc{T:TypeId->Option TY}{tm:Nat->SV}{bx:Nat->Option Bx}(f:List Nat):∀{rs:List ResultVar} {r:List IV×List Nat},kY T tm bx rs=some r->kY T tm (bT bx f) rs=some r
 | [],r,h=>h
 | .tmp t::rs,r,h=>by
  simp only[kY,vV] at h ⊢;split at h
  . split at h
    . rename_i h2;rw[Dc f h2];exact h
    cases h
  cases h
 | .cell a t::rs,r,h=>by
  simp only[kY] at h ⊢;split at h
  .
   split at h
   .
    rename_i hb;rw[Ce f _ _ _ hb];split at h
    . split at h
      . rename_i h1 _ _ _ h2;simp only[h1,Dc f h2];exact h
      cases h
    cases h
   cases h
  cases h
def nn(tmps:Array Value):ResultVar->Sem Value
 | .tmp t=>pure (tmps.getD t undef)
 | .cell a t=>do loadVar t (<- asAddr (tmps.getD a undef))
def yP{P:Program}{T:TypeId->Option TY}(hT:cu P T){E:Env}{tmps:Array Value}{w:World}{U:Nat->Nat×Nat}{tm:Nat->SV}:∀{rs:List ResultVar} {H:ak} {bx:Nat->Option Bx} (_:Sim E H U tm bx tmps w) {xs:List IV} {fs:List Nat},kY T tm bx rs=some (xs,fs)->
 ∃H',HLe H H'/\Sim E H' U tm (bT bx fs) tmps w/\∃vs:List Value,(rs.mapM (nn tmps)).run P w=.ok vs w/\VRL H' vs xs
 | [],H,bx,h,xs,fs,hr=>by
  simp only[kY,ai,aC] at hr;obtain⟨rfl,rfl⟩:=hr;exact⟨H,HLe.refl _,h,[],by simp,.nil⟩
 | .tmp t::rs,H,bx,h,xs,fs,hr=>by
  simp only[kY] at hr;split at hr
  . rename_i x f h1;split at hr
    . rename_i ys gs h2;simp only[ai,aC] at hr;obtain⟨rfl,rfl⟩:=hr;obtain⟨H1,l1,S1,V1⟩:=nb h (h.slot t) h1;obtain⟨H2,l2,S2,vs,e,V2⟩:=yP hT S1 (Dc f h2);refine⟨H2,l1.trans l2,by rw[uY];exact S2,tmps.getD t undef::vs,?_,.cons _ _ _ _ (V1.mono l2) V2⟩;simp only[A1,nn,aw,aA,av,e]
    cases hr
  cases hr
 | .cell a t::rs,H,bx,h,xs,fs,hr=>by
  simp only[kY] at hr;split at hr
  .
   rename_i ty g off ht ha;split at hr
   .
    rename_i y hb;split at hr
    . rename_i x hl;split at hr
      . rename_i ys gs h2;simp only[ai,aC] at hr;obtain⟨rfl,rfl⟩:=hr;obtain⟨i,d,z,ok⟩:=aT (hT t ty ht);have hv:=h.slot a;rw[ha] at hv;obtain⟨_,hv⟩:=hv;obtain⟨_,_,_,v,e,h4,h5⟩:=h.box g _ hb;obtain⟨u,hr,hu⟩:=sJ (base:=0) ok h5 h4 (by rw[bW,ay (by simp)]) hl;rw[a8] at hr;obtain⟨H2,l2,S2,vs,e2,V2⟩:=yP hT h h2;refine⟨H2,l2,S2,u::vs,?_,.cons _ _ _ _ (hu.mono l2) V2⟩;simp only[A1,nn,hv,asAddr,aw,aA,av,hr,e2]
      cases hr
    cases hr
   cases hr
  cases hr
def yJ:∀{xs:List IV} {t:Nat},argS xs t=(match xs[t]? with|some x=>.iv x|none=>.und)
 | [],_=>rfl
 |x::l,0=>rfl
 |x::l,t+1=>by rw[argS,yJ];rfl
def Sim.poke{E:Env}{H:ak}{U:Nat->Nat×Nat}{tm:Nat->SV}{bx:Nat->Option Bx}{tmps:Array Value}{w:World}(h:Sim E H U tm bx tmps w){D:Nat}{o:Obj}(o':Obj)(hD:w.heap[D]?=some o)(hc:o.isCells=false)
 (ho:E.own D) (hm:∀d∈E.mrk,d≠ { target:=.collected D,args := #[] }):Sim E H U tm bx tmps (w.putObj D o') where
 has b arr e:=by
  obtain⟨t,fr,ht⟩:=h.has b arr e;refine⟨t,fr,(c8 fun e'=>?_).trans ht⟩;rw[e',hD] at ht;cases ht;cases hc
 below:=h.below.trans ⟨rfl,rfl,rfl,by simp,fun k hk=>c8 fun e=>hk (by rw[e];exact ho)⟩
 lo k hk:=h.lo k (by simpa using hk)
 ext:=h.ext
 slot:=h.slot
 box g b hg:=by
  by_cases ha:b.alive=true
  . refine(h.box g b hg).keep (c8 fun e=>?_) (HLe.refl _) id (fun s R eb hR=>⟨c8 fun e=>?_,id⟩)
    . obtain⟨arr,e',hx⟩:=(h.box g b hg).cells ha;rw[e,hD] at hx;cases hx;cases hc
    subst eb;obtain⟨_,_,arr,_,fz,hx⟩:=kK (h.box g _ hg).2.2.1 hR;rw[e,hD] at hx;cases hx;cases hc
  cases b<;>first|trivial|simp[Bx.alive] at ha
 inj:=h.inj
 pin:=h.pin
 marks:=⟨h.marks.1,fun d hd=>by
  obtain⟨D',e,ho',hb⟩:=h.marks.2 d hd;refine⟨D',e,ho',(c8 fun e'=>?_).trans hb⟩;exact hm d hd (by rw[e,e'])⟩
 hid g s g' b R h1 h2 ha hR:=h.hid g s g' b R h1 h2 ha (hR.sm (c8 fun e=>by
  obtain⟨arr,e',hx⟩:=(h.box g _ h1).cells rfl;rw[e,hD] at hx;cases hx;cases hc))
def Sim.unmark{E:Env}{M M':List Deferred}{H:ak}{U:Nat->Nat×Nat}{tm:Nat->SV}{bx:Nat->Option Bx}{tmps:Array Value}{w:World}(h:Sim (E.mks M) H U tm bx tmps w)(hm:MarksOk E.own M' w):Sim (E.mks M') H U tm bx tmps w :=
 ⟨h.has,h.below,h.lo,h.ext,h.slot,h.box,h.inj,h.pin,hm,h.hid⟩
def tn{P:Program}{fn:Func}{R:Ending->World->Prop}{E:Env}{nt:Nat}{H:ak}{U:Nat->Nat×Nat}{tm:Nat->SV}{bx:Nat->Option Bx}:∀(M:List Deferred) {a:Act} {w:World},St (E.mks M) nt H U tm bx a w->
 (∀a' w',St (E.mks []) nt H U tm bx a' w'->a'.tmps=a.tmps->∃v,(results fn a'.tmps).run P w'=.ok v w'/\R (.returned v) w')->LeavesInM (FW none) 0 P fn a.tmps R M .returning w
 | [],a,w,h,hk=>hk a w h rfl
 |d::M,a,w,h,hk=>by
  obtain⟨D,e,ho,hb⟩:=h.sim.marks.2 d (by simp);have hp:=h.sim.marks.1;refine⟨by simp,.inl ⟨D,w.putObj D (.deferred none),by rw[e],N0 hb,?_⟩⟩;have h1:=h.sim.unmark (M':=M) ⟨(List.pairwise_cons.1 hp).2,fun d' hd'=>h.sim.marks.2 d' (dC _ hd')⟩;have h2:=h1.poke (.deferred none) hb rfl ho (fun d' hd' e'=>(List.pairwise_cons.1 hp).1 d' hd' (by rw[e,e']));exact tn M (a:={ a with defers:=M }) ⟨h2,rfl,h.size⟩ hk
def TW{X:Cx}{f:FuncId}{fn:Func}{c:Code}(hf:X.P.funcs[f]?=some fn)(hb:fn.body=some c)(hn:(fn.name == "runtime.NumGoroutine")=false){xs:List IV}{r:IV}(hx:xs.length<=fn.ntmps)
 (h:CW X fn.ntmps c ⟨argS xs,fun _=>none,0⟩ (M4 X.T fn.results.toList r)):aW X.P X.I f xs r:=by
 refine⟨⟨fn,hf,hn,by rw[hb];rfl⟩,fun H w args hI hH hargs=>?_⟩;have hlen:=hargs.length;refine(xk (n:=0)).1 (xp hf hb trivial ?_);refine h ⟨none,X.r0⟩ ⟨fun k=>w.heap.size<=k,w,H,fun _=>none,[]⟩ _ (fun w' hw'=>X.bel _ _ _ hI (ah _) hw'.below) (fun e Y' M H' U a0 w0 k hS0=>?_) [] H (fun _=>(0,0)) _ w ⟨⟨hH,BelowO.refl _ _,fun _ hk=>hk,HExtO.refl _ _,fun t=>?_,fun g b hg=>(by cases hg),fun g g' b b' hg=>(by cases hg),fun p k hk=>(by cases hk),MarksOk.nil _ _,fun g s g' b R hg=>(by cases hg)⟩,rfl,?_⟩
 .
  have key:pQ X.T fn.results.toList r Y'->∀a' w',St ⟨fun k=>w.heap.size<=k,w,H,fun _=>none,[]⟩ fn.ntmps H' U Y'.tm Y'.bx a' w'->a'.tmps=a0.tmps->∃v,(results fn a'.tmps).run X.P w'=.ok v w'/\(∃v1 H1,Ending.returned v=.returned v1/\HeapHas w' H1/\HExt w.heap.size H H1/\VR H1 v1 r/\Below w.heap.size w w'):=fun k a' w' hS _=>by
   unfold pQ at k;split at k
   .
    rename_i ys fs hr;obtain⟨H1,l1,S1,vs,e1,V1⟩:=yP X.hT hS.sim hr;refine⟨(if h:vs.toArray.size=1 then vs.toArray[0] else .tuple vs.toArray),?_,_,H1,rfl,S1.has,S1.ext,?_,S1.below.below⟩
    . unfold results;have e0:(fn.results.mapM fun | .tmp t=>pure (a'.tmps.getD t undef) | .cell a t=>do loadVar t (<- asAddr (a'.tmps.getD a undef)):Sem (Array Value))=List.toArray <$> fn.results.toList.mapM (nn a'.tmps):=by
       rw[FL];rfl
      refine(aL (fun(x:Sem (Array Value))=>(x >>= fun vs=>pure (if h:vs.size=1 then vs[0] else .tuple vs)).run X.P w') e0).trans ?_;simp only[aw,FM,e1,av,aA]
    rw[<-k];cases V1 with
    |nil=>exact .tup [] [] .nil
    |cons v x vs xs h0 t=>
     cases t with
     |nil=>exact h0
     |cons v' x' vs xs h1 t=>
      have:¬(v::v'::vs).toArray.size=1:=by simp
      rw[dif_neg this];exact .tup _ _ (.cons _ _ _ _ h0 (.cons _ _ _ _ h1 t))
   exact k.elim
  cases e with
  |normal=>(show LeavesInM (FW none) 0 X.P fn a0.tmps (fun e w'=>∃v H',e=.returned v/\HeapHas w' H'/\HExt w.heap.size H H'/\VR H' v r/\Below w.heap.size w w') a0.defers .returning w0;rw[hS0.defers];exact tn M hS0 (key k))
  |ret=>(show LeavesInM (FW none) 0 X.P fn a0.tmps (fun e w'=>∃v H',e=.returned v/\HeapHas w' H'/\HExt w.heap.size H H'/\VR H' v r/\Below w.heap.size w w') a0.defers .returning w0;rw[hS0.defers];exact tn M hS0 (key k))
  |_=>exact k.elim
 .
  show SR _ _ _ _ (argS xs t);rw[yJ];cases hx':xs[t]? with
  |some x=>
   have hlt:t<args.length:=by rw[hlen];exact(List.getElem?_eq_some_iff.1 hx').1
   obtain⟨v,h1,h2⟩:=hargs.get t x hx';have:(args.toArray++Array.replicate (fn.ntmps-args.toArray.size) undef).getD t undef=v:=by
    simp[jO,hlt];exact(List.getElem?_eq_some_iff.1 h1).2
   rw[this];exact h2
  |none=>
   have hge:¬t<args.length:=by
    intro hlt;rw[hlen] at hlt;simp[hlt] at hx'
   show _=undef;simp[jO,hge,xq];split<;>rfl
 show(args.toArray++Array.replicate (fn.ntmps-args.toArray.size) undef).size=fn.ntmps;simp;omega
def At(T:TypeId->Option TY)(Y:AS)(rs:List ResultVar):Bool :=
 match kY T Y.tm Y.bx rs with
 |some (_,fs)=>!fs.any (Nat.beq aP)
 |none=>false
def No(off n:Nat)(xs:List IV):Nat->SV
 |0=>.ref aP off n false
 |t+1=>argS xs t
def MY(T:TypeId->Option TY)(rs:List ResultVar)(b:Bx)(r:IV):Exit->AS->Prop
 | .normal,Y=>pQ T rs r Y/\Y.bx aP=some b/\At T Y rs=true
 | .ret,Y=>pQ T rs r Y/\Y.bx aP=some b/\At T Y rs=true
 |_,_=>False
def Wj{X:Cx}{f:FuncId}{fn:Func}{c:Code}(hf:X.P.funcs[f]?=some fn)(hb:fn.body=some c)(hn:(fn.name == "runtime.NumGoroutine")=false){e:TypeId}{sz off n:Nat}{es es':List IV}{xs:List IV}{r:IV}(hx:xs.length+1<=fn.ntmps)
 (h:CW X fn.ntmps c ⟨No off n xs,dG [(aP,.arr e sz es false)],0⟩ (MY X.T fn.results.toList (.arr e sz es' false) r)):bc X.P X.I f e sz off n es xs es' r:=by
 refine⟨⟨fn,hf,hn,by rw[hb];rfl⟩,fun H w b cap capS args hI hH hbr hc1 hc2 hc3 hargs=>?_⟩;have hlen:=hargs.length;have hblt:b<w.heap.size:=hbr.lt rfl;refine(xk (n:=0)).1 (xp hf hb trivial ?_);refine h ⟨none,X.r0⟩ ⟨fun k=>k=b\/w.heap.size<=k,w,H,fun g=>bif Nat.beq g aP then some (b,cap) else none,[]⟩ _ (fun w' hw'=>hI w' hw') (fun e1 Y' M H' U a0 w0 k hS0=>?_) [] H (fun _=>(b,cap)) _ w ⟨⟨hH,BelowO.refl _ _,fun _ hk=>.inr hk,HExtO.refl _ _,fun t=>?_,fun g b0 hg=>?_,fun g g' b0 b' hg hg' _ _ _=>?_,fun p k hk=>?_,MarksOk.nil _ _,fun g s g' b R hg=>(by simp only[dG] at hg;cases hb:Nat.beq g aP<;>rw[hb] at hg<;>cases hg)⟩,rfl,?_⟩
 .
  have key:(pQ X.T fn.results.toList r Y'/\Y'.bx aP=some (.arr e sz es' false)/\At X.T Y' fn.results.toList=true)->∀a' w',St ⟨fun k=>k=b\/w.heap.size<=k,w,H,fun g=>bif Nat.beq g aP then some (b,cap) else none,[]⟩ fn.ntmps H' U Y'.tm Y'.bx a' w'->a'.tmps=a0.tmps->∃v,(results fn a'.tmps).run X.P w'=.ok v w'/\(∃v1 H1,Ending.returned v=.returned v1/\HeapHas w' H1/\HExtO (fun k=>w.heap.size<=k) H H1/\VR H1 v1 r/\BelowO (fun k=>k=b\/w.heap.size<=k) w w'/\BR (fun k=>k=b\/w.heap.size<=k) w' H1 (b,cap) (.arr e sz es' false)):=fun⟨k,kb,kf⟩ a' w' hS _=>by
   unfold pQ at k;unfold At at kf;split at k
   .
    rename_i ys fs hr;rw[hr] at kf;have hnf:¬aP∈fs:=fun hm=>by
     simp only[DI.2 hm] at kf;cases kf
    obtain⟨H1,l1,S1,vs,e2,V1⟩:=yP X.hT hS.sim hr;have hp:=S1.pin aP (b,cap) rfl;have hbx:bT Y'.bx fs aP=some (.arr e sz es' false):=by rw[sL fs _ _ hnf];exact kb
    have hbr':=S1.box aP _ hbx;rw[hp.1] at hbr';refine⟨(if h:vs.toArray.size=1 then vs.toArray[0] else .tuple vs.toArray),?_,_,H1,rfl,S1.has,⟨S1.ext.1,fun k arr hk=>?_⟩,?_,S1.below,hbr'⟩
    . unfold results;have e0:(fn.results.mapM fun | .tmp t=>pure (a'.tmps.getD t undef) | .cell a t=>do loadVar t (<- asAddr (a'.tmps.getD a undef)):Sem (Array Value))=List.toArray <$> fn.results.toList.mapM (nn a'.tmps):=by
       rw[FL];rfl
      refine(aL (fun(x:Sem (Array Value))=>(x >>= fun vs=>pure (if h:vs.size=1 then vs[0] else .tuple vs)).run X.P w') e0).trans ?_;simp only[aw,FM,e2,av,aA]
    .
     rcases S1.ext.2 k arr hk with h0|h0
     . exact .inl h0
     rcases h0 with h0|h0
     . subst h0;have hnone:H1 k=none:=by simpa using hbr'.2.choose_spec.choose_spec.2.1
       rw[hnone] at hk;cases hk
     exact .inr h0
    rw[<-k];cases V1 with
    |nil=>exact .tup [] [] .nil
    |cons v x vs xs h0 t=>
     cases t with
     |nil=>exact h0
     |cons v' x' vs xs h1 t=>
      have:¬(v::v'::vs).toArray.size=1:=by simp
      rw[dif_neg this];exact .tup _ _ (.cons _ _ _ _ h0 (.cons _ _ _ _ h1 t))
   exact k.elim
  cases e1 with
  |normal=>(show LeavesInM (FW none) 0 X.P fn a0.tmps (fun e' w'=>∃v H',e'=.returned v/\HeapHas w' H'/\HExtO (fun k=>w.heap.size<=k) H H'/\VR H' v r/\BelowO (fun k=>k=b\/w.heap.size<=k) w w'/\
   BR (fun k=>k=b\/w.heap.size<=k) w' H' (b,cap) (.arr e sz es' false)) a0.defers .returning w0;rw[hS0.defers];exact tn M hS0 (key k))
  |ret=>(show LeavesInM (FW none) 0 X.P fn a0.tmps (fun e' w'=>∃v H',e'=.returned v/\HeapHas w' H'/\HExtO (fun k=>w.heap.size<=k) H H'/\VR H' v r/\BelowO (fun k=>k=b\/w.heap.size<=k) w w'/\
   BR (fun k=>k=b\/w.heap.size<=k) w' H' (b,cap) (.arr e sz es' false)) a0.defers .returning w0;rw[hS0.defers];exact tn M hS0 (key k))
  |_=>exact k.elim
 .
  cases t with
  |zero=>
   show SR _ _ _ _ (.ref aP off n false);have hb0:dG [(aP,Bx.arr e sz es false)] aP=some (.arr e sz es false):=rfl;simp only[SR,hb0];refine⟨capS,?_,hc1,hc2,hc3,by simp⟩;simp[jO]
  |succ t=>
   show SR _ _ _ _ (argS xs t);rw[yJ];cases hx':xs[t]? with
   |some x=>
    have hlt:t<args.length:=by rw[hlen];exact(List.getElem?_eq_some_iff.1 hx').1
    obtain⟨v,h1,h2⟩:=hargs.get t x hx';have:((.slice (some ⟨b,off*sz,none⟩) n capS::args).toArray++Array.replicate (fn.ntmps-(.slice (some ⟨b,off*sz,none⟩) n capS::args).toArray.size) undef).getD (t+1) undef=v:=by
     simp[jO,hlt];exact(List.getElem?_eq_some_iff.1 h1).2
    rw[this];exact h2
   |none=>
    have hge:¬t<args.length:=by
     intro hlt;rw[hlen] at hlt;simp[hlt] at hx'
    show _=undef;simp[jO,hge,xq];split<;>rfl
 . have hm:=jo hg;simp at hm;obtain⟨rfl,rfl⟩:=hm;exact hbr
 . have hm:=jo hg;have hm':=jo hg';simp at hm hm';rw[hm.1,hm'.1]
 .
  replace hk:(bif Nat.beq p aP then some (b,cap) else none)=some k:=hk
  cases hb:Nat.beq p aP with
  |false=>rw[hb] at hk;cases hk
  |true=>
   rw[hb] at hk;cases hk;have e:=aB hb;subst e;exact⟨rfl,by simp[dG,bD],by omega,ah _⟩
 show((Value.slice (some ⟨b,off*sz,none⟩) n capS::args).toArray++Array.replicate (fn.ntmps-(Value.slice (some ⟨b,off*sz,none⟩) n capS::args).toArray.size) undef).size=fn.ntmps;simp;omega
end Go.Proofs.Fl
namespace Go.Proofs.Fl
open Go.RowKit
inductive Tr where
 |leaf (b:Nat) (l:List (Option TY))
 |node (k:Nat) (l r:Tr)
def EH:List (Option TY)->Nat->Option TY
 | [],_=>none
 |x::_,0=>x
 |_::l,n+1=>EH l n
def H8:∀{l:List (Option TY)} {n:Nat},l.length<=n->EH l n=none
 | [],_,_=>rfl
 |_::_,0,h=>by cases h
 |_::l,n+1,h=>H8 (l:=l) (n:=n) (by simpa using h)
noncomputable def Tr.get:Tr->Nat->Option TY
 | .leaf b l,t=>EH l (t-b)
 | .node k l r,t=>bif Nat.blt t k then l.get t else r.get t
def Tr.small(n:Nat):Tr->Bool
 | .leaf b l=>Nat.ble (b+l.length) n
 | .node k _ r=>Nat.ble k n&&r.small n
def HK{n t:Nat}(hn:n<=t):∀{s:Tr},s.small n=true->s.get t=none
 | .leaf b l,h=>H8 (by rw[Tr.small,Nat.ble_eq] at h;omega)
 | .node k l r,h=>by
  simp only[Tr.small,aH,Nat.ble_eq] at h;have:Nat.blt t k=false:=by
   cases hb:Nat.blt t k
   . rfl
   rw[dN] at hb;omega
  rw[Tr.get,this];exact HK hn h.2
def q1:TY:=⟨.int .i64,1,8,.int .i64 0,[]⟩
def q2:TY:=⟨.bool,1,1,.bool false,[]⟩
def q3:TY:=⟨.int .u8,1,1,.int .u8 0,[]⟩
def q4:TY:=⟨.struct,4,24,.agg [.int .i64 0,.int .i64 0,.bool false,.int .u8 0],[(0,false,1),(1,false,1),(2,false,1),(3,false,1)]⟩
def q5:TY:=⟨.string,1,16,.str [],[]⟩
def q6:TY:=⟨.int .u64,1,8,.int .u64 0,[]⟩
def XX:TY:=⟨.int .i64,1,8,.int .i64 0,[]⟩
def Fg:TY:=⟨.int .i64,1,8,.int .i64 0,[]⟩
def pM:TY:=⟨.slice 55,1,24,.sl [],[]⟩
def Xv:TY:=⟨.slice 65,1,24,.sl [],[]⟩
def mi:TY:=⟨.struct,3,56,.agg [.sl [],.bool false,.sl []],[(0,true,2),(2,true,1)]⟩
def Xx:TY:=⟨.slice 3,1,24,.sl [],[]⟩
def Xw:TY:=⟨.struct,4,80,.agg [.sl [],.sl [],.bool false,.sl []],[(0,false,1),(1,true,3)]⟩
def o0:Option TY:=some ⟨.other,1,8,.nil 1,[]⟩
def o1:Option TY:=some ⟨.int .i64,1,8,.int .i64 0,[]⟩
def o2:Option TY:=some ⟨.bool,1,1,.bool false,[]⟩
def o3:Option TY:=some ⟨.int .u8,1,1,.int .u8 0,[]⟩
def o4:Option TY:=some ⟨.struct,4,24,.agg [.int .i64 0,.int .i64 0,.bool false,.int .u8 0],[(0,false,1),(1,false,1),(2,false,1),(3,false,1)]⟩
def o5:Option TY:=some ⟨.string,1,16,.str [],[]⟩
def o6:Option TY:=some ⟨.int .u64,1,8,.int .u64 0,[]⟩
def o7:Option TY:=some ⟨.struct,2,24,.agg [.str [],.int .u64 0],[(0,false,1),(1,false,1)]⟩
def o8:Option TY:=some ⟨.other,1,8,.nil 2,[]⟩
def o9:Option TY:=some ⟨.struct,1,8,.agg [.nil 2],[(0,false,1)]⟩
def w7:Option TY:=some ⟨.other,1,16,.nil 0,[]⟩
def w6:Option TY:=some ⟨.int .i32,1,4,.int .i32 0,[]⟩
def Fs:Option TY:=some ⟨.slice 39,1,24,.sl [],[]⟩
def YA:Option TY:=some ⟨.slice 29,1,24,.sl [],[]⟩
def Yz:Option TY:=some ⟨.slice 33,1,24,.sl [],[]⟩
def Yy:Option TY:=some ⟨.slice 27,1,24,.sl [],[]⟩
def qu:Option TY:=some ⟨.struct,3,56,.agg [.int .i64 0,.sl [],.sl []],[(0,false,1),(1,false,1),(2,false,1)]⟩
def Yx:Option TY:=some ⟨.slice 31,1,24,.sl [],[]⟩
def Yw:Option TY:=some ⟨.slice 98,1,24,.sl [],[]⟩
def Yv:Option TY:=some ⟨.slice 37,1,24,.sl [],[]⟩
def Yu:Option TY:=some ⟨.slice 129,1,24,.sl [],[]⟩
def Yt:Option TY:=some ⟨.slice 193,1,24,.sl [],[]⟩
def NK:Option TY:=some ⟨.struct,1,24,.agg [.sl []],[(0,false,1)]⟩
def NJ:Option TY:=some ⟨.struct,2,32,.agg [.sl [],.bool false],[(0,true,1),(1,false,1)]⟩
def Ys:Option TY:=some ⟨.struct,3,56,.agg [.sl [],.bool false,.sl []],[(0,true,2),(2,true,1)]⟩
def Yr:Option TY:=some ⟨.slice 26,1,24,.sl [],[]⟩
def Yq:Option TY:=some ⟨.slice 115,1,24,.sl [],[]⟩
def Fr:Option TY:=some ⟨.struct,4,80,.agg [.sl [],.sl [],.bool false,.sl []],[(0,false,1),(1,true,3)]⟩
def Yp:Option TY:=some ⟨.slice 65,1,24,.sl [],[]⟩
def Yo:Option TY:=some ⟨.slice 91,1,24,.sl [],[]⟩
def Yn:Option TY:=some ⟨.slice 63,1,24,.sl [],[]⟩
def NI:Option TY:=some ⟨.struct,2,32,.agg [.int .i64 0,.sl []],[(0,false,1),(1,false,1)]⟩
def NH:Option TY:=some ⟨.struct,4,64,.agg [.int .i64 0,.sl [],.int .i64 0,.sl []],[(0,true,2),(2,true,2)]⟩
def Ym:Option TY:=some ⟨.slice 67,1,24,.sl [],[]⟩
def NG:Option TY:=some ⟨.struct,6,112,.agg [.sl [],.bool false,.sl [],.sl [],.bool false,.sl []],[(0,true,3),(3,true,3)]⟩
def Yl:Option TY:=some ⟨.slice 114,1,24,.sl [],[]⟩
def NF:Option TY:=some ⟨.struct,3,24,.agg [.int .i64 0,.int .i64 0,.int .u8 0],[(0,false,1),(1,false,1),(2,false,1)]⟩
def Yk:Option TY:=some ⟨.slice 140,1,24,.sl [],[]⟩
def Yj:Option TY:=some ⟨.slice 5,1,24,.sl [],[]⟩
def NE:Option TY:=some ⟨.struct,2,32,.agg [.nil 2,.sl []],[(0,false,1),(1,false,1)]⟩
def Yi:Option TY:=some ⟨.int .u32,1,4,.int .u32 0,[]⟩
def ND:Option TY:=some ⟨.array 4 3,4,32,.agg [.int .i64 0,.int .i64 0,.int .i64 0,.int .i64 0],[]⟩
def Yh:Option TY:=some ⟨.array 5 3,5,40,.agg [.int .i64 0,.int .i64 0,.int .i64 0,.int .i64 0,.int .i64 0],[]⟩
def NC:Option TY:=some ⟨.struct,3,56,.agg [.sl [],.sl [],.int .i64 0],[(0,false,1),(1,false,1),(2,false,1)]⟩
def Yg:Option TY:=some ⟨.array 24 5,24,24,.agg [.int .u8 0,.int .u8 0,.int .u8 0,.int .u8 0,.int .u8 0,.int .u8 0,.int .u8 0,.int .u8 0,.int .u8 0,.int .u8 0,.int .u8 0,.int .u8 0,.int .u8 0,.int .u8 0,.int .u8 0,.int .u8 0,.int .u8 0,.int .u8 0,.int .u8 0,.int .u8 0,.int .u8 0,.int .u8 0,.int .u8 0,.int .u8 0],[]⟩
def Yf:Option TY:=some ⟨.array 20 202,20,160,.agg [.int .u64 0,.int .u64 0,.int .u64 0,.int .u64 0,.int .u64 0,.int .u64 0,.int .u64 0,.int .u64 0,.int .u64 0,.int .u64 0,.int .u64 0,.int .u64 0,.int .u64 0,.int .u64 0,.int .u64 0,.int .u64 0,.int .u64 0,.int .u64 0,.int .u64 0,.int .u64 0],[]⟩
def Ye:Option TY:=some ⟨.array 65 5,65,65,.agg [.int .u8 0,.int .u8 0,.int .u8 0,.int .u8 0,.int .u8 0,.int .u8 0,.int .u8 0,.int .u8 0,.int .u8 0,.int .u8 0,.int .u8 0,.int .u8 0,.int .u8 0,.int .u8 0,.int .u8 0,.int .u8 0,.int .u8 0,.int .u8 0,.int .u8 0,.int .u8 0,.int .u8 0,.int .u8 0,.int .u8 0,.int .u8 0,.int .u8 0,.int .u8 0,.int .u8 0,.int .u8 0,.int .u8 0,.int .u8 0,.int .u8 0,.int .u8 0,.int .u8 0,.int .u8 0,.int .u8 0,.int .u8 0,.int .u8 0,.int .u8 0,.int .u8 0,.int .u8 0,.int .u8 0,.int .u8 0,.int .u8 0,.int .u8 0,.int .u8 0,.int .u8 0,.int .u8 0,.int .u8 0,.int .u8 0,.int .u8 0,.int .u8 0,.int .u8 0,.int .u8 0,.int .u8 0,.int .u8 0,.int .u8 0,.int .u8 0,.int .u8 0,.int .u8 0,.int .u8 0,.int .u8 0,.int .u8 0,.int .u8 0,.int .u8 0,.int .u8 0],[]⟩
def Yd:Option TY:=some ⟨.array 32 5,32,32,.agg [.int .u8 0,.int .u8 0,.int .u8 0,.int .u8 0,.int .u8 0,.int .u8 0,.int .u8 0,.int .u8 0,.int .u8 0,.int .u8 0,.int .u8 0,.int .u8 0,.int .u8 0,.int .u8 0,.int .u8 0,.int .u8 0,.int .u8 0,.int .u8 0,.int .u8 0,.int .u8 0,.int .u8 0,.int .u8 0,.int .u8 0,.int .u8 0,.int .u8 0,.int .u8 0,.int .u8 0,.int .u8 0,.int .u8 0,.int .u8 0,.int .u8 0,.int .u8 0],[]⟩
def Yc:Option TY:=some ⟨.array 64 5,64,64,.agg [.int .u8 0,.int .u8 0,.int .u8 0,.int .u8 0,.int .u8 0,.int .u8 0,.int .u8 0,.int .u8 0,.int .u8 0,.int .u8 0,.int .u8 0,.int .u8 0,.int .u8 0,.int .u8 0,.int .u8 0,.int .u8 0,.int .u8 0,.int .u8 0,.int .u8 0,.int .u8 0,.int .u8 0,.int .u8 0,.int .u8 0,.int .u8 0,.int .u8 0,.int .u8 0,.int .u8 0,.int .u8 0,.int .u8 0,.int .u8 0,.int .u8 0,.int .u8 0,.int .u8 0,.int .u8 0,.int .u8 0,.int .u8 0,.int .u8 0,.int .u8 0,.int .u8 0,.int .u8 0,.int .u8 0,.int .u8 0,.int .u8 0,.int .u8 0,.int .u8 0,.int .u8 0,.int .u8 0,.int .u8 0,.int .u8 0,.int .u8 0,.int .u8 0,.int .u8 0,.int .u8 0,.int .u8 0,.int .u8 0,.int .u8 0,.int .u8 0,.int .u8 0,.int .u8 0,.int .u8 0,.int .u8 0,.int .u8 0,.int .u8 0,.int .u8 0],[]⟩
def NB:Option TY:=some ⟨.struct,4,40,.agg [.nil 2,.nil 2,.nil 2,.str []],[(0,false,1),(1,false,1),(2,false,1),(3,false,1)]⟩
def Yb:Option TY:=some ⟨.array 0 16,0,0,.agg [],[]⟩
def NA:Option TY:=some ⟨.struct,0,0,.agg [],[(0,true,0)]⟩
def Nz:Option TY:=some ⟨.struct,11,48,.agg [.int .u64 0,.int .u64 0,.int .u32 0,.int .u8 0,.int .u8 0,.int .u8 0,.int .u8 0,.nil 1,.nil 2,.int .i32 0,.int .i32 0],[(0,false,1),(1,false,1),(2,false,1),(3,false,1),(4,false,1),(5,false,1),(6,false,1),(7,false,1),(8,false,1),(9,false,1),(10,false,1)]⟩
def oN:Option TY:=none
def X4:Tr:=.node 32 (.node 16 (.node 8 (.leaf 0 [oN,o0,(some XX),(some Fg),o2,o3,o3,o4]) (.leaf 8 [o4,o5,o5,o5,o6,o7,o7,o8])) (.node 24 (.leaf 16 [o8,o8,o9,o9,w7,w6,Fs,o0]) (.leaf 24 [YA,Yz,Yy,(some pM),qu,qu,Yx,Yw]))) (.node 48 (.node 40 (.leaf 32 [qu,qu,oN,o0,Yv,Yu,qu,qu]) (.leaf 40 [o0,o1,oN,o0,o0,oN,o0,o0])) (.node 56 (.leaf 48 [o0,Yt,NK,NK,NJ,NJ,Ys,(some mi)]) (.leaf 56 [o0,Yr,Yq,qu,qu,oN,o0,(some Xx)])))
def X3:Tr:=.node 96 (.node 80 (.node 72 (.leaf 64 [Fr,(some Xw),Yp,(some Xv),o0,oN,o0,o0]) (.leaf 72 [oN,o0,o0,o0,oN,o0,o0,oN])) (.node 88 (.leaf 80 [o0,o0,o0,o0,Yo,o0,o0,o0]) (.leaf 88 [o0,o0,o0,o0,o0,Yn,o0,NI]))) (.node 112 (.node 104 (.leaf 96 [NI,NH,NH,o0,o0,o0,o0,o0]) (.leaf 104 [o0,o0,o0,o0,Ym,oN,o0,o0])) (.node 120 (.leaf 112 [o0,NG,NG,Yl,o0,o0,o0,o0]) (.leaf 120 [o0,o0,oN,o0,o0,o0,o0,o0])))
def X2:Tr:=.node 160 (.node 144 (.node 136 (.leaf 128 [NF,NF,oN,o0,o0,o0,o0,o0]) (.leaf 136 [o0,o0,Yk,Fr,Fr,o0,o0,o0])) (.node 152 (.leaf 144 [o0,o0,o0,o0,o0,o0,o0,o0]) (.leaf 152 [o0,o0,o0,o0,o0,o0,o0,o0]))) (.node 176 (.node 168 (.leaf 160 [o0,o0,o0,o0,o0,o0,o0,o0]) (.leaf 168 [o0,o0,oN,o0,o0,o0,o0,o0])) (.node 184 (.leaf 176 [o0,o0,o0,o0,o0,o0,o0,o0]) (.leaf 184 [o0,o0,o8,Yj,NE,NE,o0,o0])))
def X1:Tr:=.node 224 (.node 208 (.node 200 (.leaf 192 [o0,Yi,o0,w7,w7,oN,o0,o0]) (.leaf 200 [o0,o0,o6,o0,o0,o0,o0,o0])) (.node 216 (.leaf 208 [oN,oN,o0,o0,o0,o6,o0,o0]) (.leaf 216 [oN,o0,o0,o0,o0,o0,o0,o0]))) (.node 240 (.node 232 (.leaf 224 [o0,o0,o0,ND,ND,o0,o0,o0]) (.leaf 232 [o0,o0,o0,Yh,oN,oN,o8,NC])) (.node 248 (.leaf 240 [NC,o0,o0,o0,o0,o0,o0,oN]) (.leaf 248 [o0,o0,o0,o8,o0,o0,oN,o0])))
def X0:Tr:=.node 288 (.node 272 (.node 264 (.leaf 256 [o0,o0,o1,oN,o0,o0,o0,o0]) (.leaf 264 [o0,o0,oN,o0,o0,o0,o0,o0])) (.node 280 (.leaf 272 [oN,o0,o0,o0,o0,o0,o0,o0]) (.leaf 280 [o0,o0,o0,o0,o8,o0,oN,o0]))) (.node 304 (.node 296 (.leaf 288 [oN,o0,o0,o0,o0,o0,o6,o0]) (.leaf 296 [o0,o8,o0,o0,o0,o0,o0,o0])) (.node 312 (.leaf 304 [o0,o0,o0,o0,o0,o0,o0,o0]) (.leaf 312 [o0,o0,Yg,o0,oN,o0,o0,o8])))
def XZ:Tr:=.node 336 (.node 328 (.leaf 320 [oN,o0,o0,o0,o0,o0,o0,o0]) (.leaf 328 [Yf,Ye,o0,o0,Yd,Yc,NB,NB])) (.node 344 (.leaf 336 [Yb,NA,NA,o3,o3,o0,w6,w6]) (.leaf 344 [Nz,Nz]))
def WW:Tr:=.node 192 (.node 64 X4 (.node 128 X3 X2)) (.node 256 X1 (.node 320 X0 XZ))
noncomputable def TT(t:TypeId):Option TY:=WW.get t
def Vq:(List.range 346).map TT=(List.range 346).map (wF Tryz.prog):=by kernel_rfl
def Ap:cu Tryz.prog TT:=fun t ty h=>by
 rcases gb t 346 with hl|hl
 . have:=aL (fun l=>l[t]?) Vq;simp only[bI,FF hl,fE,ai] at this;rw[<-this];exact h
 have:TT t=none:=HK hl (by kernel_rfl);rw[this] at h;cases h
def YT(w:World)(l:Nat)(fn:FuncId)(tmps:Array Value)(ps:Array Tmp)(assign body:Code):Prop :=
 ∃D,w.heap[l]?=some (.loop { state:=.ready,pending:=none,fn,tmps,params:=ps,assign,body,defers:=D })
structure IterJ(X:Cx)(l:Nat)(ys:List (List IV))(J:(Nat->Prop)->Nat->ak->World->Prop):Prop where
 inv:∀own k H w w',J own k H w->BelowO own w w'->X.I w'
 step:∀own k H H' w w',J own k H w->BelowO own w w'->HeapHas w' H'->HExtO own H H'->J own k H' w'
 sub:∀own own' k H w,J own k H w->(∀b,own' b->own b)->J own' k H w
 round:∀own k H w args (hk:k<ys.length),J own k H w->HeapHas w H->(∀b,w.heap.size<=b->own b)->VRL H args ys[k]->
  YieldAt (FW none) 0 X.P l args.toArray w (fun e w'=>e=.returned (.bool true)/\∃H',HeapHas w' H'/\HLe H H'/\w.heap.size<=w'.heap.size/\w'.os=w.os/\w'.tape=w.tape/\w'.output=w.output/\
   (∀b,own b->b<w.heap.size->w'.heap[b]?=w.heap[b]?/\(H b=none->H' b=none))/\J (fun b=>own b/\(b<w.heap.size\/w'.heap.size<=b)) (k+1) H' w')
def kL(l:Nat):Value:=.func (.yield l) #[] #[]
def bm(X:Cx)(f:FuncId)(zs:List IV)(ys:List (List IV)):Prop :=
 (∃fn,X.P.funcs[f]?=some fn/\(fn.name == "runtime.NumGoroutine")=false/\fn.body.isNone=false)/\
 ∀(l:Nat) (J:(Nat->Prop)->Nat->ak->World->Prop) (own:Nat->Prop) (H:ak) (w:World) (bs:List Nat),IterJ X l ys J->J own 0 H w->HeapHas w H->(∀b,w.heap.size<=b->own b)->nI own w H bs zs->bs.Pairwise (· ≠ ·)->
  CallsIn (FW none) 0 X.P f (kL l::bs.map fun b=>Value.pointer (some ⟨b,0,none⟩)).toArray w (fun e w'=>∃v own' H',e=.returned v/\HeapHas w' H'/\J own' ys.length H' w')
def Sim.stand{E:Env}{H H':ak}{U:Nat->Nat×Nat}{tm:Nat->SV}{bx:Nat->Option Bx}{tmps:Array Value}{w w':World}{own:Nat->Prop}(h:Sim E H U tm bx tmps w)(hb:BelowO own w w')(hh:HeapHas w' H')(he:HExtO own H H')(hsub:∀b,own b->E.own b)
 (hbx:∀g b,bx g=some b->b.alive=true->¬own (U g).1) (hrw:∀g s R,bx g=some (.bld s)->RowAt s w (U g).1 R->¬own R) (hm:∀D,({ target:=.collected D,args := #[] }:Deferred)∈E.mrk->¬own D):Sim E H' U tm bx tmps w' where
 has:=hh
 below:=h.below.trans (hb.mono hsub)
 lo k hk:=h.lo k (bf hb.size hk)
 ext:=h.ext.step he hsub
 slot t:=(h.slot t).mono he.1 (fun g b hg=>⟨b,hg,shape.refl b,rfl⟩)
 box g b hg:=by
  by_cases ha:b.alive=true
  .
   refine(h.box g b hg).keep (hb.block _ (hbx g b hg ha)) he.1 (fun hn=>?_) (fun s R eb hR=>?_)
   .
    cases hx:H' (U g).1 with
    |none=>rfl
    |some arr=>
     rcases he.2 _ _ hx with h1|h1
     . rw[hn] at h1;cases h1
     exact absurd h1 (hbx g b hg ha)
   subst eb;have hno:=hrw g s R hg hR;refine⟨hb.block _ hno,fun hn=>?_⟩;cases hx:H' R with
   |none=>rfl
   |some arr=>
    rcases he.2 _ _ hx with h1|h1
    . rw[hn] at h1;cases h1
    exact absurd h1 hno
  cases b<;>first|trivial|simp[Bx.alive] at ha
 inj:=h.inj
 pin:=h.pin
 marks:=⟨h.marks.1,fun d hd=>by
  obtain⟨D,e,ho,hD⟩:=h.marks.2 d hd;exact⟨D,e,ho,(hb.block D (hm D (e▸hd))).trans hD⟩⟩
 hid g s g' b R h1 h2 ha hR:=h.hid g s g' b R h1 h2 ha (hR.sm (hb.block _ (hbx g _ h1 rfl)))
def Sim.rebase{E:Env}{H:ak}{U:Nat->Nat×Nat}{tm:Nat->SV}{bx:Nat->Option Bx}{tmps:Array Value}{w:World}(h:Sim E H U tm bx tmps w){own:Nat->Prop}{pin:Nat->Option (Nat×Nat)}{M:List Deferred}(hbx:∀g b,bx g=some b->b.alive=true->own (U g).1)(hrw:∀g s R,bx g=some (.bld s)->RowAt s w (U g).1 R->own R)
 (hlo:∀k,w.heap.size<=k->own k) (hpin:∀g k,pin g=some k->U g=k/\bx g≠none/\g<aP+8/\aP<=g) (hm:MarksOk own M w):Sim ⟨own,w,H,pin,M⟩ H U tm bx tmps w where
 has:=h.has
 below:=BelowO.refl _ _
 lo:=hlo
 ext:=HExtO.refl _ _
 slot:=h.slot
 box g b hg:=by
  by_cases ha:b.alive=true
  .
   have:=h.box g b hg;have ho:=hbx g b hg ha;cases b with
   |var x=>exact⟨ho,this.2⟩
   |arr=>exact⟨ho,this.2⟩
   |bld s=>exact⟨ho,this.2.1,this.2.2.1,fun R hR=>⟨hrw g s R hg hR,(this.2.2.2 R hR).2⟩⟩
   |arrN=>exact⟨this.1,ho,this.2.2⟩
   |dead=>trivial
  cases b<;>first|trivial|simp[Bx.alive] at ha
 inj:=h.inj
 pin:=hpin
 marks:=hm
 hid:=h.hid
def okP(bx:Nat->Option Bx):SV->Prop
 | .unk=>True
 | .und=>True
 | .iv _=>True
 | .nilS=>True
 | .ptr g _=>bx g≠none
 | .cv _ _ gs=>∀g∈gs,bx g≠none
 |_=>False
def SR.okP{H H':ak}{U:Nat->Nat×Nat}{bx bx':Nat->Option Bx}{v:Value}(hh:HLe H H'):∀{s:SV},okP bx' s->SR H U bx v s->SR H' U bx' v s
 | .unk,_,_=>trivial
 | .und,_,h=>h
 | .iv _,_,h=>VR.mono hh h
 | .nilS,_,h=>h
 | .ptr _ _,ho,h=>⟨ho,h.2⟩
 | .cv _ _ _,ho,h=>⟨h.1,ho,h.2.2⟩
def np(tm:Nat->SV):List Nat->List IV->Nat->SV
 |p::ps,y::ys=>np (az tm p (.iv y)) ps ys
 |_,_=>tm
def Sim.puts{E:Env}{H:ak}{U:Nat->Nat×Nat}{bx:Nat->Option Bx}{w:World}{nt:Nat}:∀{ps:List Nat} {ys:List IV} {vs:List Value} {tm:Nat->SV} {tmps:Array Value},Sim E H U tm bx tmps w->tmps.size=nt->(∀p∈ps,p<nt)->VRL H vs ys->
 Sim E H U (np tm ps ys) bx ((ps.zip vs).foldl (fun tmps p=>tmps.setIfInBounds p.1 p.2) tmps) w/\((ps.zip vs).foldl (fun tmps p=>tmps.setIfInBounds p.1 p.2) tmps).size=nt
 | [],_,_,_,_,h,hs,_,_=>⟨by simpa[np] using h,by simpa using hs⟩
 |p::ps,[],_,_,_,h,hs,_,.nil=>⟨by simpa[np] using h,by simpa using hs⟩
 |p::ps,y::ys,_,tm,tmps,h,hs,hp,.cons v _ vs _ hv t=>by
  simp only[np,List.zip_cons_cons,iV];exact Sim.puts (h.put (d:=p) (by rw[hs];exact hp p (by simp)) (r:=.iv y) hv) (by rw[FG];exact hs) (fun q hq=>hp q (by simp[hq])) t
def Cx.any(X:Cx):Cx:={ X with ro:=fun _=>True,r0:=trivial }
def uc(bx:Nat->Option Bx):List Nat->List IV->Prop
 | [],[]=>True
 |g::gs,z::zs=>bx g=some (.var z)/\uc bx gs zs
 |_,_=>False
def CV{E:Env}{H:ak}{U:Nat->Nat×Nat}{tm:Nat->SV}{bx:Nat->Option Bx}{tmps:Array Value}{w:World}(h:Sim E H U tm bx tmps w){own:Nat->Prop}:∀{gs:List Nat} {zs:List IV},uc bx gs zs->(∀g∈gs,own (U g).1)->nI own w H (gs.map fun g=>(U g).1) zs
 | [],[],_,_=>trivial
 | [],_::_,h,_=>h.elim
 |_::_,[],h,_=>h.elim
 |g::gs,z::zs,hc,ho=>by
  refine⟨?_,CV h hc.2 (fun g hg=>ho g (by simp[hg]))⟩;have:=h.box g _ hc.1;exact⟨ho g (by simp),this.2⟩
def m4{bx:Nat->Option Bx}:∀{gs:List Nat} {zs:List IV},uc bx gs zs->∀g∈gs,∃z,bx g=some (.var z)
 | [],_,_,g,hg=>by cases hg
 |_::_,[],h,_,_=>h.elim
 |g::gs,z::zs,hc,g',hg=>by
  rcases List.mem_cons.1 hg with rfl|hg
  . exact⟨z,hc.1⟩
  exact m4 hc.2 g' hg
def LC(X:Cx)(nt:Nat)(body:Code)(bx':Nat->Option Bx):Exit->AS->Prop
 | .normal,Y=>CW X.any nt body Y fun e Y'=>e=.normal/\∀id b,bx' id=some b->Y'.bx id=some b
 |_,_=>False
structure RJ(X:Cx)(E:Env)(nt:Nat)(U:Nat->Nat×Nat)(tm:Nat->SV)(inv:Nat->Nat->Option Bx)(l:Nat)(fn:FuncId)(tmps:Array Value)(ps:Array Tmp)(assign body:Code)(own:Nat->Prop)(k:Nat)(H:ak)(w:World):Prop where
 sim:Sim E H U tm (inv k) tmps w
 rec':YT w l fn tmps ps assign body
 sub:∀b,own b->E.own b
 nl:¬own l
 el:E.own l
 bxs:∀g b,inv k g=some b->¬own (U g).1
 rws:∀g s R,inv k g=some (.bld s)->RowAt s w (U g).1 R->¬own R
 mks:∀D,({ target:=.collected D,args := #[] }:Deferred)∈E.mrk->¬own D
def RJ.iter{X:Cx}{E:Env}{nt:Nat}{U:Nat->Nat×Nat}{tm:Nat->SV}{inv:Nat->Nat->Option Bx}{l:Nat}{fn:FuncId}{tmps:Array Value}{ps:Array Tmp}{assign body:Code}{ys:List (List IV)}{nx:Nat}
 (hI:∀w,BelowO E.own E.w0 w->X.I w) (hnt:tmps.size=nt) (hps:∀p∈ps.toList,p<nt) (hys:∀y∈ys,y.length=ps.size)
 (htm:∀k t,okP (inv k) (tm t)) (hal:∀k g b,inv k g=some b->b.alive=true/\aP<=g/\g<aP+8) (hdom:∀k g,inv k g≠none->inv (k+1) g≠none) (hdom':∀k g,inv (k+1) g≠none->inv k g≠none)
 (hround:∀k (hk:k<ys.length),CW X.any nt assign ⟨np tm ps.toList ys[k],inv k,nx⟩ (LC X nt body (inv (k+1)))):IterJ X l ys (RJ X E nt U tm inv l fn tmps ps assign body) where
 inv own k H w w' h hb:=hI _ (h.sim.below.trans (hb.mono h.sub))
 step own k H H' w w' h hb hh he:=by
  refine⟨h.sim.stand hb hh he h.sub (fun g b hg _=>h.bxs g b hg) h.rws h.mks,?_,h.sub,h.nl,h.el,h.bxs,fun g s R hg hR=>h.rws g s R hg (hR.sm (hb.block _ (h.bxs g _ hg))),h.mks⟩;obtain⟨D,hD⟩:=h.rec';exact⟨D,(hb.block l h.nl).trans hD⟩
 sub own own' k H w h hs:=⟨h.sim,h.rec',fun b hb=>h.sub b (hs b hb),fun e=>h.nl (hs _ e),h.el,fun g b hg e=>h.bxs g b hg (hs _ e),fun g s R hg hR e=>h.rws g s R hg hR (hs _ e),fun D hD e=>h.mks D hD (hs _ e)⟩
 round own k H w args hk h hh hlo hargs:=by
  obtain⟨D,hD⟩:=h.rec';have hlen:=hargs.length;have hlt:l<w.heap.size:=(Array.getElem?_eq_some_iff.1 hD).1;have hsz:args.toArray.size=ps.size:=by
   simp only[lD,hlen];exact hys _ (iw hk)
  refine⟨fn,_,assign,body,run_yield hD hsz,?_⟩;refine roundIn_of_wpIn trivial ?_
  -- the blocks that the round may write
  let ow:Nat->Prop:=fun b=>E.own b/\¬(own b/\b<w.heap.size)/\b≠l/\¬({ target:=.collected b,args := #[] }:Deferred)∈E.mrk
  let pn:Nat->Option (Nat×Nat):=fun g=>match inv k g with|some _=>some (U g)|none=>none
  have mklt:∀D,({ target:=.collected D,args := #[] }:Deferred)∈E.mrk->w.heap[D]?=some (.deferred (some [])):=fun D hD=>by
   obtain⟨D',e,_,hb⟩:=h.sim.marks.2 _ hD;cases e;exact hb
  have olo:∀b,w.heap.size<=b->ow b:=fun b hb=>⟨h.sim.lo b hb,fun⟨_,h2⟩=>by omega,by omega,fun hm=>by
   have:=(Array.getElem?_eq_some_iff.1 (mklt b hm)).1;omega⟩
  have obx:∀g b,inv k g=some b->b.alive=true->ow (U g).1:=fun g b hg ha=>by
   obtain⟨arr,e',hc⟩:=(h.sim.box g b hg).cells ha;exact⟨(h.sim.box g b hg).lo ha,fun⟨h1,_⟩=>h.bxs g b hg h1,fun e=>(by rw[e,hD] at hc;cases hc),fun hm=>(by rw[mklt _ hm] at hc;cases hc)⟩
  have opn:∀g q,pn g=some q->U g=q/\inv k g≠none/\g<aP+8/\aP<=g:=fun g q hq=>by
   have hq':(match inv k g with|some _=>some (U g)|none=>none)=some q:=hq;cases hg:inv k g with
   |none=>rw[hg] at hq';cases hq'
   |some b=>
    rw[hg] at hq';have:=hal k g b hg;exact⟨by simpa using hq',by simp,this.2.2,this.2.1⟩
  have orw:∀g s R,inv k g=some (.bld s)->RowAt s w (U g).1 R->ow R:=fun g s R hg hR=>by
   have hb:=h.sim.box g _ hg;obtain⟨_,_,arr,_,fz,hx⟩:=kK hb.2.2.1 hR;exact⟨(hb.2.2.2 R hR).1,fun⟨h1,_⟩=>h.rws g s R hg hR h1,fun e=>(by rw[e,hD] at hx;cases hx),fun hm=>(by rw[mklt _ hm] at hx;cases hx)⟩
  have S1:=(h.sim.rebase (own:=ow) (pin:=pn) (M:=[]) obx orw olo opn (MarksOk.nil _ _));obtain⟨S2,hs2⟩:=S1.puts (ps:=ps.toList) (ys:=ys[k]) (vs:=args) hnt hps hargs;have hI1:∀w',BelowO ow w w'->X.I w':=fun w' hb=>hI _ (h.sim.below.trans (hb.mono fun b hb=>hb.1));have etm:(ps.zip args.toArray).foldl (fun tmps (t,a)=>tmps.setIfInBounds t a) tmps=(ps.toList.zip args).foldl (fun tmps p=>tmps.setIfInBounds p.1 p.2) tmps:=by
   rw[<-Array.foldl_toList,Array.toList_zip]
  have r1:=hround k hk ⟨some l,aa⟩ ⟨ow,w,H,pn,[]⟩ (Exit.then (fun a₁ w₁=>∃w₂,(Instr.beginRound l).run X.P w₁=.ok () w₂/\body.wpIn ((FW none).inRound l) 0 X.P (roundPost X.P l (fun e w'=>e=.returned (.bool true)/\∃H',HeapHas w' H'/\HLe H H'/\w.heap.size<=w'.heap.size/\w'.os=w.os/\w'.tape=w.tape/\w'.output=w.output/\
   (∀b,own b->b<w.heap.size->w'.heap[b]?=w.heap[b]?/\(H b=none->H' b=none))/\RJ X E nt U tm inv l fn tmps ps assign body (fun b=>own b/\(b<w.heap.size\/w'.heap.size<=b)) (k+1) H' w')) a₁ w₂) (fun _ _ _=>False)) hI1 ?_ [] H U
   { tmps:=(ps.zip args.toArray).foldl (fun tmps (t,a)=>tmps.setIfInBounds t a) tmps,defers:=[] } w ⟨by rw[etm];exact S2,rfl,by rw[etm];exact hs2⟩
  . exact r1
  intro e Y' M1 H1 β1 a1 w1 hk1 hS1;cases e with
  |normal=>?_
  |_=>exact hk1.elim
  have hw1:w1.heap[l]?=w.heap[l]?:=hS1.sim.below.block l (fun ho=>ho.2.2.1 rfl);have hD1:=hw1.trans hD;refine⟨_,run_beginRound hD1 rfl,?_⟩
  -- the body
  have T1:Sim ⟨ow,w1,H1,pn,M1⟩ H1 β1 Y'.tm Y'.bx a1.tmps w1:=hS1.sim.rebase (fun g b hg ha=>(hS1.sim.box g b hg).lo ha) (fun g s R hg hR=>((hS1.sim.box g _ hg).2.2.2 R hR).1) hS1.sim.lo hS1.sim.pin hS1.sim.marks
  let w2:=w1.putObj l (.loop { state:=.busy,pending:=none,fn,tmps,params:=ps,assign,body,defers:=D })
  have T2:Sim ⟨fun b=>ow b\/b=l,w1,H1,pn,M1⟩ H1 β1 Y'.tm Y'.bx a1.tmps w1:=hS1.sim.rebase (fun g b hg ha=>.inl ((hS1.sim.box g b hg).lo ha)) (fun g s R hg hR=>.inl ((hS1.sim.box g _ hg).2.2.2 R hR).1) (fun k hk=>.inl (hS1.sim.lo k hk)) hS1.sim.pin
   ⟨hS1.sim.marks.1,fun d hd=>by obtain⟨D',e,ho,hb⟩:=hS1.sim.marks.2 d hd;exact⟨D',e,.inl ho,hb⟩⟩
  have T3:Sim ⟨fun b=>ow b\/b=l,w1,H1,pn,M1⟩ H1 β1 Y'.tm Y'.bx a1.tmps w2:=T2.poke _ hD1 rfl (.inr rfl) (fun d hd e=>by
   obtain⟨D',e',ho,hb⟩:=hS1.sim.marks.2 d hd;rw[e] at e';cases e';rw[hD1] at hb;cases hb)
  have hne1:∀g b,Y'.bx g=some b->b.alive=true->(β1 g).1≠l:=fun g b hg ha e=>by
   obtain⟨arr,e',hc⟩:=(hS1.sim.box g b hg).cells ha;rw[e,hD1] at hc;cases hc
  have T4:Sim ⟨ow,w2,H1,pn,M1⟩ H1 β1 Y'.tm Y'.bx a1.tmps w2:=T3.rebase (fun g b hg ha=>(hS1.sim.box g b hg).lo ha) (fun g s R hg hR=>((hS1.sim.box g _ hg).2.2.2 R (hR.sm (c8 (hne1 g _ hg rfl)))).1) (fun k hk=>hS1.sim.lo k (by simpa[w2] using hk)) T3.pin
   ⟨T3.marks.1,fun d hd=>by
    obtain⟨D',e,ho,hb⟩:=T3.marks.2 d hd;refine⟨D',e,ho.resolve_right (fun e'=>?_),hb⟩;obtain⟨D2,e2,ho2,hb2⟩:=hS1.sim.marks.2 d hd;rw[e] at e2;cases e2;rw[e',hD1] at hb2;cases hb2⟩
  have hI2:∀w',BelowO ow w2 w'->X.I w':=fun w' hb=>by
   refine hI _ (h.sim.below.trans ?_);have b1:BelowO E.own w w1:=hS1.sim.below.mono (fun b hb=>hb.1);have b2:BelowO E.own w1 w2:=⟨rfl,rfl,rfl,by simp[w2],fun b hb=>c8 (fun e=>hb (by rw[e];exact h.el))⟩;exact b1.trans (b2.trans (hb.mono (fun b hb=>hb.1)))
  refine hk1 ⟨some l,aa⟩ ⟨ow,w2,H1,pn,[]⟩ _ hI2 ?_ M1 H1 β1 a1 w2 ⟨T4,hS1.defers,hS1.size⟩;intro e3 σ3 M3 H3 β3 a3 w3 hk3 hS3;obtain⟨rfl,hk3⟩:=hk3;have hD3:w3.heap[l]?=some (.loop { state:=.busy,pending:=none,fn,tmps,params:=ps,assign,body,defers:=D }):=by
   rw[hS3.sim.below.block l (fun ho=>ho.2.2.1 rfl)];exact xt (Array.getElem?_eq_some_iff.1 hD1).1
  refine⟨_,_,run_endRound none hD3,rfl,H3,?_⟩;have nl3:∀b arr,H3 b=some arr->b≠l:=fun b arr hb e=>by
   obtain⟨t,fr,ht⟩:=hS3.sim.has b arr hb;rw[e,hD3] at ht;cases ht
  have hle:HLe H H3:=hS1.sim.ext.1.trans hS3.sim.ext.1;have hsz2:w2.heap.size=w1.heap.size:=by simp[w2]
  have hsz3:w.heap.size<=w3.heap.size:=bf hS1.sim.below.size (by have:w2.heap.size<=w3.heap.size:=hS3.sim.below.size;omega);have hout:∀b,¬ow b->b≠l->w3.heap[b]?=w.heap[b]?:=fun b hb hbl=>by
   rw[hS3.sim.below.block b hb,show w2.heap[b]?=w1.heap[b]? from c8 hbl,hS1.sim.below.block b hb]
  have hext:∀b arr,H3 b=some arr->H b=some arr\/ow b:=fun b arr hb=>by
   rcases hS3.sim.ext.2 b arr hb with h1|h1
   . exact hS1.sim.ext.2 b arr h1
   exact .inr h1
  have hβ:∀g b,inv k g=some b->β3 g=U g:=fun g b hg=>(hS3.sim.pin g (U g) (by show(match inv k g with|some _=>some (U g)|none=>none)=_;rw[hg])).1;have hinv:∀g b,inv (k+1) g=some b->∃b0,inv k g=some b0:=fun g b hg=>by
   cases hx:inv k g with
   |none=>exact absurd hx (hdom' k g (by rw[hg];simp))
   |some b0=>exact⟨b0,rfl⟩
  have hb4:BelowO E.own w (w3.putObj l (.loop { state:=.ready,pending:=none,fn,tmps,params:=ps,assign,body,defers:=D })):=by
   have b1:BelowO E.own w w1:=hS1.sim.below.mono (fun b hb=>hb.1);have b2:BelowO E.own w1 w2:=⟨rfl,rfl,rfl,by simp[w2],fun b hb=>c8 (fun e=>hb (by rw[e];exact h.el))⟩;have b3:BelowO E.own w2 w3:=hS3.sim.below.mono (fun b hb=>hb.1);have b4:BelowO E.own w3 (w3.putObj l (.loop { state:=.ready,pending:=none,fn,tmps,params:=ps,assign,body,defers:=D })):=⟨rfl,rfl,rfl,by simp,fun b hb=>c8 (fun e=>hb (by rw[e];exact h.el))⟩;exact b1.trans (b2.trans (b3.trans b4))
  refine⟨fun b arr hb=>?_,hle,by simpa using hsz3,hb4.os,hb4.tape,hb4.output,fun b hb hbw=>⟨?_,fun hn=>?_⟩,?_⟩
  . obtain⟨t,fr,ht⟩:=hS3.sim.has b arr hb;exact⟨t,fr,(c8 (nl3 b arr hb)).trans ht⟩
  . have hbl:b≠l:=fun e=>h.nl (by rw[<-e];exact hb);exact(c8 hbl).trans (hout b (fun ho=>ho.2.1 ⟨hb,hbw⟩) hbl)
  .
   cases hx:H3 b with
   |none=>rfl
   |some arr=>
    rcases hext b arr hx with h1|h1
    . rw[hn] at h1;cases h1
    exact absurd ⟨hb,hbw⟩ h1.2.1
  refine⟨?_,⟨D,xt (Array.getElem?_eq_some_iff.1 hD3).1⟩,fun b hb=>h.sub b hb.1,fun hb=>h.nl hb.1,h.el,fun g b hg hb=>?_,fun g s R hg hR hb=>?_,fun D' hD' hb=>h.mks D' hD' hb.1⟩
  .
   refine⟨fun b arr hb=>?_,h.sim.below.trans hb4,fun b hb=>h.sim.lo b (bf hsz3 (by simpa using hb)),h.sim.ext.step (own':=ow) ⟨hle,hext⟩ (fun b hb=>hb.1),fun t=>(h.sim.slot t).okP hle (htm (k+1) t),fun g b hg=>?_,fun g g' b b' hg hg' ha ha' e=>?_,fun g q hq=>?_,⟨h.sim.marks.1,fun d hd=>?_⟩,fun g s g' b R hg hg' ha hR=>?_⟩
   . obtain⟨t,fr,ht⟩:=hS3.sim.has b arr hb;exact⟨t,fr,(c8 (nl3 b arr hb)).trans ht⟩
   . obtain⟨b0,hb0⟩:=hinv g b hg;have ha:=(hal (k+1) g b hg).1;have hbr:=hS3.sim.box g b (hk3 g b hg);have hcell:=hbr.cells ha;rw[hβ g b0 hb0] at hbr hcell;refine(hbr.own_mono (fun b hb=>hb.1)).keep (c8 fun e=>?_) (HLe.refl _) id (fun s R eb hR=>⟨c8 fun e=>?_,id⟩)
     . obtain⟨arr,e',hc⟩:=hcell;rw[e,hD3] at hc;cases hc
     subst eb;obtain⟨_,_,arr,_,fz,hx⟩:=kK hbr.2.2.1 hR;rw[e,hD3] at hx;cases hx
   . obtain⟨b0,hb0⟩:=hinv g b hg;obtain⟨b0',hb0'⟩:=hinv g' b' hg';rw[<-hβ g b0 hb0,<-hβ g' b0' hb0'] at e;exact hS3.sim.inj g g' b b' (hk3 g b hg) (hk3 g' b' hg') ha ha' e
   . obtain⟨p1,p2,p3⟩:=h.sim.pin g q hq;exact⟨p1,hdom k g p2,p3⟩
   . obtain⟨D',e,ho,hb⟩:=h.sim.marks.2 d hd;have hDl:D'≠l:=fun e'=>by rw[e',hD] at hb;cases hb
     refine⟨D',e,ho,(c8 hDl).trans ((hout D' (fun ho'=>ho'.2.2.2 (e▸hd)) hDl).trans hb)⟩
   obtain⟨b0,hb0⟩:=hinv g _ hg;obtain⟨b0',hb0'⟩:=hinv g' b hg';have hbr:=hS3.sim.box g _ (hk3 g _ hg);rw[<-hβ g b0 hb0] at hR;rw[<-hβ g' b0' hb0'];refine hS3.sim.hid g s g' b R (hk3 g _ hg) (hk3 g' b hg') ha (hR.sm (c8 fun e=>?_));obtain⟨arr,e',hc⟩:=hbr.cells rfl;rw[e,hD3] at hc;cases hc
  . obtain⟨b0,hb0⟩:=hinv g b hg;exact h.bxs g b0 hb0 hb.1
  obtain⟨b0,hb0⟩:=hinv g _ hg;have hbr:=hS3.sim.box g _ (hk3 g _ hg);rw[<-hβ g b0 hb0] at hR;have hR3:RowAt s w3 (β3 g).1 R:=hR.sm (c8 fun e=>by
   obtain⟨arr,e',hc⟩:=hbr.cells rfl;rw[e,hD3] at hc;cases hc)
  have hlt:=(kK hbr.2.2.1 hR3).1;have how:=(hbr.2.2.2 R hR3).1;rcases hb.2 with h1|h1
  . exact how.2.1 ⟨hb.1,h1⟩
  have h1:w3.heap.size<=R:=by simpa using h1
  omega
def CW.range{X:Cx}{nt:Nat}{Y:AS}{K:Exit->AS->Prop}(hro:∀r,X.ro r->r=none){g:Operand}{ps:Array Tmp}{assign body:Code}{f:FuncId}{gs:List Nat}{zs:List IV}{ys:List (List IV)}(hg:aS Y.tm g=.clo f gs)(hz:uc Y.bx gs zs)(hgs:gs.Pairwise (· ≠ ·))
 (hit:bm X f zs ys) (tm:Nat->SV) (inv:Nat->Nat->Option Bx) {nx:Nat} (hps:∀p∈ps.toList,p<nt) (hys:∀y∈ys,y.length=ps.size)
 (h0:∀t,tm t=.unk\/Y.tm t=tm t) (htm:∀k t,okP (inv k) (tm t)) (hb0:∀g b,inv 0 g=some b->Y.bx g=some b) (hdj:∀id∈gs,inv 0 id=none)
 (hal:∀k g b,inv k g=some b->b.alive=true/\aP<=g/\g<aP+8) (hdom:∀k g,inv k g≠none↔inv (k+1) g≠none) (hpinned:∀i,i<8->Y.bx (aP+i)≠none->inv 0 (aP+i)≠none)
 (hround:∀k (hk:k<ys.length),CW X.any nt assign ⟨np tm ps.toList ys[k],inv k,nx⟩ (LC X nt body (inv (k+1)))) (hend:K .normal ⟨tm,inv ys.length,nx⟩):CW X nt (.rangeFunc g ps assign body) Y K:=by
 intro ro E Q hI hQ M H U a w hS;have er:=hro ro.1 ro.2;rw[er];refine wpIn_rangeFunc fun fn _=>?_;obtain⟨⟨fn',hf1,hf2,hf3⟩,hcall⟩:=hit
 let w1:World:=(w.alloc (.deferred (some []))).alloc (.loop { state:=.ready,pending:=none,fn,tmps:=a.tmps,params:=ps,assign,body,defers:=w.heap.size })
 have hv:=bb hS.sim rfl g;rw[hg] at hv;obtain⟨hv1,hv2⟩:=hv
 let bs:=gs.map fun g=>(U g).1
 have hbel:Below w.heap.size w w1:=((kA _ _).alloc (ah _) _).alloc (by simp) _;have hw1l:w1.heap[w.heap.size+1]?=some (.loop { state:=.ready,pending:=none,fn,tmps:=a.tmps,params:=ps,assign,body,defers:=w.heap.size }):=by
  have:=N1 (w.alloc (.deferred (some []))) (.loop { state:=.ready,pending:=none,fn,tmps:=a.tmps,params:=ps,assign,body,defers:=w.heap.size });rwa[World.size_alloc] at this
 have hw1D:w1.heap[w.heap.size]?=some (.deferred (some [])) :=
  (Below.heap_alloc (w.alloc (.deferred (some []))) _ w.heap.size (by simp)).trans (N1 w _)
 have hsz1:w1.heap.size=w.heap.size+2:=by simp[w1]
 have G1:=hS.sim.grow hbel (fun b arr hb=>by
  obtain⟨t,fr,ht⟩:=hS.sim.has b arr hb;exact⟨t,fr,(hbel.block b (hS.sim.has.lt hb)).trans ht⟩) (HExt.refl _ _)
 let M':List Deferred:={ target:=.collected w.heap.size,args := #[] }::M
 have G2:Sim (E.mks M') H U tm (inv 0) a.tmps w1:=by
  refine⟨G1.has,G1.below,G1.lo,G1.ext,fun t=>?_,fun g b hb=>G1.box g b (hb0 g b hb),fun g g' b b' h1 h2=>G1.inj g g' b b' (hb0 g b h1) (hb0 g' b' h2),fun g q hq=>?_,?_,?_⟩
  . rcases h0 t with e|e
    . rw[e];trivial
    have:=G1.slot t;rw[e] at this;exact this.okP (HLe.refl _) (htm 0 t)
  . obtain⟨p1,p2,p3,p4⟩:=G1.pin g q hq;have hh:=hpinned (g-aP) (by omega);rw[show aP+(g-aP)=g by omega] at hh;exact⟨p1,hh p2,p3,p4⟩
  rotate_left
  . exact fun g s g' b R h1 h2 ha hR=>G1.hid g s g' b R (hb0 g _ h1) (hb0 g' b h2) ha hR
  refine⟨List.pairwise_cons.2 ⟨fun d hd e=>?_,G1.marks.1⟩,fun d hd=>?_⟩
  . obtain⟨D,e',_,hb⟩:=hS.sim.marks.2 d hd;rw[<-e] at e';cases e';have:=(Array.getElem?_eq_some_iff.1 hb).1;omega
  rcases List.mem_cons.1 hd with rfl|hd
  . exact⟨_,rfl,hS.sim.lo _ (ah _),hw1D⟩
  exact G1.marks.2 d hd
 refine⟨w.heap.size+1,[{ target:=.collected w.heap.size,args := #[] }],w1,{ target:=.fn (.func f) (bs.map fun b=>Value.pointer (some ⟨b,0,none⟩)).toArray,args := #[kL (w.heap.size+1)] },w1,f,(kL (w.heap.size+1)::bs.map fun b=>Value.pointer (some ⟨b,0,none⟩)).toArray,w1,?_,?_,fun _ _=>trivial,?_,fun e=>(by cases e),?_⟩
 . exact run_enterLoop_outer fn a.tmps ps assign body
 . simp only[resolve,rangeCall,hv2,Deferred.ofValue,aA];simp[Act.eval,kL,bs]
 . simp only[invoke,callFunc,aw,uN,av,hf1,hf2,hf3,dB,bM,aA];congr 2;apply fc;simp
 refine(hcall (w.heap.size+1) (RJ X (E.mks M') nt U tm inv (w.heap.size+1) fn a.tmps ps assign body) (fun b=>b∈bs\/w1.heap.size<=b) H w1 bs
  (RJ.iter hI hS.size hps hys htm hal (fun k g=>(hdom k g).1) (fun k g=>(hdom k g).2) hround) ?_ G2.has (fun b hb=>.inr hb) ?_ ?_).mono ?_
 .
  have hbs:∀b∈bs,b<w.heap.size/\E.own b:=fun b hb=>by
   obtain⟨g',hg',rfl⟩:=List.mem_map.1 hb;obtain⟨z,hz'⟩:=m4 hz g' hg';exact⟨(hS.sim.box g' _ hz').lt rfl,(hS.sim.box g' _ hz').lo rfl⟩
  refine⟨G2,⟨_,hw1l⟩,fun b hb=>hb.elim (fun h=>(hbs b h).2) (fun h=>G1.lo b h),fun hb=>hb.elim (fun h=>by have:=(hbs _ h).1;omega) (fun h=>by omega),hS.sim.lo _ (by omega),fun g' b hg' hb=>?_,fun g' s R hg' hR hb=>?_,fun D hD hb=>?_⟩
  . have hbx:=hb0 g' b hg';have ha:=(hal 0 g' b hg').1;rcases hb with hb|hb
    . obtain⟨g2,hg2,e⟩:=List.mem_map.1 hb;obtain⟨z,hz'⟩:=m4 hz g2 hg2;have:=hS.sim.inj g2 g' _ b hz' hbx rfl ha e;subst this;rw[hdj g2 hg2] at hg';cases hg'
    have:=(G1.box g' b hbx).lt ha;omega
  . have hbx:=hb0 g' _ hg';rcases hb with hb|hb
    . obtain⟨g2,hg2,e⟩:=List.mem_map.1 hb;obtain⟨z,hz'⟩:=m4 hz g2 hg2;exact G1.hid g' s g2 _ R hbx hz' rfl hR e
    have:=(kK (G1.box g' _ hbx).2.2.1 hR).1;omega
  obtain⟨D',e,_,hx⟩:=G2.marks.2 _ hD;cases e;have hlt:=(Array.getElem?_eq_some_iff.1 hx).1;rcases hb with hb|hb
  . obtain⟨g2,hg2,e⟩:=List.mem_map.1 hb;obtain⟨z,hz'⟩:=m4 hz g2 hg2;obtain⟨arr,e',hc⟩:=(G1.box g2 _ hz').cells rfl;rw[e,hx] at hc;cases hc
  omega
 . exact CV G1 hz (fun g' hg'=>.inl (List.mem_map.2 ⟨g',hg',rfl⟩))
 . refine List.pairwise_map.2 (hgs.imp_of_mem fun{x y} hx hy hne e=>hne ?_);obtain⟨z1,hz1⟩:=m4 hz x hx;obtain⟨z2,hz2⟩:=m4 hz y hy;exact hS.sim.inj x y _ _ hz1 hz2 rfl rfl e
 rintro e w3 ⟨v,own',H3,rfl,hh3,hJ⟩;obtain⟨D3,hD3⟩:=hJ.rec';refine⟨none,_,run_endLoop hD3 (by simp),?_⟩;refine hQ .normal ⟨tm,inv ys.length,nx⟩ M' H3 U _ _ hend ⟨hJ.sim.poke _ hD3 rfl hJ.el (fun d hd e=>?_),?_,hS.size⟩
 . obtain⟨D',e',_,hb⟩:=hJ.sim.marks.2 d hd;rw[e] at e';cases e';rw[hD3] at hb;cases hb
 show _++a.defers=_;rw[hS.defers];rfl
structure Keep where
 I:World->Prop
 bel:∀n w w',I w->w.heap.size<=n->Below n w w'->I w'
 ro:Option Nat->Prop
 r0:ro none
def Keep.top(J:Keep):Keep:=⟨J.I,J.bel,fun r=>r=none,rfl⟩
def Keep.any(J:Keep):Keep:=⟨J.I,J.bel,fun _=>True,aa⟩
noncomputable def cx(J:Keep):Cx:=⟨Tryz.prog,J.I,TT,Ap,by kernel_rfl,J.bel,fun f=>Nat.beq f 231||Nat.beq f 232,fun f=>Nat.beq f 125,J.ro,J.r0⟩
abbrev C(J:Keep):FuncId->List IV->IV->Prop:=aW Tryz.prog J.I
def tK(nt:Nat)(all:Array Oper)(draw:Bool):Bool:=dc nt all.toList&&(!draw||pv all (k9 all.toList))
def W(J:Keep)(nt:Nat)(c:Code)(Y:AS)(K:Exit->AS->Prop):Prop:=CW (cx J) nt c Y K
def wK(J:Keep)(nt:Nat)(y:Code)(K:Exit->AS->Prop):Exit->AS->Prop
 | .normal,Y=>W J nt y Y K
 |e,Y=>K e Y
section
variable {J:Keep}{nt:Nat}{Y:AS}{K:Exit->AS->Prop}
def aN{f:FuncId}{fn:Func}{c:Code}(hf:Tryz.prog.funcs[f]?=some fn)(hb:fn.body=some c)(hn:(fn.name == "runtime.NumGoroutine")=false){xs:List IV}{r:IV}(hx:Nat.ble xs.length fn.ntmps=true)
 (h:W J fn.ntmps c ⟨argS xs,fun _=>none,0⟩ (M4 TT fn.results.toList r)):C J f xs r :=
 TW (X:=cx J) hf hb hn (bl hx) h
def MF{f:FuncId}{fn:Func}{c:Code}(hf:Tryz.prog.funcs[f]?=some fn)(hb:fn.body=some c)(hn:(fn.name == "runtime.NumGoroutine")=false){e:TypeId}{sz off n:Nat}{es es' xs:List IV}{r:IV}(hx:Nat.ble (xs.length+1) fn.ntmps=true)
 (h:W J fn.ntmps c ⟨No off n xs,dG [(aP,.arr e sz es false)],0⟩ (MY TT fn.results.toList (.arr e sz es' false) r)):bc Tryz.prog J.I f e sz off n es xs es' r :=
 Wj (X:=cx J) hf hb hn (bl hx) h
def W.R{id:Nat}{all:Array Oper}{draw:Bool}(h:tW (cx J) all draw Y (K .normal))(h0:tK nt all draw=true:=by kernel_rfl):W J nt (.region id all draw) Y K:=by
 simp only[tK,aH,iW] at h0;exact CW.region h0.1 (fun e=>h0.2.resolve_left (by subst e;simp)) h
def W.S{x y:Code}(h:W J nt x Y (wK J nt y K)):W J nt (.seq x y) Y K:=CW.seq (CW.mono h fun e Y k=>by cases e<;>exact k)
def W.RS{id:Nat}{all:Array Oper}{draw:Bool}{y:Code}(h:tW (cx J) all draw Y fun Y'=>W J nt y Y' K)(h0:tK nt all draw=true:=by kernel_rfl):W J nt (.seq (.region id all draw) y) Y K :=
 W.S (W.R h h0)
def W.skip(h:K .normal Y):W J nt .skip Y K:=CW.skip h
def W.ret(h:K .ret Y):W J nt .ret Y K:=CW.ret h
def W.exit{id:Nat}(h:K (.exit id) Y):W J nt (.exit id) Y K:=CW.exit h
def W.label{l:Nat}(h:K .normal Y):W J nt (.label l) Y K:=CW.label h
def W.cond{c:Operand}{x y:Code}{t:Bool}(hc:aS Y.tm c=.iv (.bool t))(h1:t=true->W J nt x Y K)(h2:t=false->W J nt y Y K):W J nt (.cond c x y) Y K:=CW.cond hc h1 h2
def W.block{id:Nat}{c:Code}(h:W J nt c Y (zX id K)):W J nt (.block id c) Y K:=CW.block h
def W.weak{c:Code}{Y':AS}(hw:Wk Y Y')(h:W J nt c Y' K):W J nt c Y K:=CW.weak hw h
def W.loop{G:Type}(inv:G->AS)(μ:G->Nat){c:Code}(g0:G)(h0:Wk Y (inv g0))(h:∀g,W J nt c (inv g) (My inv μ g K)):W J nt (.loop c) Y K:=CW.loop inv μ g0 h0 h
def W.join{G:Type}(inv:G->AS){x y:Code}(h1:W J nt x Y (MB inv K))(h2:∀g,W J nt y (inv g) K):W J nt (.seq x y) Y K:=CW.join inv h1 h2
def W.condT{c:Operand}{x y:Code}(hc:aS Y.tm c=.iv (.bool true))(h:W J nt x Y K):W J nt (.cond c x y) Y K:=W.cond hc (fun _=>h) (fun e=>by cases e)
def W.condF{c:Operand}{x y:Code}(hc:aS Y.tm c=.iv (.bool false))(h:W J nt y Y K):W J nt (.cond c x y) Y K:=W.cond hc (fun e=>by cases e) (fun _=>h)
def Nk(J:Keep)(nt:Nat)(Y:AS)(K:Exit->AS->Prop):Code->Option Prop
 | .seq x y=>some (W J nt x Y (wK J nt y K))
 | .block id c=>some (W J nt c Y (zX id K))
 | .skip=>some (K .normal Y)
 | .label _=>some (K .normal Y)
 | .ret=>some (K .ret Y)
 | .exit id=>some (K (.exit id) Y)
 | .cond c x y=>match aS Y.tm c with
  | .iv (.bool true)=>some (W J nt x Y K)
  | .iv (.bool false)=>some (W J nt y Y K)
  |_=>none
 |_=>none
def W.c{c:Code}{P:Prop}(h:P)(e:Nk J nt Y K c=some P:=by exact rfl):W J nt c Y K:=by
 unfold Nk at e;split at e
 . cases e;exact W.S h
 . cases e;exact W.block h
 . cases e;exact W.skip h
 . cases e;exact W.label h
 . cases e;exact W.ret h
 . cases e;exact W.exit h
 .
  split at e
  . rename_i hc;cases e;exact W.condT hc h
  . rename_i hc;cases e;exact W.condF hc h
  cases e
 cases e
end
attribute [irreducible] W
def xT{p:Prop}[Decidable p]{K:Bool->Prop}(k:K true)(h:p:=by omega):∃b,decide p=b/\K b:=⟨true,bB h,k⟩
def xF{p:Prop}[Decidable p]{K:Bool->Prop}(k:K false)(h:¬p:=by omega):∃b,decide p=b/\K b:=⟨false,bE h,k⟩
def xr{α:Sort _}{a:α}{p:Prop}(k:p):a=a/\p:=⟨rfl,k⟩
def xA{α:Sort _}{a b:α}{K:α->Prop}(k:K b):∃r,(false=true->a=r)/\(false=false->b=r)/\K r:=⟨b,fun h=>absurd h Bool.false_ne_true,fun _=>rfl,k⟩
def xB{α:Sort _}{a b:α}{K:α->Prop}(k:K a):∃r,(true=true->a=r)/\(true=false->b=r)/\K r:=⟨a,fun _=>rfl,fun h=>absurd h.symm Bool.false_ne_true,k⟩
def cZ{a:Int}(h : -9223372036854775808<=a/\a<=9223372036854775807:=by omega):IntKind.wrap .i64 a=a:=by
 show(let m:=a%(18446744073709551616:Int);if true&&decide (m>=(9223372036854775808:Int)) then m-(18446744073709551616:Int) else m)=a;by_cases h0:a%(18446744073709551616:Int)>=9223372036854775808
 . simp[h0];omega
 simp[h0];omega
def wT{a:Int}(h:0<=a/\a<=4294967295:=by omega):IntKind.wrap .u32 a=a:=by
 show(let m:=a%(4294967296:Int);if false&&decide (m>=(2147483648:Int)) then m-(4294967296:Int) else m)=a;simp;omega
def fa{a:Int}(h:0<=a/\a<=18446744073709551615:=by omega):IntKind.wrap .u64 a=a:=by
 show(let m:=a%(18446744073709551616:Int);if false&&decide (m>=(9223372036854775808:Int)) then m-(18446744073709551616:Int) else m)=a;simp;omega
def cy{α:Sort _}{a:α}{x:Int}{K:Int->Prop}(k:K x)(h : -9223372036854775808<=x/\x<=9223372036854775807:=by omega):a=a/\∃r,IntKind.wrap .i64 x=r/\K r:=⟨rfl,x,cZ h,k⟩
structure Hid(p:Prop):Prop where
 out:p
def aK{p q:Prop}(h:q)(f:Hid q->p:=by intro h;(repeat ((first|refine W.R ?_|refine W.c ?_|refine W.RS ?_|refine W.ret ?_|refine W.skip ?_|refine cy ?_|refine⟨rfl,_,wT,?_⟩|refine⟨_,cZ,?_⟩|refine⟨_,wT,?_⟩|refine xT ?_|refine xF ?_|refine⟨true,bne_iff_ne.2 (by omega),?_⟩|refine⟨false,bne_eq_false_iff_eq.2 (by omega),?_⟩|refine⟨_,rfl,?_⟩|refine xr ?_|refine And.intro (by omega) ?_|refine xA ?_|refine xB ?_);conv=>whnf));exact h.1):p:=f ⟨h⟩
def af{p q:Prop}(h:q)(f:Hid q->p:=by intro h;((first|refine W.R ?_|refine W.c ?_|refine W.RS ?_|refine W.ret ?_|refine W.skip ?_);conv=>whnf);(repeat ((first|refine W.R ?_|refine W.c ?_|refine W.RS ?_|refine W.ret ?_|refine W.skip ?_);conv=>whnf));exact h.1):p:=f ⟨h⟩
def ap{p q:Prop}(h:q)(f:Hid q->p:=by intro h;((first|refine cy ?_|refine⟨rfl,_,wT,?_⟩|refine⟨_,cZ,?_⟩|refine⟨_,wT,?_⟩|refine xT ?_|refine xF ?_|refine⟨true,bne_iff_ne.2 (by omega),?_⟩|refine⟨false,bne_eq_false_iff_eq.2 (by omega),?_⟩|refine⟨_,rfl,?_⟩|refine xr ?_|refine And.intro (by omega) ?_|refine xA ?_|refine xB ?_);conv=>whnf);exact h.1):p:=f ⟨h⟩
end Go.Proofs.Fl
namespace Go.Proofs.Fl
open Go.RowKit
attribute [local irreducible] IntKind.wrap aW bc bj bm
def tx(J:Keep)(ds:List IV):C J 57 [.agg [.sl ds]] (.bool ((ds.length:Int)==0)):=by
 refine aN Tryz.func57 rfl rfl rfl ?_;refine aK ?_;rfl
def UK(J:Keep)(a:Int):C J 251 [.int .i64 a] (.bool false):=by
 refine aN Tryz.func251 rfl rfl rfl ?_;refine aK ?_;simp[iD]
def UJ(J:Keep)(a:Int):C J 261 [.int .u32 a] (.bool false):=by
 refine aN Tryz.func261 rfl rfl rfl ?_;refine aK ?_;simp[iD]
def a7(a b:Int):Int:=if a<b then -1 else if b<a then 1 else 0
def UT(J:Keep)(a b:Int):C J 211 [.int .i64 a,.int .i64 b] (.int .i64 (a7 a b)):=by
 refine aN Tryz.func211 rfl rfl rfl ?_;repeat (first|(refine af ?_)|(refine⟨_,UK _ _,?_⟩;conv=>whnf)|(refine ap ?_))
 refine W.cond rfl (fun h=>?_) (fun h=>?_)
 . have h:=mP h;refine aK ?_;simp[iD,a7,h]
 have h:=sw h;refine aK ?_;refine W.cond rfl (fun h=>?_) (fun h=>?_)
 . have h2:=mP h;refine aK ?_;simp[iD,a7];omega
 have h2:=sw h;refine aK ?_;simp[iD,a7];omega
end Go.Proofs.Fl
namespace Go.Proofs.Dig
def nv(B:Nat):List Nat->Nat
 | []=>0
 |d::ds=>d+B*nv B ds
def Wh(B:Nat):nv B []=0:=rfl
def jb(B d:Nat)(ds:List Nat):nv B (d::ds)=d+B*nv B ds:=rfl
def nX(B:Nat)(a b:List Nat):nv B (a++b)=nv B a+B^a.length*nv B b:=by
 induction a with
 |nil=>simp[nv]
 |cons d a ih=>simp only[lC,nv,ih,aY,bX];rw[cg];rw[dw (B^a.length) B];rw[eC];omega
def m6(B d:Nat)(a:List Nat):nv B (a ++ [d])=nv B a+B^a.length*d:=by
 rw[nX];simp[nv]
def xS(B n:Nat):nv B (List.replicate n 0)=0:=by
 induction n with
 |zero=>rfl
 |succ n ih=>simp[qA,nv,ih]
def Dg(B:Nat)(ds:List Nat):Prop:=∀d∈ds,d<B
def Dg.nil(B:Nat):Dg B []:=by intro d h;simp at h
def Dg.append{B:Nat}{a b:List Nat}(ha:Dg B a)(hb:Dg B b):Dg B (a++b):=by
 intro d h;rcases List.mem_append.1 h with h|h
 . exact ha d h
 exact hb d h
def oW{B d:Nat}(h:d<B):Dg B [d]:=by intro x hx;simp at hx;omega
def Dg.left{B:Nat}{a b:List Nat}(h:Dg B (a++b)):Dg B a:=fun d hd=>h d (by simp[hd])
def Dg.take{B:Nat}{a:List Nat}(h:Dg B a)(n:Nat):Dg B (a.take n):=fun d hd=>h d (dY hd)
def Dg.drop{B:Nat}{a:List Nat}(h:Dg B a)(n:Nat):Dg B (a.drop n):=fun d hd=>h d (jK hd)
def Dg.get{B:Nat}{a:List Nat}(h:Dg B a){i:Nat}(hi:i<a.length):a[i]<B:=h _ (iw hi)
def Dg.getD{B:Nat}{a:List Nat}(h:Dg B a)(hB:0<B)(i:Nat):a.getD i 0<B:=by
 rw[cn];by_cases hi:i<a.length
 . rw[bi hi];exact h.get hi
 rw[sq (by omega)];exact hB
def Dg.replicate{B:Nat}(hB:0<B)(n:Nat):Dg B (List.replicate n 0):=by
 intro d h;have:=AW h;omega
def Dg.set{B:Nat}{a:List Nat}(h:Dg B a){i x:Nat}(hx:x<B):Dg B (a.set i x):=by
 intro d hd;rcases FD hd with h1|h1
 . exact h d h1
 omega
def fL{B:Nat}{ds:List Nat}(h:Dg B ds):nv B ds<B^ds.length:=by
 induction ds with
 |nil=>simp[nv]
 |cons d ds ih=>
  have h1:=ih (fun x hx=>h x (by simp[hx]));have h2:=h d (by simp);simp only[nv,aY,bX];have:B*(nv B ds+1)<=B*B^ds.length:=hX B h1;rw[cg] at this;rw[dw (B^ds.length) B];omega
def Nm(ds:List Nat):Prop:=∀d,ds.getLast?=some d->d≠0
def Nm.nil:Nm []:=by intro d h;simp at h
def DN{a:List Nat}{d:Nat}(h:d≠0):Nm (a ++ [d]):=by intro x hx;simp at hx;omega
def Nm.cons{a:List Nat}{d:Nat}(h:Nm (d::a)):Nm a:=by
 intro x hx;cases a with
 |nil=>simp at hx
 |cons y a=>exact h x (by rw[N2];exact hx)
def Nm.drop{a:List Nat}(h:Nm a)(n:Nat):Nm (a.drop n):=by
 intro x hx;rw[List.getLast?_drop] at hx;split at hx
 . simp at hx
 exact h x hx
def G4{a:List Nat}(h:a≠[]):∃b d,a=b ++ [d]:=⟨a.dropLast,a.getLast h,(YV h).symm⟩
structure Ok(B:Nat)(ds:List Nat):Prop where
 dg:Dg B ds
 nm:Nm ds
def Ok.nil(B:Nat):Ok B []:=⟨Dg.nil B,Nm.nil⟩
def rM{B:Nat}{ds:List Nat}(h:Nm ds)(hne:ds≠[]):B^(ds.length-1)<=nv B ds:=by
 obtain⟨a,d,rfl⟩:=G4 hne;have hd:d≠0:=h d (by simp);rw[m6];simp only[bg,aY,oF,a8,FN];have:B^a.length*1<=B^a.length*d:=hX _ (by omega);omega
def LK{B:Nat}(hB:0<B){ds:List Nat}(h:Nm ds)(hne:ds≠[]):0<nv B ds :=
 iy (gB hB) (rM h hne)
def GS{B:Nat}(hB:0<B){ds:List Nat}(h:Nm ds):nv B ds=0↔ds=[]:=by
 constructor
 . intro h0;by_cases hne:ds=[]
   . exact hne
   have:=LK hB h hne;omega
 rintro rfl;rfl
def Bq{B:Nat}(hB:0<B){a b:List Nat}(ha:Dg B a)(hb:Nm b)(h:a.length<b.length):nv B a<nv B b:=by
 have h1:=fL ha;have h2:B^(b.length-1)<=nv B b:=rM hb (by intro e;subst e;simp at h);have h3:B^a.length<=B^(b.length-1):=co hB (by omega);omega
def SC{B x y d e:Nat}(hx:x<B)(h:d<e):x+B*d<y+B*e:=by
 have:B*(d+1)<=B*e:=hX _ (by omega);rw[cg] at this;omega
def B3{B:Nat}{a b c:List Nat}{d e:Nat}(ha:Dg B a)(hl:a.length=b.length)(h:d<e) :
 nv B (a++d::c)<nv B (b++e::c):=by
 rw[nX,nX,jb,jb,hl,cg,cg];have h1:=fL ha;rw[hl] at h1;have h2:=SC (y:=nv B b) h1 h;omega
def Ea{B:Nat}(hB:1<B):∀{a b:List Nat},Ok B a->Ok B b->nv B a=nv B b->a=b
 | [],b,_,hb,h=>((GS (by omega) hb.nm).1 h.symm).symm
 |d::a,[],ha,_,h=>(GS (by omega) ha.nm).1 h
 |d::a,e::b,ha,hb,h=>by
  simp only[nv] at h;have h1:=ha.dg d (by simp);have h2:=hb.dg e (by simp);have h3:d=e:=by
   have:=aL (· % B) h;simpa[A2,gA h1,gA h2] using this
  subst h3;have h4:nv B a=nv B b:=by
   have:B*nv B a=B*nv B b:=by omega
   exact Nat.eq_of_mul_eq_mul_left (by omega) this
  rw[Ea hB ⟨fun x hx=>ha.dg x (by simp[hx]),ha.nm.cons⟩ ⟨fun x hx=>hb.dg x (by simp[hx]),hb.nm.cons⟩ h4]
def strip(ds:List Nat):List Nat:=(ds.reverse.dropWhile (· == 0)).reverse
def Gj(a:List Nat):strip (a ++ [0])=strip a:=by simp[strip]
def GY{a:List Nat}{d:Nat}(h:d≠0):strip (a ++ [d])=a ++ [d]:=by simp[strip,h]
def Bz(ds:List Nat):Nm (strip ds)/\∃n,ds=strip ds++List.replicate n 0:=by
 induction hn:ds.length generalizing ds with
 |zero=>have:ds=[]:=ss hn;subst this;exact⟨Nm.nil,0,rfl⟩
 |succ n ih=>
  obtain⟨a,d,rfl⟩:=G4 (a:=ds) (by intro e;subst e;simp at hn);by_cases hd:d=0
  . subst hd;rw[Gj];obtain⟨h1,k,h2⟩:=ih a (by simpa using hn);refine⟨h1,k+1,?_⟩;rw[List.replicate_succ',<-dI,<-h2]
  rw[GY hd];exact⟨DN hd,0,by simp⟩
def I3(B:Nat)(ds:List Nat):nv B (strip ds)=nv B ds:=by
 obtain⟨_,n,h⟩:=Bz ds;conv=>rhs;rw[h]
 rw[nX,xS];simp
def Dg.strip{B:Nat}{ds:List Nat}(h:Dg B ds):Dg B (strip ds):=by
 obtain⟨_,n,e⟩:=Bz ds;rw[e] at h;exact h.left
def Ok.strip{B:Nat}{ds:List Nat}(h:Dg B ds):Ok B (strip ds):=⟨h.strip,(Bz ds).1⟩
def uX{B:Nat}(hB:1<B){a:List Nat}(ha:Ok B a){k:Nat}(h:nv B a<B^k):a.length<=k:=by
 by_cases hne:a=[]
 . subst hne;simp
 have h1:=rM (B:=B) ha.nm hne;have h2:B^(a.length-1)<B^k:=by omega
 have:=(Nat.pow_lt_pow_iff_right hB).1 h2;omega
def u7(B:Nat)(a:List Nat)(n:Nat)(h:n<=a.length:=by omega):nv B a=nv B (a.take n)+B^n*nv B (a.drop n):=by
 conv=>lhs;rw[<-kC n a]
 rw[nX,bG,ce h]
def uW{a:List Nat}{i:Nat}(h:i<a.length):a.take (i+1)=a.take i ++ [a[i]]:=by
 rw[N3 h]
def Bp(B:Nat)(a:List Nat)(i:Nat)(h:i<a.length):nv B (a.take (i+1))=nv B (a.take i)+B^i*a[i]:=by
 rw[uW h,m6,bG,ce (by omega)]
def Uo(B:Nat)(a:List Nat)(i:Nat)(h:i<a.length):nv B (a.drop i)=a[i]+B*nv B (a.drop (i+1)):=by
 rw[gS h,jb]
def qL{o:List Nat}{i x:Nat}(h:i<o.length:=by omega):(o.set i x).take (i+1)=o.take i ++ [x]:=by
 rw[uW (by simpa using h),List.take_set,List.set_eq_of_length_le (by simp;omega)];simp
def Gr(o:List Nat)(i x:Nat):(o.set i x).drop (i+1)=o.drop (i+1):=by
 rw[List.drop_set,au (by omega)]
def Gs{o:List Nat}{i x:Nat}(h:i<o.length):(o.set i x).drop i=x::o.drop (i+1):=by
 rw[gS (by simpa using h),Gr];simp
def Qe{B i c c' x x' s X:Nat}{A:List Nat}(hA:A.length=i)(h:nv B A+B^i*c=X)(hx:x=x'+B*c')(hs:x=s+c) :
 nv B (A ++ [x'])+B^(i+1)*c'=X+B^i*s:=by
 rw[m6,hA,bX,<-h,eC];have:B^i*x=B^i*x'+B^i*(B*c'):=by rw[hx,cg]
 have h2:B^i*x=B^i*s+B^i*c:=by rw[hs,cg]
 omega
def GW{B i c c' x s y X Yz9:Nat}{A:List Nat}(hA:A.length=i)(h:nv B A+Yz9=X+B^i*c)(hx:x+s+c=y+B*c') :
 nv B (A ++ [x])+(Yz9+B^i*s)=(X+B^i*y)+B^(i+1)*c':=by
 rw[m6,hA,bX,eC];have h2:B^i*(x+s+c)=B^i*(y+B*c'):=by rw[hx]
 rw[cg,cg,cg] at h2;omega
end Go.Proofs.Dig
namespace Go.Proofs.Fl
open Go.RowKit Go.Proofs.Dig
attribute [local irreducible] IntKind.wrap aW bc bj bm
def US(J:Keep)(a b:Int):C J 222 [.int .u32 a,.int .u32 b] (.int .i64 (a7 a b)):=by
 refine aN Tryz.func222 rfl rfl rfl ?_;repeat (first|(refine af ?_)|(refine⟨_,UJ _ _,?_⟩;conv=>whnf)|(refine ap ?_))
 refine W.cond rfl (fun h=>?_) (fun h=>?_)
 . have h:=mP h;refine aK ?_;simp[iD,a7,h]
 have h:=sw h;refine aK ?_;refine W.cond rfl (fun h=>?_) (fun h=>?_)
 . have h2:=mP h;refine aK ?_;simp[iD,a7];omega
 have h2:=sw h;refine aK ?_;simp[iD,a7];omega
abbrev B9:Nat:=1000000000
def u32(d:Nat):IV:=.int .u32 d
abbrev bP(l:List Nat):IV:=.agg [.sl (l.map u32)]
def pY(a b:List Nat):Int:=a7 (nv B9 a) (nv B9 b)
def df{k:IntKind}{a b:Int}(h:a=b:=by omega):SV.iv (.int k a)=SV.iv (.int k b):=by rw[h]
def Dp{l:List Nat}{j:Nat}(h:j<l.length):(l.map u32)[j]?=some (u32 l[j]):=by simp[h]
def vv{x y:Int}(h:a7 x y=0):x=y:=by
 unfold a7 at h;split at h
 . cases h
 split at h
 . cases h
 omega
def Iv{x y:Int}(h:(x != y)=false):x=y:=by simpa using h
def JL{x y:Int}(h:(x != y)=true):x≠y:=by simpa using h
def SJ{a b:List Nat}(ha:Ok B9 a)(hb:Ok B9 b)(h:a.length≠b.length):pY a b=a7 a.length b.length:=by
 unfold pY a7;rcases N4 h with h|h
 . have:=Bq (by decide) ha.dg hb.nm h;rw[au (by omega),au (by omega)]
 have:=Bq (by decide) hb.dg ha.nm h;rw[aq (by omega),au (by omega),aq (by omega),au (by omega)]
def SI{a b:List Nat}(ha:Ok B9 a)(hb:Ok B9 b)(hl:a.length=b.length){k:Nat}(hk:k<a.length)(hd:a.drop (k+1)=b.drop (k+1))(hne:a[k]≠b[k]'(by omega)) :
 pY a b=a7 (a[k]:Nat) (b[k]'(by omega):Nat):=by
 have ea:a=a.take k++a[k]::a.drop (k+1):=by simp
 have eb:b=b.take k++b[k]'(by omega)::a.drop (k+1):=by rw[hd];simp
 have hlt:(a.take k).length=(b.take k).length:=by simp;omega
 unfold pY a7;rcases N4 hne with h|h
 . have:=B3 (B:=B9) (c:=a.drop (k+1)) (ha.dg.take k) hlt h;rw[<-ea,<-eb] at this;rw[au (by omega),au (by omega)]
 have:=B3 (B:=B9) (c:=a.drop (k+1)) (hb.dg.take k) hlt.symm h;rw[<-ea,<-eb] at this;rw[aq (by omega),au (by omega),aq (by omega),au (by omega)]
def za(J:Keep){a b:List Nat}(ha:Ok B9 a)(hb:Ok B9 b)(hl:a.length<2^60:=by omega):C J 175 [bP a,bP b] (.int .i64 (pY a b)):=by
 have la:(a.map u32).length=a.length:=by simp
 have lb:(b.map u32).length=b.length:=by simp
 refine aN Tryz.func175 rfl rfl rfl ?_;repeat (first|(refine af ?_)|(refine⟨_,UT _ _ _,?_⟩;conv=>whnf)|(refine ap ?_))
 refine W.cond rfl (fun h=>?_) (fun h=>?_)
 . have h:=JL h;rw[la,lb] at h;refine aK ?_;rw[SJ ha hb (fun e=>h (by rw[e];simp[a7])),la,lb];rfl
 have h:=vv (Iv h);have hab:a.length=b.length:=by omega
 refine aK ?_;refine W.loop (G:={ k:Nat // k<=a.length/\a.drop k=b.drop k }) (fun k=>aF [(2,.ptr 0 0),(3,.ptr 1 0),(6,.iv (.int .i64 ((k.1:Int)-1)))] [(0,.var (bP a)),(1,.var (bP b))] 2) (fun k=>k.1) ⟨a.length,ah _,by simp[hab]⟩
  (Wk.tab [] ⟨ab,ab,⟨?_,rfl⟩,aa⟩ ⟨rfl,rfl,aa⟩ rfl) ?_
 . show SV.iv (.int .i64 _)=SV.iv (.int .i64 _);rw[la]
 rintro⟨k,hk,hd⟩;dsimp only;refine aK ?_;refine W.cond rfl (fun h=>?_) (fun h=>?_)
 .
  have h:=mP h;obtain⟨k,rfl⟩:∃j,k=j+1:=⟨k-1,by omega⟩;have hk1:k<a.length:=by omega
  refine aK ?_;refine⟨k,_,by omega,Dp hk1,rfl,?_⟩;conv=>whnf
  refine⟨k,_,by omega,Dp (show k<b.length by omega),rfl,?_⟩;conv=>whnf
  repeat (first|((first|refine W.RS ?_|refine⟨_,US _ _ _,?_⟩);conv=>whnf)|(refine ap ?_))
  refine W.cond rfl (fun h=>?_) (fun h=>?_)
  . have h2:=JL h;refine aK ?_;have hne:a[k]≠b[k]:=fun e=>h2 (by rw[e];simp[a7]);rw[SI ha hb hab hk1 hd hne];rfl
  have h2:=vv (Iv h);refine aK ?_;refine⟨⟨k,by omega,?_⟩,Wk.tab [] ⟨ab,ab,⟨df (by dsimp only;omega),rfl⟩,aa⟩ ⟨rfl,rfl,aa⟩ rfl,?_⟩
  . rw[gS hk1,gS (show k<b.length by omega),hd,show a[k]=b[k] by omega]
  show k<k+1;omega
 have h:=sw h;have hk0:k=0:=by omega
 subst hk0;repeat (first|(refine af ?_)|(refine W.exit ?_;conv=>whnf))
 have e:a=b:=by simpa using hd
 subst e;simp[iD,pY,a7]
def OG{l:List Nat}{n:Nat}(hn:n<l.length)(h0:l[n]=0):strip (l.take (n+1))=strip (l.take n):=by
 rw[uW hn,h0,Gj]
def OV{l:List Nat}{n:Nat}(hn:n<l.length)(h0:l[n]≠0):strip (l.take (n+1))=l.take (n+1):=by
 rw[uW hn,GY h0]
def E5{a:List IV}{l:List Nat}(h:a=l.map u32):IV.agg [.sl a]=bP l:=by rw[h]
def UU(J:Keep){l:List Nat}(hl:l.length<2^60):C J 183 [.sl (l.map u32)] (bP (strip l)):=by
 have la:(l.map u32).length=l.length:=by simp
 refine aN Tryz.func183 rfl rfl rfl ?_;refine aK ?_;refine W.loop (G:={ n:Nat // n<=l.length/\strip l=strip (l.take n) }) (fun n=>aF [(0,.iv (.sl (l.map u32))),(2,.ptr 0 0),(3,.iv (.int .i64 (n.1:Int)))] [(0,.var (.agg [.sl []]))] 1) (fun n=>n.1) ⟨l.length,ah _,by simp⟩
  (Wk.tab [] ⟨ab,ab,⟨df (by dsimp only;omega),rfl⟩,aa⟩ ⟨rfl,aa⟩ rfl) ?_
 rintro⟨n,hn,hs⟩;dsimp only;by_cases h:n=0
 . subst h;repeat (first|(refine af ?_)|(refine⟨by omega,by omega,by omega,.inr (by simp),.inl rfl,?_⟩;conv=>whnf)|(refine ap ?_))
   refine E5 ?_;rw[hs];rfl
 obtain⟨n,rfl⟩:∃m,n=m+1:=⟨n-1,by omega⟩;refine aK ?_;refine⟨n,_,by omega,Dp (show n<l.length by omega),rfl,?_⟩;conv=>whnf
 by_cases h0:l[n]=0
 . repeat (first|(refine af ?_)|(refine W.block ?_)|(refine W.condT rfl ?_)|(refine ap ?_))
   refine⟨⟨n,by omega,by rw[hs,OG (by omega) h0]⟩,Wk.tab [] ⟨ab,ab,⟨df (by dsimp only;omega),rfl⟩,aa⟩ ⟨rfl,aa⟩ rfl,?_⟩;dsimp only;omega
 repeat (first|(refine af ?_)|(refine W.exit ?_;conv=>whnf)|(refine W.condF rfl ?_)|(refine⟨by omega,by omega,by omega,.inr (by simp),.inl rfl,?_⟩;conv=>whnf)|(refine ap ?_))
 rw[OV (by omega) h0] at hs;refine E5 ?_;rw[hs];simp
def EL(n:Nat):∃l,Ok B9 l/\nv B9 l=n:=by
 induction n using Nat.strongRecOn with
 |_ n ih=>
  by_cases h:n=0
  . exact⟨[],Ok.nil _,by rw[h];rfl⟩
  obtain⟨l,h1,h2⟩:=ih (n/B9) (FO (by omega) (by decide));refine⟨n%B9::l,⟨?_,?_⟩,?_⟩
  . intro d hd;rcases List.mem_cons.1 hd with rfl|hd
    . exact ib _ (by decide)
    exact h1.dg d hd
  .
   intro d hd;cases l with
   |nil=>
    simp at hd;subst hd;have:n/B9=0:=h2.symm;have h5:=oH n B9;rw[this] at h5;omega
   |cons x l=>exact h1.nm d (by rwa[N2] at hd)
  rw[jb,h2,Nat.mod_add_div]
noncomputable def dg(n:Nat):List Nat:=(EL n).choose
def dm(n:Nat):Ok B9 (dg n):=(EL n).choose_spec.1
def dT(n:Nat):nv B9 (dg n)=n:=(EL n).choose_spec.2
def tQ{l:List Nat}(h:Ok B9 l){n:Nat}(e:nv B9 l=n):l=dg n:=Ea (by decide) h (dm n) (by rw[e,dT])
def s9{l:List Nat}(h:Dg B9 l){n:Nat}(e:nv B9 l=n):strip l=dg n:=tQ (Ok.strip h) (by rw[I3,e])
def pc:dg 0=[]:=(tQ (Ok.nil _) rfl).symm
def Qa{n:Nat}:dg n=[]↔n=0:=by
 constructor
 . intro h;have:=dT n;rw[h] at this;exact this.symm
 rintro rfl;exact pc
noncomputable def ln(n:Nat):Nat:=(dg n).length
def mc{n k:Nat}(h:n<B9^k:=by decide):ln n<=k:=uX (by decide) (dm n) (by rw[dT];exact h)
def n9(n:Nat):n<B9^ln n:=by have:=fL (dm n).dg;rwa[dT] at this
noncomputable abbrev aQ(n:Nat):IV:=.agg [.sl ((dg n).map u32)]
def wu(a:Nat):(a:Int).tmod 1000000000=((a%1000000000:Nat):Int):=by
 rw[xu (by omega)];omega
def z8(a:Nat):(a:Int).tdiv 1000000000=((a/1000000000:Nat):Int):=by
 rw[Int.tdiv_eq_ediv_of_nonneg (by omega)];omega
def Nr{a:Nat}(h:a<=18446744073709551615:=by omega):IntKind.wrap .u64 ((a:Int).tdiv 1000000000)=((a/1000000000:Nat):Int):=by
 rw[z8];exact fa
def n8{z:IV}{k:IntKind}{n:Int}:∀y∈List.take 1 (List.drop 0 ((List.replicate 1 z).set 0 (IV.int k n))),y.cells.length=1/\y.isTup=false:=by
 intro y hy;simp at hy;subst hy;exact⟨rfl,rfl⟩
def ko{a b:Nat}(h:Nat.beq a b=false:=by exact rfl):¬a∈[b]:=fun e=>AX h (List.mem_singleton.1 e)
def W1(p:List Nat×Nat):AS :=
 match p.1 with
 | []=>aF [(0,.iv (.int .u64 (p.2:Int))),(2,.ptr 0 0),(3,.nilS)] [(0,.var (.agg [.sl []]))] 10
 |x::o=>aF [(0,.iv (.int .u64 (p.2:Int))),(2,.ptr 0 0),(3,.ref 1 0 (x::o).length true)] [(0,.var (.agg [.sl []])),(1,.arr 193 1 ((x::o).map u32) false)] 10
def lU(J:Keep){n:Nat}(hn:n<2^64:=by omega):C J 131 [.int .u64 n] (aQ n):=by
 refine aN Tryz.func131 rfl rfl rfl ?_;refine aK ?_;refine W.loop (G:={ p:List Nat×Nat // Dg B9 p.1/\nv B9 p.1+B9^p.1.length*p.2=n/\(p.2=0->Nm p.1)/\p.2<2^64/\p.1.length<=3 }) (fun p=>W1 p.1) (fun p=>p.1.2) ⟨([],n),Dg.nil _,by simp[nv],fun _=>Nm.nil,hn,by simp⟩
  (Wk.tab [] ⟨ab,ab,ab,aa⟩ ⟨rfl,aa⟩ rfl) ?_
 rintro⟨⟨o,m⟩,hd,hv,hnm,hm,hl⟩;dsimp only at hd hv hnm hm hl;cases o with
 |nil=>
  show W J _ _ (aF [(0,.iv (.int .u64 (m:Int))),(2,.ptr 0 0),(3,.nilS)] [(0,.var (.agg [.sl []]))] 10) _;by_cases h:m=0
  . subst h;refine aK ?_;have hn0:n=0:=by rw[<-hv];rfl
    subst hn0;refine aL (fun x=>IV.agg [IV.sl x]) ?_;rw[pc];rfl
  repeat (first|(refine af ?_)|((first|refine⟨by decide,_,wu _,?_⟩|refine⟨by decide,_,Nr,?_⟩|refine⟨n8,bl rfl,bl rfl,?_⟩);conv=>whnf)|(refine ap ?_))
  refine⟨⟨([m%1000000000],m/1000000000),oW (ib _ (by decide)),?_,?_,by dsimp only;omega,by simp⟩,
   Wk.tab [(1,17)] ⟨ab,ab,ab,aa⟩ ⟨rfl,rfl,aa⟩ rfl,?_⟩
  . simp[nv,B9] at hv ⊢;omega
  . intro h0;dsimp only at h0;intro d hd;simp at hd;omega
  dsimp only;omega
 |cons x o=>
  show W J _ _ (aF [(0,.iv (.int .u64 (m:Int))),(2,.ptr 0 0),(3,.ref 1 0 (x::o).length true)] [(0,.var (.agg [.sl []])),(1,.arr 193 1 ((x::o).map u32) false)] 10) _;by_cases h:m=0
  . subst h;refine aK ?_;refine E5 ?_;have e:x::o=dg n:=tQ ⟨hd,hnm rfl⟩ (by rw[<-hv,jP,fF]);rw[<-e,bW,ay (by simp)]
  repeat (first|(refine af ?_)|(refine⟨by decide,_,wu _,?_⟩;conv=>whnf)|(refine ap ?_))
  refine⟨ko,rfl,rfl,by simp,n8,?_,?_,?_⟩
  . show((x::o).length+1)*4<=140737488355328;omega
  . show(x::o).length+1<=maxLen;unfold maxLen;omega
  repeat((first|refine W.R ?_|refine⟨by decide,_,Nr,?_⟩|refine xr ?_);conv=>whnf)
  refine⟨⟨(x::o ++ [m%1000000000],m/1000000000),hd.append (oW (ib _ (by decide))),?_,?_,by dsimp only;omega,?_⟩,
   Wk.tab [(1,17)] ⟨ab,ab,⟨?_,rfl⟩,aa⟩ ⟨rfl,?_,aa⟩ rfl,?_⟩
  . dsimp only;rw[m6,<-hv,bg,xv,bX,mG,eC,<-cg];congr 2;simp only[B9];omega
  . intro h0;dsimp only at h0;exact DN (by omega)
  .
   have h3:(x::o).length<=2:=by
    apply ia;intro h3;have e3:(x::o).length=3:=by omega
    rw[e3] at hv;simp only[B9] at hv;omega
   simp at h3 ⊢;omega
  . refine aL (fun k=>SV.ref 17 0 k true) ?_;show(x::o).length+1=_;simp
  . refine aL (fun l=>some (Bx.arr 193 1 l false)) ?_;simp;rfl
  dsimp only;omega
def bC{l:List Nat}{j:Nat}(h:j<l.length:=by omega):(l.map u32)[j]?=some (u32 (l.getD j 0)):=by simp[h]
def yO{l:List Nat}{i d:Nat}{x:Int}(h:x=(d:Int)):(l.map u32).set i (IV.int .u32 x)=(l.set i d).map u32:=by
 rw[h,List.map_set];rfl
def rK{g off n n':Nat}{f:Bool}(h:n=n':=by omega):SV.ref g off n f=SV.ref g off n' f:=by rw[h]
def kU(n:Nat):(n:Int)+1=((n+1:Nat):Int):=rfl
def MH(n:Nat):((n+1:Nat):Int)-1=(n:Int):=by omega
def Am(n m:Nat):(n:Int)+(m:Int)=((n+m:Nat):Int):=rfl
def tT{a:List IV}{l:List Nat}(h:a=l.map u32):some (Bx.arr 193 1 a false)=some (Bx.arr 193 1 (l.map u32) false):=by rw[h]
def gV{l:List Nat}(h:Dg B9 l)(i:Nat):l.getD i 0<1000000000:=h.getD (by decide) i
def l7{o:List Nat}{i j d:Nat}{x:Int}(hj:j=i:=by omega)(h:x=(d:Int):=by omega):some (Bx.arr 193 1 ((o.map u32).set j (.int .u32 x)) false)=some (Bx.arr 193 1 ((o.set i d).map u32) false):=by
 rw[hj,yO h]
def kD(l:List Nat)(i:Nat):nv B9 (l.take (i+1))=nv B9 (l.take i)+B9^i*l.getD i 0:=by
 by_cases h:i<l.length
 . rw[Bp B9 l i h,cn,bi h];rfl
 have e:l.getD i 0=0:=by simp[Nat.not_lt.1 h]
 rw[e,ay (show l.length<=i+1 by omega),ay (Nat.not_lt.1 h)];exact(fF _).symm
def pi{l m o:List Nat}{i c d c':Nat}(hi:i<o.length)(hs:nv B9 (o.take i)+B9^i*c=nv B9 (l.take i)+nv B9 (m.take i))(he:l.getD i 0+c+m.getD i 0=d+1000000000*c':=by omega) :
 nv B9 ((o.set i d).take (i+1))+B9^(i+1)*c'=nv B9 (l.take (i+1))+nv B9 (m.take (i+1)):=by
 rw[qL hi,kD l,kD m];have:=Qe (B:=B9) (A:=o.take i) (s:=l.getD i 0+m.getD i 0) (x:=l.getD i 0+c+m.getD i 0) (x':=d) (c':=c') (by simp;omega) hs he (by omega);rw[this,cg];omega
def tv(J:Keep){l:List Nat}{es:List IV}(h:es=l.map u32)(hl:l.length<2^60:=by omega):C J 183 [.sl es] (bP (strip l)):=by
 rw[h];exact UU J hl
def UV(J:Keep)(n:Nat):C J 188 [aQ n] (.bool (decide (n=1))):=by
 have la:((dg n).map u32).length=(dg n).length:=by simp
 refine aN Tryz.func188 rfl rfl rfl ?_;have hv:=dT n;by_cases h:(dg n).length=1
 . repeat (first|(refine af ?_)|(refine⟨0,_,rfl,bC,rfl,?_⟩;conv=>whnf)|(refine ap ?_))
   obtain⟨d,hd⟩:∃d,dg n=[d]:=List.length_eq_one_iff.1 h;have hn:n=d:=by rw[<-hv,hd];rfl
   rw[hd,hn];simp only[iD];congr 1;rw[Bool.eq_iff_iff];simp;omega
 refine aK ?_;have:¬n=1:=fun e=>h (by
  subst e;have:=tQ (l:=[1]) ⟨oW (by decide),by intro d hd;simp at hd;omega⟩ (n:=1) rfl;rw[<-this];rfl)
 simp[iD,this]
def Xa(l m:List Nat)(p:Nat×Nat×List Nat):AS :=
 aF [(2,.ptr 0 0),(3,.ptr 1 0),(4,.ptr 2 0),(5,.ref 3 0 (l.length+1) true),(6,.iv (.int .u32 (p.2.1:Int))),(24,.iv (.sl (l.map u32))),(25,.iv (.int .i64 (l.length:Int))),(26,.iv (.int .i64 (p.1:Int)))]
  [(0,.var (bP l)),(1,.var (bP m)),(2,.var (.agg [.sl []])),(3,.arr 193 1 (p.2.2.map u32) false)] 10
def KQ(J:Keep){a b:Nat}(ha:ln a<2^44)(hb:ln b<2^44):C J 130 [aQ a,aQ b] (aQ (a+b)):=by
 unfold ln at ha hb;have la:((dg a).map u32).length=(dg a).length:=by simp
 have lb:((dg b).map u32).length=(dg b).length:=by simp
 refine aN Tryz.func130 rfl rfl rfl ?_;refine W.RS ?_;conv=>whnf
 refine W.join (G:={ p:List Nat×List Nat // p.2.length<=p.1.length/\Ok B9 p.1/\Ok B9 p.2/\nv B9 p.1+nv B9 p.2=a+b/\p.1.length<2^44 }) (fun p=>aF [(2,.ptr 0 0),(3,.ptr 1 0),(4,.ptr 2 0)] [(0,.var (bP p.1.1)),(1,.var (bP p.1.2)),(2,.var (.agg [.sl []]))] 10) ?_ ?_
 .
  by_cases h:(dg a).length<(dg b).length
  . repeat (first|(refine af ?_)|(refine W.condT rfl ?_)|(refine ap ?_))
    exact⟨⟨(dg b,dg a),nQ h,dm b,dm a,by rw[dT,dT,uG],hb⟩,Wk.tab [] ⟨ab,ab,ab,aa⟩ ⟨rfl,rfl,rfl,aa⟩ rfl⟩
  repeat (first|(refine af ?_)|(refine W.condF rfl ?_)|(refine ap ?_))
  exact⟨⟨(dg a,dg b),Nat.not_lt.1 h,dm a,dm b,by rw[dT,dT],ha⟩,Wk.tab [] ⟨ab,ab,ab,aa⟩ ⟨rfl,rfl,rfl,aa⟩ rfl⟩
 rintro⟨⟨l,m⟩,hml,hol,hom,hv,hl⟩;dsimp only at hml hol hom hv hl ⊢;clear la lb ha hb;have la:(l.map u32).length=l.length:=by simp
 have lb:(m.map u32).length=m.length:=by simp
 repeat (first|(refine af ?_)|(refine⟨rfl,_,kU _,?_⟩;conv=>whnf)|(refine⟨by show 4*_<=(281474976710656:Nat);omega,by unfold maxLen;omega,?_⟩;conv=>whnf)|(refine ap ?_))
 refine W.loop (G:={ p:Nat×Nat×List Nat // p.1<=l.length/\p.2.1<=1/\p.2.2.length=l.length+1/\Dg B9 p.2.2/\nv B9 (p.2.2.take p.1)+B9^p.1*p.2.1=nv B9 (l.take p.1)+nv B9 (m.take p.1) }) (fun p=>Xa l m p.1) (fun p=>l.length-p.1.1)
  ⟨(0,0,List.replicate (l.length+1) 0),by simp,by simp,by simp,Dg.replicate (by decide) _,by simp[nv]⟩
  (Wk.tab [(3,14)] ⟨ab,ab,ab,⟨rK,rfl⟩,ab,ab,⟨df (by simp),rfl⟩,ab,aa⟩ ⟨rfl,rfl,rfl,tT (by simp;rfl),aa⟩ rfl) ?_
 rintro⟨⟨i,c,o⟩,hi,hc,ho,hd,hs⟩;dsimp only at hi hc ho hd hs;show W J _ _ (aF [(2,.ptr 0 0),(3,.ptr 1 0),(4,.ptr 2 0),(5,.ref 3 0 (l.length+1) true),(6,.iv (.int .u32 (c:Int))),(24,.iv (.sl (l.map u32))),(25,.iv (.int .i64 (l.length:Int))),(26,.iv (.int .i64 (i:Int)))]
  [(0,.var (bP l)),(1,.var (bP m)),(2,.var (.agg [.sl []])),(3,.arr 193 1 (o.map u32) false)] 10) _
 have lo:(o.map u32).length=o.length:=by simp
 by_cases h:i<l.length
 .
  have hx:=gV hol.dg i;by_cases h2:i<m.length
  .
   have hy:=gV hom.dg i;by_cases h3:1000000000<=l.getD i 0+c+m.getD i 0
   . repeat (first|(refine af ?_)|((first|refine⟨_,_,rfl,bC,rfl,?_⟩|refine⟨(rfl:(_:Nat)=_),_,rfl,by omega,?_⟩|refine⟨bR,_,bC,?_⟩);conv=>whnf)|(refine ap ?_))
     have hp:=pi (d:=l.getD i 0+c+m.getD i 0-1000000000) (c':=1) (show i<o.length by omega) hs;exact⟨⟨(i+1,1,o.set i (l.getD i 0+c+m.getD i 0-1000000000)),by dsimp only;omega,by dsimp only;omega,by dsimp only;rw[du];exact ho,hd.set (by simp only[B9];omega),hp⟩,
      Wk.tab [] ⟨ab,ab,ab,ab,ab,ab,ab,ab,aa⟩ ⟨rfl,rfl,rfl,l7,aa⟩ rfl,by dsimp only;omega⟩
   repeat (first|(refine af ?_)|((first|refine⟨_,_,rfl,bC,rfl,?_⟩|refine⟨(rfl:(_:Nat)=_),_,rfl,by omega,?_⟩|refine⟨bR,_,bC,?_⟩);conv=>whnf)|(refine ap ?_))
   have hp:=pi (d:=l.getD i 0+c+m.getD i 0) (c':=0) (show i<o.length by omega) hs;exact⟨⟨(i+1,0,o.set i (l.getD i 0+c+m.getD i 0)),by dsimp only;omega,by dsimp only;omega,by dsimp only;rw[du];exact ho,hd.set (by simp only[B9];omega),hp⟩,
    Wk.tab [] ⟨ab,ab,ab,ab,ab,ab,ab,ab,aa⟩ ⟨rfl,rfl,rfl,l7,aa⟩ rfl,by dsimp only;omega⟩
  have hy:m.getD i 0=0:=by simp[Nat.not_lt.1 h2]
  by_cases h3:1000000000<=l.getD i 0+c
  . repeat (first|(refine af ?_)|((first|refine⟨_,_,rfl,bC,rfl,?_⟩|refine⟨(rfl:(_:Nat)=_),_,rfl,by omega,?_⟩|refine⟨bR,_,bC,?_⟩);conv=>whnf)|(refine ap ?_))
    have hp:=pi (d:=l.getD i 0+c-1000000000) (c':=1) (show i<o.length by omega) hs;exact⟨⟨(i+1,1,o.set i (l.getD i 0+c-1000000000)),by dsimp only;omega,by dsimp only;omega,by dsimp only;rw[du];exact ho,hd.set (by simp only[B9];omega),hp⟩,
     Wk.tab [] ⟨ab,ab,ab,ab,ab,ab,ab,ab,aa⟩ ⟨rfl,rfl,rfl,l7,aa⟩ rfl,by dsimp only;omega⟩
  repeat (first|(refine af ?_)|((first|refine⟨_,_,rfl,bC,rfl,?_⟩|refine⟨(rfl:(_:Nat)=_),_,rfl,by omega,?_⟩|refine⟨bR,_,bC,?_⟩);conv=>whnf)|(refine ap ?_))
  have hp:=pi (d:=l.getD i 0+c) (c':=0) (show i<o.length by omega) hs;exact⟨⟨(i+1,0,o.set i (l.getD i 0+c)),by dsimp only;omega,by dsimp only;omega,by dsimp only;rw[du];exact ho,hd.set (by simp only[B9];omega),hp⟩,
   Wk.tab [] ⟨ab,ab,ab,ab,ab,ab,ab,ab,aa⟩ ⟨rfl,rfl,rfl,l7,aa⟩ rfl,by dsimp only;omega⟩
 have hil:i=l.length:=by omega
 subst hil;have hv2:nv B9 (o.set l.length c)=a+b:=by
  have e:o.set l.length c=o.take l.length ++ [c]:=by
   have:=qL (x:=c) (show l.length<o.length by omega);rw[ay (by rw[du];omega)] at this;exact this
  have hlt:(o.take l.length).length=l.length:=by rw[bG];omega
  rw[e,m6,hlt,hs,ay (ah _),ay (by omega),hv]
 repeat (first|(refine af ?_)|((first|refine⟨(rfl:(_:Nat)=_),_,rfl,by omega,?_⟩|refine⟨bR,_,bC,?_⟩);conv=>whnf)|(refine ap ?_))
 refine⟨_,tv J (l:=o.set l.length c) ?_ ?_,?_⟩
 . rw[bW,ay (by simp;omega),a8,la,yO rfl]
 . rw[du];omega
 repeat ((refine W.ret ?_;conv=>whnf))
 exact aL bP (s9 (hd.set (by simp only[B9];omega)) hv2)
def zO{es:List IV}{i:Nat}{v:IV}(h:i<es.length:=by omega):(es.set i v)[i]?=some v:=by simp[h]
def Lk{o:List Nat}{i j d:Nat}{x y:Int}(hj:j=i:=by omega)(h:y=(d:Int):=by omega):some (Bx.arr 193 1 (((o.map u32).set j (.int .u32 x)).set j (.int .u32 y)) false)=some (Bx.arr 193 1 ((o.set i d).map u32) false):=by
 rw[hj,List.set_set,yO h]
def zN{l m o:List Nat}{i c d c':Nat}(hi:i<o.length)(hs:nv B9 (o.take i)+nv B9 (m.take i)=nv B9 (l.take i)+B9^i*c)(he:d+m.getD i 0+c=l.getD i 0+1000000000*c':=by omega) :
 nv B9 ((o.set i d).take (i+1))+nv B9 (m.take (i+1))=nv B9 (l.take (i+1))+B9^(i+1)*c':=by
 rw[qL hi,kD l,kD m];have:=GW (B:=B9) (A:=o.take i) (by simp;omega) hs he;omega
def MJ{l:List Nat}:∀y∈l.map u32,y.cells.length=1/\y.isTup=false:=by
 intro y hy;obtain⟨d,_,rfl⟩:=List.mem_map.1 hy;exact⟨rfl,rfl⟩
def drop_getD{o l:List Nat}{i:Nat}(h:o.drop i=l.drop i):o.getD i 0=l.getD i 0:=by
 have:=aL (fun x=>x.getD 0 0) h;simpa[cn] using this
def drop_set{o l:List Nat}{i d:Nat}(h:o.drop i=l.drop i):(o.set i d).drop (i+1)=l.drop (i+1):=by
 rw[Gr];have:=aL (List.drop 1) h;simpa[oD,uG 1 i] using this
def Vk{l:List Nat}{z:IV}{n k:Nat}(hn:n=l.length)(hk:k=l.length):splice (List.replicate n z) 0 (List.take k (l.map u32))=l.map u32:=by
 subst hn;subst hk;unfold splice;rw[xm,lF,ay (by simp),a8,oE (by simp),eS]
def tw(J:Keep){a b:Nat}(hab:b<=a)(ha:ln a<2^44):C J 186 [aQ a,aQ b] (aQ (a-b)):=by
 unfold ln at ha;obtain⟨l,hl0⟩:∃l,l=dg a:=⟨_,rfl⟩;obtain⟨m,hm0⟩:∃m,m=dg b:=⟨_,rfl⟩;have hol:Ok B9 l:=by rw[hl0];exact dm a
 have hom:Ok B9 m:=by rw[hm0];exact dm b
 have hvl:nv B9 l=a:=by rw[hl0];exact dT a
 have hvm:nv B9 m=b:=by rw[hm0];exact dT b
 show C J 186 [bP (dg a),bP (dg b)] _;rw[<-hl0,<-hm0];rw[<-hl0] at ha;have la:(l.map u32).length=l.length:=by simp
 have lb:(m.map u32).length=m.length:=by simp
 have hml:m.length<=l.length:=uX (by decide) hom (by have:=fL hol.dg;omega);refine aN Tryz.func186 rfl rfl rfl ?_;repeat (first|(refine af ?_)|(refine⟨bR,rfl,MJ,by simp,_,rfl,?_⟩;conv=>whnf)|(refine⟨by show 4*_<=(281474976710656:Nat);omega,by unfold maxLen;omega,?_⟩;conv=>whnf)|(refine ap ?_))
 refine W.loop (G:={ p:Nat×Nat×List Nat // p.1<=l.length/\p.2.1<=1/\p.2.2.length=l.length/\Dg B9 p.2.2/\nv B9 (p.2.2.take p.1)+nv B9 (m.take p.1)=nv B9 (l.take p.1)+B9^p.1*p.2.1/\p.2.2.drop p.1=l.drop p.1 })
  (fun p=>aF [(2,.ptr 0 0),(3,.ptr 1 0),(4,.ptr 2 0),(5,.ref 3 0 l.length true),(6,.iv (.int .u32 (p.1.2.1:Int))),(18,.iv (.int .i64 (l.length:Int))),(19,.iv (.int .i64 (p.1.1:Int)))]
    [(0,.var (bP l)),(1,.var (bP m)),(2,.var (.agg [.sl []])),(3,.arr 193 1 (p.1.2.2.map u32) false)] 20) (fun p=>l.length-p.1.1)
  ⟨(0,0,l),by simp,by simp,rfl,hol.dg,by simp[nv],rfl⟩
  (Wk.tab [(3,6)] ⟨ab,ab,ab,⟨rK,rfl⟩,ab,⟨df,rfl⟩,ab,aa⟩ ⟨rfl,rfl,rfl,tT ?_,aa⟩ rfl) ?_
 . exact Vk (by omega) (by rw[la];exact Nat.min_self _)
 rintro⟨⟨i,c,o⟩,hi,hc,ho,hd,hs,hdr⟩;dsimp only at hi hc ho hd hs hdr;show W J _ _ (aF [(2,.ptr 0 0),(3,.ptr 1 0),(4,.ptr 2 0),(5,.ref 3 0 l.length true),(6,.iv (.int .u32 (c:Int))),(18,.iv (.int .i64 (l.length:Int))),(19,.iv (.int .i64 (i:Int)))]
  [(0,.var (bP l)),(1,.var (bP m)),(2,.var (.agg [.sl []])),(3,.arr 193 1 (o.map u32) false)] 20) _
 have lo:(o.map u32).length=o.length:=by simp
 have hox:o.getD (0+i) 0=l.getD i 0:=by rw[a8];exact drop_getD hdr
 have hx:=gV hol.dg i;by_cases h:i<l.length
 .
  by_cases h2:i<m.length
  .
   have hy:=gV hom.dg i;by_cases h3:l.getD i 0<c+m.getD i 0
   .
    by_cases hdum:True
    . have hp:=zN (d:=l.getD i 0+1000000000-(c+m.getD i 0)) (c':=1) (show i<o.length by omega) hs;have hq:=drop_set (d:=l.getD i 0+1000000000-(c+m.getD i 0)) hdr;repeat (first|(refine af ?_)|((first|refine⟨_,_,rfl,bC,rfl,?_⟩|refine⟨(rfl:(_:Nat)=_),_,rfl,by omega,?_⟩|refine⟨_,bC,?_⟩|refine⟨_,zO,?_⟩|refine⟨bR,_,zO,?_⟩|refine⟨bR,_,bC,?_⟩);conv=>whnf)|(refine ap ?_))
      exact⟨⟨(i+1,1,o.set i (l.getD i 0+1000000000-(c+m.getD i 0))),by dsimp only;omega,by dsimp only;omega,by dsimp only;rw[du];exact ho,hd.set (by simp only[B9];omega),hp,hq⟩,
       Wk.tab [] ⟨ab,ab,ab,ab,ab,ab,ab,aa⟩ ⟨rfl,rfl,rfl,Lk,aa⟩ rfl,by dsimp only;omega⟩
    exact absurd trivial hdum
   by_cases hdum:True
   . have hp:=zN (d:=l.getD i 0-(c+m.getD i 0)) (c':=0) (show i<o.length by omega) hs;have hq:=drop_set (d:=l.getD i 0-(c+m.getD i 0)) hdr;repeat (first|(refine af ?_)|((first|refine⟨_,_,rfl,bC,rfl,?_⟩|refine⟨(rfl:(_:Nat)=_),_,rfl,by omega,?_⟩|refine⟨_,bC,?_⟩|refine⟨bR,_,bC,?_⟩);conv=>whnf)|(refine ap ?_))
     exact⟨⟨(i+1,0,o.set i (l.getD i 0-(c+m.getD i 0))),by dsimp only;omega,by dsimp only;omega,by dsimp only;rw[du];exact ho,hd.set (by simp only[B9];omega),hp,hq⟩,
      Wk.tab [] ⟨ab,ab,ab,ab,ab,ab,ab,aa⟩ ⟨rfl,rfl,rfl,l7,aa⟩ rfl,by dsimp only;omega⟩
   exact absurd trivial hdum
  have hy:m.getD i 0=0:=by simp[Nat.not_lt.1 h2]
  by_cases h4:c=0
  .
   subst h4;have hfin:nv B9 o=a-b:=by
    have e1:=u7 B9 o i;have e2:=u7 B9 l i;rw[hdr] at e1;rw[ay (show m.length<=i by omega),jP] at hs;omega
   refine aK ?_;refine⟨_,tv J (l:=o) ?_ ?_,?_⟩
   . rw[bW,ay (by simp;omega)]
   . omega
   repeat ((refine W.ret ?_;conv=>whnf))
   exact aL bP (s9 hd hfin)
  have h5:c=1:=by omega
  by_cases h3:l.getD i 0<c
  . have hp:=zN (d:=l.getD i 0+1000000000-c) (c':=1) (show i<o.length by omega) hs;have hq:=drop_set (d:=l.getD i 0+1000000000-c) hdr;repeat (first|(refine af ?_)|((first|refine⟨(rfl:(_:Nat)=_),_,rfl,by omega,?_⟩|refine⟨_,bC,?_⟩|refine⟨_,zO,?_⟩|refine⟨bR,_,zO,?_⟩|refine⟨bR,_,bC,?_⟩);conv=>whnf)|(refine ap ?_))
    exact⟨⟨(i+1,1,o.set i (l.getD i 0+1000000000-c)),by dsimp only;omega,by dsimp only;omega,by dsimp only;rw[du];exact ho,hd.set (by simp only[B9];omega),hp,hq⟩,
     Wk.tab [] ⟨ab,ab,ab,ab,ab,ab,ab,aa⟩ ⟨rfl,rfl,rfl,Lk,aa⟩ rfl,by dsimp only;omega⟩
  have hp:=zN (d:=l.getD i 0-c) (c':=0) (show i<o.length by omega) hs;have hq:=drop_set (d:=l.getD i 0-c) hdr;repeat (first|(refine af ?_)|((first|refine⟨(rfl:(_:Nat)=_),_,rfl,by omega,?_⟩|refine⟨_,bC,?_⟩|refine⟨bR,_,bC,?_⟩);conv=>whnf)|(refine ap ?_))
  exact⟨⟨(i+1,0,o.set i (l.getD i 0-c)),by dsimp only;omega,by dsimp only;omega,by dsimp only;rw[du];exact ho,hd.set (by simp only[B9];omega),hp,hq⟩,
   Wk.tab [] ⟨ab,ab,ab,ab,ab,ab,ab,aa⟩ ⟨rfl,rfl,rfl,l7,aa⟩ rfl,by dsimp only;omega⟩
 have hil:i=l.length:=by omega
 have hfin:nv B9 o=a-b:=by
  have hlt:=fL hd;rw[hil,ay (by omega),ay (ah _),ay (by omega)] at hs;have hc0:c=0:=by
   apply ia;intro hc1;have e1:c=1:=by omega
   rw[e1,eB] at hs;rw[ho] at hlt;omega
  rw[hc0,jP] at hs;omega
 by_cases hdum:True
 .
  by_cases hdum2:True
  .
   refine aK ?_;refine⟨_,tv J (l:=o) ?_ ?_,?_⟩
   . rw[bW,ay (by simp;omega)]
   . omega
   repeat ((refine W.ret ?_;conv=>whnf))
   exact aL bP (s9 hd hfin)
  exact absurd trivial hdum2
 exact absurd trivial hdum
def nk(a b:Nat):(a:Int).tdiv (b:Int)=((a/b:Nat):Int):=by
 rw[Int.tdiv_eq_ediv_of_nonneg (by omega)];rfl
def l9(a b:Nat):(a:Int).tmod (b:Int)=((a%b:Nat):Int):=by
 rw[xu (by omega)];rfl
def Vy{l o:List Nat}{k d r:Nat}(hd0:0<d)(hk:k<l.length)(ho:o.length=l.length)(hs:nv B9 (l.drop (k+1))=nv B9 (o.drop (k+1))*d+r)(hr:r<d)(hx:l.getD k 0<1000000000) :
 nv B9 (l.drop k)=nv B9 ((o.set k ((r*1000000000+l.getD k 0)/d)).drop k)*d+(r*1000000000+l.getD k 0)%d/\(r*1000000000+l.getD k 0)%d<d/\(r*1000000000+l.getD k 0)/d<1000000000:=by
 have e1:l.drop k=l.getD k 0::l.drop (k+1):=by
  rw[gS hk,cn,bi hk];rfl
 have e2:=Gs (x:=(r*1000000000+l.getD k 0)/d) (show k<o.length by omega);rw[e1,e2,jb,jb,hs];have hm:=oH (r*1000000000+l.getD k 0) d;refine⟨?_,ib _ hd0,?_⟩
 . generalize (r*1000000000+l.getD k 0)/d=q at *;generalize (r*1000000000+l.getD k 0)%d=r' at *;generalize nv B9 (o.drop (k+1))=N at *;generalize l.getD k 0=x at *;simp only[B9];rw[bQ,cg,eC,dw q d];omega
 rw[nR hd0];have:(r+1)*1000000000<=d*1000000000:=cL _ hr;rw[dw 1000000000 d];omega
def UN(J:Keep){a d:Nat}(hd0:0<d)(hd1:d<1000000000)(ha:ln a<2^44):C J 230 [aQ a,.int .u32 d] (.tup [aQ (a/d),aQ (a%d)]):=by
 unfold ln at ha;obtain⟨l,hl0⟩:∃l,l=dg a:=⟨_,rfl⟩;have hol:Ok B9 l:=by rw[hl0];exact dm a
 have hvl:nv B9 l=a:=by rw[hl0];exact dT a
 show C J 230 [bP (dg a),_] _;rw[<-hl0] at ha ⊢;have la:(l.map u32).length=l.length:=by simp
 refine aN Tryz.func230 rfl rfl rfl ?_;repeat (first|(refine af ?_)|(refine⟨by show 4*_<=(281474976710656:Nat);omega,by unfold maxLen;omega,?_⟩;conv=>whnf)|(refine ap ?_))
 refine W.loop (G:={ p:Nat×Nat×List Nat // p.1<=l.length/\p.2.1<d/\p.2.2.length=l.length/\Dg B9 p.2.2/\nv B9 (l.drop p.1)=nv B9 (p.2.2.drop p.1)*d+p.2.1 })
  (fun p=>aF [(1,.iv (.int .u32 (d:Int))),(2,.ptr 0 0),(4,.ptr 1 0),(5,.ptr 2 0),(6,.ref 3 0 l.length true),(7,.iv (.int .u64 (p.1.2.1:Int))),(8,.iv (.int .i64 ((p.1.1:Int)-1)))]
    [(0,.var (bP l)),(1,.var (.agg [.sl []])),(2,.var (.agg [.sl []])),(3,.arr 193 1 (p.1.2.2.map u32) false)] 20) (fun p=>p.1.1)
  ⟨(l.length,0,List.replicate l.length 0),by simp,by dsimp only;omega,by simp,Dg.replicate (by decide) _,by simp[nv]⟩
  (Wk.tab [(3,6)] ⟨ab,ab,ab,ab,⟨rK,rfl⟩,ab,⟨df (by dsimp only;omega),rfl⟩,aa⟩ ⟨rfl,rfl,rfl,tT ?_,aa⟩ rfl) ?_
 . rw[la,xw];rfl
 rintro⟨⟨k,r,o⟩,hk,hr,ho,hd,hs⟩;dsimp only at hk hr ho hd hs;show W J _ _ (aF [(1,.iv (.int .u32 (d:Int))),(2,.ptr 0 0),(4,.ptr 1 0),(5,.ptr 2 0),(6,.ref 3 0 l.length true),(7,.iv (.int .u64 (r:Int))),(8,.iv (.int .i64 ((k:Int)-1)))]
  [(0,.var (bP l)),(1,.var (.agg [.sl []])),(2,.var (.agg [.sl []])),(3,.arr 193 1 (o.map u32) false)] 20) _
 have lo:(o.map u32).length=o.length:=by simp
 by_cases h:k=0
 .
  subst h;have e1:nv B9 o=a/d:=by
   simp only[bW,hvl] at hs;rw[hs,dw,FP hd0,mQ hr,fF]
  have e2:r=a%d:=by
   simp only[bW,hvl] at hs;rw[hs,dw,N5,gA hr]
  repeat (first|(refine af ?_)|(refine⟨_,tv J (l:=o) (by rw[bW,ay (by simp;omega)]),?_⟩;conv=>whnf)|(refine⟨_,lU J (n:=r),?_⟩;conv=>whnf)|(refine ap ?_))
  rw[s9 hd e1,e2];rfl
 obtain⟨k,rfl⟩:∃j,k=j+1:=⟨k-1,by omega⟩;have hx:=gV hol.dg k;obtain⟨s1,s2,s3⟩:=Vy hd0 (show k<l.length by omega) ho hs hr hx;obtain⟨q,hQ⟩:∃q,(r*1000000000+l.getD k 0)/d=q:=⟨_,rfl⟩;obtain⟨r',hR⟩:∃q,(r*1000000000+l.getD k 0)%d=q:=⟨_,rfl⟩;rw[hQ] at s1 s3;rw[hR] at s1 s2;have hq:IntKind.wrap .u64 (((r:Int)*1000000000+(l.getD k 0:Int)).tdiv (d:Int))=((q:Nat):Int):=by
  rw[show(r:Int)*1000000000+(l.getD k 0:Int)=((r*1000000000+l.getD k 0:Nat):Int) by omega,nk,hQ];exact fa
 have hm:((r:Int)*1000000000+(l.getD k 0:Int)).tmod (d:Int)=((r':Nat):Int):=by
  rw[show(r:Int)*1000000000+(l.getD k 0:Int)=((r*1000000000+l.getD k 0:Nat):Int) by omega,l9,hR]
 repeat (first|(refine af ?_)|((first|refine⟨by omega,_,hq,?_⟩|refine⟨by omega,_,hm,?_⟩|refine⟨rfl,_,fa,?_⟩|refine⟨_,_,MH _,bC,rfl,?_⟩|refine⟨(rfl:(_:Nat)=_),_,MH _,by omega,?_⟩|refine⟨bR,_,bC,?_⟩|refine⟨_,fa,?_⟩);conv=>whnf)|(refine ap ?_))
 exact⟨⟨(k,r',o.set k q),by dsimp only;omega,s2,by dsimp only;rw[du];exact ho,hd.set (by simp only[B9];omega),s1⟩,
  Wk.tab [] ⟨ab,ab,ab,ab,ab,ab,⟨df (by dsimp only;omega),rfl⟩,aa⟩ ⟨rfl,rfl,rfl,l7,aa⟩ rfl,by dsimp only;omega⟩
def Wg{l:List Nat}{j d:Nat}(h:j<l.length):nv B9 (l.set j d)+B9^j*l.getD j 0=nv B9 l+B9^j*d:=by
 induction l generalizing j with
 |nil=>simp at h
 |cons x l ih=>
  cases j with
  |zero=>simp[nv];omega
  |succ j=>
   have:=ih (j:=j) (by simpa using h);simp only[FQ,jb,xy,bX];have e1:B9*(nv B9 (l.set j d)+B9^j*l.getD j 0)=B9*(nv B9 l+B9^j*d):=by rw[this]
   rw[cg,cg] at e1;rw[dw (B9^j) B9,eC,eC];omega
def Vu{o m:List Nat}{i k n x c r c' P:Nat}(hj:i+k<n)(hn:n<=o.length)(hs:nv B9 (o.take n)+B9^(i+k)*c=P+B9^i*(x*nv B9 (m.take k)))(he:c+(x*m.getD k 0+o.getD (i+k) 0)=r+1000000000*c') :
 nv B9 ((o.set (i+k) r).take n)+B9^(i+(k+1))*c'=P+B9^i*(x*nv B9 (m.take (k+1))):=by
 have e0:(o.set (i+k) r).take n=(o.take n).set (i+k) r:=by rw[List.take_set]
 have e1:=Wg (l:=o.take n) (d:=r) (show i+k<(o.take n).length by rw[bG];omega);have e2:(o.take n).getD (i+k) 0=o.getD (i+k) 0:=by
  rw[cn,cn,dt,au hj]
 rw[e2] at e1;rw[e0,kD,<-mG,bX,eC];have e3:B9^(i+k)*(c+(x*m.getD k 0+o.getD (i+k) 0))=B9^(i+k)*(r+B9*c'):=by rw[he]
 rw[cg,cg,cg] at e3;have e4:B9^i*(x*(nv B9 (m.take k)+B9^k*m.getD k 0))=B9^i*(x*nv B9 (m.take k))+B9^(i+k)*(x*m.getD k 0):=by
  rw[cg,cg,iX];congr 1;rw[eC,xz x]
 rw[e4];omega
def Ic{x y:Nat}(hx:x<1000000000)(hy:y<1000000000):x*y<=999999998000000001 :=
 bf (eT (FR hx) (FR hy)) (by decide)
def m8(J:Keep){a b:Nat}(ha:ln a+ln b<2^44:=by omega):C J 139 [aQ a,aQ b] (aQ (a*b)):=by
 unfold ln at ha;obtain⟨l,hl0⟩:∃l,l=dg a:=⟨_,rfl⟩;obtain⟨m,hm0⟩:∃m,m=dg b:=⟨_,rfl⟩;have hol:Ok B9 l:=by rw[hl0];exact dm a
 have hom:Ok B9 m:=by rw[hm0];exact dm b
 have hvl:nv B9 l=a:=by rw[hl0];exact dT a
 have hvm:nv B9 m=b:=by rw[hm0];exact dT b
 show C J 139 [bP (dg a),bP (dg b)] _;rw[<-hl0,<-hm0] at ha ⊢;have la:(l.map u32).length=l.length:=by simp
 have lb:(m.map u32).length=m.length:=by simp
 refine aN Tryz.func139 rfl rfl rfl ?_;repeat (first|(refine af ?_)|(refine⟨rfl,_,Am _ _,?_⟩;conv=>whnf)|(refine⟨by show 4*_<=(281474976710656:Nat);omega,by unfold maxLen;omega,?_⟩;conv=>whnf)|(refine ap ?_))
 refine W.loop (G:={ p:Nat×List Nat // p.1<=l.length/\p.2.length=l.length+m.length/\Dg B9 p.2/\nv B9 (p.2.take (p.1+m.length))=nv B9 (l.take p.1)*nv B9 m })
  (fun p=>aF [(2,.ptr 0 0),(3,.ptr 1 0),(4,.ptr 2 0),(5,.ref 3 0 (l.length+m.length) true),(20,.iv (.sl (l.map u32))),(21,.iv (.int .i64 (l.length:Int))),(22,.iv (.int .i64 (p.1.1:Int)))]
    [(0,.var (bP l)),(1,.var (bP m)),(2,.var (.agg [.sl []])),(3,.arr 193 1 (p.1.2.map u32) false)] 20) (fun p=>l.length-p.1.1)
  ⟨(0,List.replicate (l.length+m.length) 0),by simp,by simp,Dg.replicate (by decide) _,by simp[nv,xS]⟩
  (Wk.tab [(3,10)] ⟨ab,ab,ab,⟨rK,rfl⟩,ab,⟨df,rfl⟩,ab,aa⟩ ⟨rfl,rfl,rfl,tT ?_,aa⟩ rfl) ?_
 . rw[la,lb,xw];rfl
 rintro⟨⟨i,o⟩,hi,ho,hd,hs⟩;dsimp only at hi ho hd hs;show W J _ _ (aF [(2,.ptr 0 0),(3,.ptr 1 0),(4,.ptr 2 0),(5,.ref 3 0 (l.length+m.length) true),(20,.iv (.sl (l.map u32))),(21,.iv (.int .i64 (l.length:Int))),(22,.iv (.int .i64 (i:Int)))]
  [(0,.var (bP l)),(1,.var (bP m)),(2,.var (.agg [.sl []])),(3,.arr 193 1 (o.map u32) false)] 20) _
 have lo:(o.map u32).length=o.length:=by simp
 by_cases h:i<l.length
 .
  have hx:=gV hol.dg i;repeat (first|(refine af ?_)|(refine⟨_,_,rfl,bC,rfl,?_⟩;conv=>whnf)|(refine ap ?_))
  refine W.loop (G:={ p:Nat×Nat×List Nat // p.1<=m.length/\p.2.1<1000000000/\p.2.2.length=l.length+m.length/\Dg B9 p.2.2/\nv B9 (p.2.2.take (i+m.length))+B9^(i+p.1)*p.2.1=nv B9 (l.take i)*nv B9 m+B9^i*(l.getD i 0*nv B9 (m.take p.1)) })
   (fun p=>aF [(2,.ptr 0 0),(3,.ptr 1 0),(4,.ptr 2 0),(5,.ref 3 0 (l.length+m.length) true),(6,.iv (.int .i64 (i:Int))),(7,.iv (.int .u32 (l.getD i 0:Int))),(8,.iv (.int .u64 (p.1.2.1:Int))),(20,.iv (.sl (l.map u32))),(21,.iv (.int .i64 (l.length:Int))),(22,.iv (.int .i64 (i:Int))),
     (28,.iv (.sl (m.map u32))),(29,.iv (.int .i64 (m.length:Int))),(30,.iv (.int .i64 (p.1.1:Int)))]
     [(0,.var (bP l)),(1,.var (bP m)),(2,.var (.agg [.sl []])),(3,.arr 193 1 (p.1.2.2.map u32) false)] 40) (fun p=>m.length-p.1.1)
   ⟨(0,0,o),by simp,by simp,ho,hd,by simp[nv,hs]⟩
   (Wk.tab [] ⟨ab,ab,ab,ab,ab,ab,ab,ab,ab,ab,ab,⟨df,rfl⟩,ab,aa⟩ ⟨rfl,rfl,rfl,rfl,aa⟩ rfl) ?_
  clear lo;rintro⟨⟨k,c,o2⟩,hk,hc,ho2,hd2,hs2⟩;dsimp only at hk hc ho2 hd2 hs2;show W J _ _ (aF [(2,.ptr 0 0),(3,.ptr 1 0),(4,.ptr 2 0),(5,.ref 3 0 (l.length+m.length) true),(6,.iv (.int .i64 (i:Int))),(7,.iv (.int .u32 (l.getD i 0:Int))),(8,.iv (.int .u64 (c:Int))),(20,.iv (.sl (l.map u32))),(21,.iv (.int .i64 (l.length:Int))),(22,.iv (.int .i64 (i:Int))),
   (28,.iv (.sl (m.map u32))),(29,.iv (.int .i64 (m.length:Int))),(30,.iv (.int .i64 (k:Int)))]
   [(0,.var (bP l)),(1,.var (bP m)),(2,.var (.agg [.sl []])),(3,.arr 193 1 (o2.map u32) false)] 40) _
  have lo:(o2.map u32).length=o2.length:=by simp
  by_cases h2:k<m.length
  .
   have hy:=gV hom.dg k;have hov:=gV hd2 (0+(i+k));have hxy:=Ic hx hy;have hxyi:(l.getD i 0:Int)*(m.getD k 0:Int)=((l.getD i 0*m.getD k 0:Nat):Int):=rfl;obtain⟨q,hQ⟩:∃q,(c+(l.getD i 0*m.getD k 0+o2.getD (0+(i+k)) 0))/1000000000=q:=⟨_,rfl⟩;obtain⟨r,hR⟩:∃q,(c+(l.getD i 0*m.getD k 0+o2.getD (0+(i+k)) 0))%1000000000=q:=⟨_,rfl⟩;have hq:IntKind.wrap .u64 (((c:Int)+((l.getD i 0:Int)*(m.getD k 0:Int)+(o2.getD (0+(i+k)) 0:Int))).tdiv 1000000000)=((q:Nat):Int):=by
    rw[hxyi,show(c:Int)+(((l.getD i 0*m.getD k 0:Nat):Int)+(o2.getD (0+(i+k)) 0:Int))=((c+(l.getD i 0*m.getD k 0+o2.getD (0+(i+k)) 0):Nat):Int) by omega,z8,hQ];exact fa
   have hm:((c:Int)+((l.getD i 0:Int)*(m.getD k 0:Int)+(o2.getD (0+(i+k)) 0:Int))).tmod 1000000000=((r:Nat):Int):=by
    rw[hxyi,show(c:Int)+(((l.getD i 0*m.getD k 0:Nat):Int)+(o2.getD (0+(i+k)) 0:Int))=((c+(l.getD i 0*m.getD k 0+o2.getD (0+(i+k)) 0):Nat):Int) by omega,wu,hR]
   have hz:o2.getD (0+(i+k)) 0=o2.getD (i+k) 0:=by rw[a8]
   have hp:=Vu (n:=i+m.length) (r:=r) (c':=q) (show i+k<i+m.length by omega) (by omega) hs2 (by omega);repeat (first|(refine af ?_)|((first|refine⟨by omega,_,hq,?_⟩|refine⟨by omega,_,hm,?_⟩|refine⟨rfl,_,fa,?_⟩|refine⟨rfl,_,Am _ _,?_⟩|refine⟨_,_,rfl,bC,rfl,?_⟩|refine⟨_,bC,?_⟩|refine⟨bR,_,bC,?_⟩|refine⟨_,fa,?_⟩);conv=>whnf)|(refine ap ?_))
   exact⟨⟨(k+1,q,o2.set (i+k) r),by dsimp only;omega,by dsimp only;omega,by dsimp only;rw[du];exact ho2,hd2.set (by simp only[B9];omega),hp⟩,
    Wk.tab [] ⟨ab,ab,ab,ab,ab,ab,ab,ab,ab,ab,ab,ab,ab,aa⟩ ⟨rfl,rfl,rfl,l7,aa⟩ rfl,by dsimp only;omega⟩
  have hkm:k=m.length:=by omega
  have hp:nv B9 ((o2.set (i+m.length) c).take (i+1+m.length))=nv B9 (l.take (i+1))*nv B9 m:=by
   rw[show i+1+m.length=(i+m.length)+1 by omega,qL,m6];have e:(o2.take (i+m.length)).length=i+m.length:=by rw[bG];omega
   rw[e];rw[hkm,ay (ah m.length)] at hs2;rw[hs2,kD l i,bQ,eC]
  repeat (first|(refine af ?_)|((first|refine⟨rfl,_,Am _ _,?_⟩|refine⟨bR,_,bC,?_⟩);conv=>whnf)|(refine ap ?_))
  exact⟨⟨(i+1,o2.set (i+m.length) c),by dsimp only;omega,by dsimp only;rw[du];exact ho2,hd2.set (by simp only[B9];omega),hp⟩,
   Wk.tab [] ⟨ab,ab,ab,ab,ab,ab,ab,aa⟩ ⟨rfl,rfl,rfl,l7,aa⟩ rfl,by dsimp only;omega⟩
 have hil:i=l.length:=by omega
 have hfin:nv B9 o=a*b:=by
  rw[hil,ay (by omega),ay (ah _),hvl,hvm] at hs;exact hs
 repeat (first|(refine af ?_)|(refine⟨_,tv J (l:=o) (by rw[bW,ay (by simp;omega)]),?_⟩;conv=>whnf)|(refine ap ?_))
 exact aL bP (s9 hd hfin)
def Hh:∀{a b:List Nat},Dg B9 a->Dg B9 b->a.length=b.length->nv B9 a=nv B9 b->a=b
 | [],[],_,_,_,_=>rfl
 | [],_::_,_,_,hl,_=>by simp at hl
 |_::_,[],_,_,hl,_=>by simp at hl
 |d::a,e::b,ha,hb,hl,h=>by
  simp only[jb] at h;have h1:=ha d (by simp);have h2:=hb e (by simp);have h3:d=e:=by
   have:=aL (· % B9) h;simpa[A2,gA h1,gA h2] using this
  subst h3;have h4:nv B9 a=nv B9 b:=by
   have:B9*nv B9 a=B9*nv B9 b:=by omega
   exact Nat.eq_of_mul_eq_mul_left (by decide) this
  rw[Hh (fun x hx=>ha x (by simp[hx])) (fun x hx=>hb x (by simp[hx])) (by simpa using hl) h4]
def zF(n x:Nat):∃l:List Nat,l.length=n/\Dg B9 l/\nv B9 l=x%B9^n:=by
 induction n generalizing x with
 |zero=>exact⟨[],rfl,Dg.nil _,by simp[nv,Nat.mod_one]⟩
 |succ n ih=>
  obtain⟨l,h1,h2,h3⟩:=ih (x/B9);refine⟨x%B9::l,by simp[h1],?_,?_⟩
  . intro d hd;rcases List.mem_cons.1 hd with rfl|hd
    . exact ib _ (by decide)
    exact h2 d hd
  rw[jb,h3,bX,dw (B9^n) B9,Nat.mod_mul]
noncomputable def fZ(n x:Nat):List Nat:=(zF n x).choose
def oY(n x:Nat):(fZ n x).length=n:=(zF n x).choose_spec.1
def v7(n x:Nat):Dg B9 (fZ n x):=(zF n x).choose_spec.2.1
def vZ(n x:Nat):nv B9 (fZ n x)=x%B9^n:=(zF n x).choose_spec.2.2
def D8{l:List Nat}{n x:Nat}(h:Dg B9 l)(hl:l.length=n)(hv:nv B9 l=x%B9^n):l=fZ n x :=
 Hh h (v7 n x) (by rw[hl,oY]) (by rw[hv,vZ])
def Ku{pre o post:List Nat}{i:Nat}(h:i<o.length:=by omega):(pre++o++post).getD (pre.length+i) 0=o.getD i 0:=by
 rw[cn,cn,dI,N6 (by omega),FS,List.getElem?_append_left h]
def Us{pre o post:List Nat}{i d:Nat}(h:i<o.length):(pre++o++post).set (pre.length+i) d=pre++o.set i d++post:=by
 simp[h]
def pA{pre o post:List Nat}{i d:Nat}{x:Int}(h:i<o.length:=by omega)(hx:x=(d:Int):=by omega):some (Bx.arr 193 1 (((pre++o++post).map u32).set (pre.length+i) (.int .u32 x)) false)=some (Bx.arr 193 1 ((pre++o.set i d++post).map u32) false):=by
 rw[yO hx,Us h]
def UL(J:Keep){pre mid post v:List Nat}(hm:Dg B9 mid)(hv:Dg B9 v)(hl:v.length<=mid.length)(hs0:(pre++mid++post).length<2^50) :
 bc Tryz.prog J.I 232 193 1 pre.length mid.length ((pre++mid++post).map u32) [.sl (v.map u32)] ((pre++fZ mid.length (nv B9 mid+nv B9 v)++post).map u32) (.bool (decide (B9^mid.length<=nv B9 mid+nv B9 v))):=by
 have lb:(v.map u32).length=v.length:=by simp
 have hs1:mid.length<2^50:=by simp at hs0;omega
 refine MF Tryz.func232 rfl rfl rfl ?_;refine aK ?_;refine W.loop (G:={ p:Nat×Nat×List Nat // p.1<=mid.length/\p.2.1<=1/\p.2.2.length=mid.length/\Dg B9 p.2.2/\nv B9 (p.2.2.take p.1)+B9^p.1*p.2.1=nv B9 (mid.take p.1)+nv B9 (v.take p.1)/\p.2.2.drop p.1=mid.drop p.1 })
  (fun p=>aF [(0,.ref aP pre.length mid.length false),(1,.iv (.sl (v.map u32))),(5,.iv (.int .u32 (p.1.2.1:Int))),(9,.iv (.int .i64 (mid.length:Int))),(10,.iv (.int .i64 (p.1.1:Int)))]
    [(aP,.arr 193 1 ((pre++p.1.2.2++post).map u32) false)] 10) (fun p=>mid.length-p.1.1)
  ⟨(0,0,mid),by simp,by simp,rfl,hm,by simp[nv],rfl⟩
  (Wk.tab [] ⟨ab,ab,ab,ab,ab,aa⟩ ⟨rfl,aa⟩ rfl) ?_
 rintro⟨⟨i,c,o⟩,hi,hc,ho,hd,hs,hdr⟩;dsimp only at hi hc ho hd hs hdr;show W J _ _ (aF [(0,.ref aP pre.length mid.length false),(1,.iv (.sl (v.map u32))),(5,.iv (.int .u32 (c:Int))),(9,.iv (.int .i64 (mid.length:Int))),(10,.iv (.int .i64 (i:Int)))]
  [(aP,.arr 193 1 ((pre++o++post).map u32) false)] 10) _
 have lo:((pre++o++post).map u32).length=pre.length+o.length+post.length:=by simp;omega
 have lo2:(pre++o++post).length=pre.length+o.length+post.length:=by simp;omega
 by_cases h:i<mid.length
 .
  have hx:=gV hm i;have hox:(pre++o++post).getD (pre.length+i) 0=mid.getD i 0:=by rw[Ku];exact drop_getD hdr
  by_cases h2:i<v.length
  .
   have hy:=gV hv i;by_cases h3:1000000000<=mid.getD i 0+c+v.getD i 0
   . have hp:=pi (d:=mid.getD i 0+c+v.getD i 0-1000000000) (c':=1) (show i<o.length by omega) hs;have hq:=drop_set (d:=mid.getD i 0+c+v.getD i 0-1000000000) hdr;repeat (first|(refine af ?_)|((first|refine⟨_,_,rfl,bC,rfl,?_⟩|refine⟨(rfl:(_:Nat)=_),_,rfl,by omega,?_⟩|refine⟨_,bC,?_⟩|refine⟨bR,_,bC,?_⟩);conv=>whnf)|(refine ap ?_))
     exact⟨⟨(i+1,1,o.set i (mid.getD i 0+c+v.getD i 0-1000000000)),by dsimp only;omega,by dsimp only;omega,by dsimp only;rw[du];exact ho,hd.set (by simp only[B9];omega),hp,hq⟩,
      Wk.tab [] ⟨ab,ab,ab,ab,ab,aa⟩ ⟨pA,aa⟩ rfl,by dsimp only;omega⟩
   have hp:=pi (d:=mid.getD i 0+c+v.getD i 0) (c':=0) (show i<o.length by omega) hs;have hq:=drop_set (d:=mid.getD i 0+c+v.getD i 0) hdr;repeat (first|(refine af ?_)|((first|refine⟨_,_,rfl,bC,rfl,?_⟩|refine⟨(rfl:(_:Nat)=_),_,rfl,by omega,?_⟩|refine⟨_,bC,?_⟩|refine⟨bR,_,bC,?_⟩);conv=>whnf)|(refine ap ?_))
   exact⟨⟨(i+1,0,o.set i (mid.getD i 0+c+v.getD i 0)),by dsimp only;omega,by dsimp only;omega,by dsimp only;rw[du];exact ho,hd.set (by simp only[B9];omega),hp,hq⟩,
    Wk.tab [] ⟨ab,ab,ab,ab,ab,aa⟩ ⟨pA,aa⟩ rfl,by dsimp only;omega⟩
  have hy:v.getD i 0=0:=by simp[Nat.not_lt.1 h2]
  by_cases h3:1000000000<=mid.getD i 0+c
  . have hp:=pi (d:=mid.getD i 0+c-1000000000) (c':=1) (show i<o.length by omega) hs;have hq:=drop_set (d:=mid.getD i 0+c-1000000000) hdr;repeat (first|(refine af ?_)|((first|refine⟨(rfl:(_:Nat)=_),_,rfl,by omega,?_⟩|refine⟨_,bC,?_⟩|refine⟨bR,_,bC,?_⟩);conv=>whnf)|(refine ap ?_))
    exact⟨⟨(i+1,1,o.set i (mid.getD i 0+c-1000000000)),by dsimp only;omega,by dsimp only;omega,by dsimp only;rw[du];exact ho,hd.set (by simp only[B9];omega),hp,hq⟩,
     Wk.tab [] ⟨ab,ab,ab,ab,ab,aa⟩ ⟨pA,aa⟩ rfl,by dsimp only;omega⟩
  have hp:=pi (d:=mid.getD i 0+c) (c':=0) (show i<o.length by omega) hs;have hq:=drop_set (d:=mid.getD i 0+c) hdr;repeat (first|(refine af ?_)|((first|refine⟨(rfl:(_:Nat)=_),_,rfl,by omega,?_⟩|refine⟨_,bC,?_⟩|refine⟨bR,_,bC,?_⟩);conv=>whnf)|(refine ap ?_))
  exact⟨⟨(i+1,0,o.set i (mid.getD i 0+c)),by dsimp only;omega,by dsimp only;omega,by dsimp only;rw[du];exact ho,hd.set (by simp only[B9];omega),hp,hq⟩,
   Wk.tab [] ⟨ab,ab,ab,ab,ab,aa⟩ ⟨pA,aa⟩ rfl,by dsimp only;omega⟩
 have hil:i=mid.length:=by omega
 have hlt:=fL hd;rw[ho] at hlt;rw[hil,ay (by omega),ay (ah _),ay (by omega)] at hs;have hpad:o=fZ mid.length (nv B9 mid+nv B9 v):=D8 hd ho (by rw[<-hs,A2,gA hlt]);by_cases hc0:c=0
 . subst hc0;refine aK ?_;refine⟨?_,?_,rfl⟩
   . refine aL IV.bool (bE ?_).symm;omega
   rw[<-hpad];rfl
 have hc1:c=1:=by omega
 subst hc1;refine aK ?_;refine⟨?_,?_,rfl⟩
 . refine aL IV.bool (bB ?_).symm;omega
 rw[<-hpad];rfl
def zq{mid v o:List Nat}{i c w x q r w' t:Nat}(hi:i<o.length)(hs:nv B9 (o.take i)+t*nv B9 (v.take i)=nv B9 (mid.take i)+B9^i*(c+w))(hC:c+t*v.getD i 0=r+1000000000*q)(hx:x+r+w=mid.getD i 0+1000000000*w':=by omega) :
 nv B9 ((o.set i x).take (i+1))+t*nv B9 (v.take (i+1))=nv B9 (mid.take (i+1))+B9^(i+1)*(q+w'):=by
 rw[qL hi,kD v,kD mid,cg,xz t];have:=GW (B:=B9) (A:=o.take i) (x:=x) (s:=t*v.getD i 0) (y:=mid.getD i 0) (c':=q+w') (by simp;omega) hs (by simp only[B9];omega);omega
def yM{v:List Nat}{i c q r t:Nat}(hs:B9^i*c<=t*nv B9 (v.take i))(hC:c+t*v.getD i 0=r+1000000000*q):B9^(i+1)*q<=t*nv B9 (v.take (i+1)):=by
 rw[kD v,cg,xz t,bX,eC];have e:B9^i*(c+t*v.getD i 0)=B9^i*(r+B9*q):=by rw[hC]
 rw[cg,cg] at e;omega
def UM(J:Keep){pre mid post v:List Nat}{t:Nat}(ht:t<1000000000)(hm:Dg B9 mid)(hv:Dg B9 v)(hl:v.length+1<=mid.length)(hs0:(pre++mid++post).length<2^50) :
 bc Tryz.prog J.I 231 193 1 pre.length mid.length ((pre++mid++post).map u32) [.sl (v.map u32),.int .u64 t] ((pre++fZ mid.length (nv B9 mid+B9^mid.length-t*nv B9 v)++post).map u32) (.bool (decide (nv B9 mid<t*nv B9 v))):=by
 have lb:(v.map u32).length=v.length:=by simp
 have hs1:mid.length<2^50:=by simp at hs0;omega
 refine MF Tryz.func231 rfl rfl rfl ?_;refine aK ?_;refine W.loop (G:={ p:Nat×Nat×Nat×List Nat // p.1<=mid.length/\p.2.1<1000000000/\p.2.2.1<=1/\p.2.2.2.length=mid.length/\Dg B9 p.2.2.2/\nv B9 (p.2.2.2.take p.1)+t*nv B9 (v.take p.1)=nv B9 (mid.take p.1)+B9^p.1*(p.2.1+p.2.2.1)/\B9^p.1*p.2.1<=t*nv B9 (v.take p.1)/\p.2.2.2.drop p.1=mid.drop p.1 })
  (fun p=>aF [(0,.ref aP pre.length mid.length false),(1,.iv (.sl (v.map u32))),(2,.iv (.int .u64 (t:Int))),(7,.iv (.int .u64 (p.1.2.1:Int))),(8,.iv (.int .i64 (p.1.2.2.1:Int))),(12,.iv (.int .i64 (mid.length:Int))),(13,.iv (.int .i64 (p.1.1:Int)))]
    [(aP,.arr 193 1 ((pre++p.1.2.2.2++post).map u32) false)] 10) (fun p=>mid.length-p.1.1)
  ⟨(0,0,0,mid),by simp,by simp,by simp,rfl,hm,by simp[nv],by simp,rfl⟩
  (Wk.tab [] ⟨ab,ab,ab,ab,ab,ab,ab,aa⟩ ⟨rfl,aa⟩ rfl) ?_
 rintro⟨⟨i,c,w,o⟩,hi,hc,hw,ho,hd,hs,hcs,hdr⟩;dsimp only at hi hc hw ho hd hs hcs hdr;show W J _ _ (aF [(0,.ref aP pre.length mid.length false),(1,.iv (.sl (v.map u32))),(2,.iv (.int .u64 (t:Int))),(7,.iv (.int .u64 (c:Int))),(8,.iv (.int .i64 (w:Int))),(12,.iv (.int .i64 (mid.length:Int))),(13,.iv (.int .i64 (i:Int)))]
  [(aP,.arr 193 1 ((pre++o++post).map u32) false)] 10) _
 have lo:((pre++o++post).map u32).length=pre.length+o.length+post.length:=by simp;omega
 have lo2:(pre++o++post).length=pre.length+o.length+post.length:=by simp;omega
 by_cases h:i<mid.length
 .
  have hx:=gV hm i;have hox:(pre++o++post).getD (pre.length+i) 0=mid.getD i 0:=by rw[Ku];exact drop_getD hdr
  have hy:=gV hv i;have hxy:=Ic ht hy;have hxyi:(t:Int)*(v.getD i 0:Int)=((t*v.getD i 0:Nat):Int):=rfl;obtain⟨q,hQ⟩:∃q,(c+t*v.getD i 0)/1000000000=q:=⟨_,rfl⟩;obtain⟨r,hR⟩:∃q,(c+t*v.getD i 0)%1000000000=q:=⟨_,rfl⟩;have hCC:c+t*v.getD i 0=r+1000000000*q:=by omega
  by_cases h2:i<v.length
  .
   have hq:IntKind.wrap .u64 (((c:Int)+(t:Int)*(v.getD i 0:Int)).tdiv 1000000000)=((q:Nat):Int):=by
    rw[hxyi,show(c:Int)+((t*v.getD i 0:Nat):Int)=((c+t*v.getD i 0:Nat):Int) by omega,z8,hQ];exact fa
   have hm':((c:Int)+(t:Int)*(v.getD i 0:Int)).tmod 1000000000=((r:Nat):Int):=by
    rw[hxyi,show(c:Int)+((t*v.getD i 0:Nat):Int)=((c+t*v.getD i 0:Nat):Int) by omega,wu,hR]
   by_cases h3:mid.getD i 0<r+w
   . have hp:=zq (x:=mid.getD i 0+1000000000-r-w) (w':=1) (show i<o.length by omega) hs hCC;have hcq:=yM hcs hCC;have hdq:=drop_set (d:=mid.getD i 0+1000000000-r-w) hdr;repeat (first|(refine af ?_)|((first|refine⟨by omega,_,hq,?_⟩|refine⟨by omega,_,hm',?_⟩|refine⟨rfl,_,fa,?_⟩|refine⟨_,_,rfl,bC,rfl,?_⟩|refine⟨(rfl:(_:Nat)=_),_,rfl,by omega,?_⟩|refine⟨_,bC,?_⟩|refine⟨bR,_,bC,?_⟩|refine⟨_,fa,?_⟩);conv=>whnf)|(refine ap ?_))
     exact⟨⟨(i+1,q,1,o.set i (mid.getD i 0+1000000000-r-w)),by dsimp only;omega,by dsimp only;omega,by dsimp only;omega,by dsimp only;rw[du];exact ho,hd.set (by simp only[B9];omega),hp,hcq,hdq⟩,
      Wk.tab [] ⟨ab,ab,ab,ab,ab,ab,ab,aa⟩ ⟨pA,aa⟩ rfl,by dsimp only;omega⟩
   have hp:=zq (x:=mid.getD i 0-r-w) (w':=0) (show i<o.length by omega) hs hCC;have hcq:=yM hcs hCC;have hdq:=drop_set (d:=mid.getD i 0-r-w) hdr;repeat (first|(refine af ?_)|((first|refine⟨by omega,_,hq,?_⟩|refine⟨by omega,_,hm',?_⟩|refine⟨rfl,_,fa,?_⟩|refine⟨_,_,rfl,bC,rfl,?_⟩|refine⟨(rfl:(_:Nat)=_),_,rfl,by omega,?_⟩|refine⟨_,bC,?_⟩|refine⟨bR,_,bC,?_⟩|refine⟨_,fa,?_⟩);conv=>whnf)|(refine ap ?_))
   exact⟨⟨(i+1,q,0,o.set i (mid.getD i 0-r-w)),by dsimp only;omega,by dsimp only;omega,by dsimp only;omega,by dsimp only;rw[du];exact ho,hd.set (by simp only[B9];omega),hp,hcq,hdq⟩,
    Wk.tab [] ⟨ab,ab,ab,ab,ab,ab,ab,aa⟩ ⟨pA,aa⟩ rfl,by dsimp only;omega⟩
  have hy0:v.getD i 0=0:=by simp[Nat.not_lt.1 h2]
  rw[hy0,jP,fF] at hQ hR;have hq:IntKind.wrap .u64 ((c:Int).tdiv 1000000000)=((q:Nat):Int):=by
   rw[z8,hQ];exact fa
  have hm':(c:Int).tmod 1000000000=((r:Nat):Int):=by
   rw[wu,hR]
  by_cases h3:mid.getD i 0<r+w
  . have hp:=zq (x:=mid.getD i 0+1000000000-r-w) (w':=1) (show i<o.length by omega) hs hCC;have hcq:=yM hcs hCC;have hdq:=drop_set (d:=mid.getD i 0+1000000000-r-w) hdr;repeat (first|(refine af ?_)|((first|refine⟨by omega,_,hq,?_⟩|refine⟨by omega,_,hm',?_⟩|refine⟨(rfl:(_:Nat)=_),_,rfl,by omega,?_⟩|refine⟨_,bC,?_⟩|refine⟨bR,_,bC,?_⟩);conv=>whnf)|(refine ap ?_))
    exact⟨⟨(i+1,q,1,o.set i (mid.getD i 0+1000000000-r-w)),by dsimp only;omega,by dsimp only;omega,by dsimp only;omega,by dsimp only;rw[du];exact ho,hd.set (by simp only[B9];omega),hp,hcq,hdq⟩,
     Wk.tab [] ⟨ab,ab,ab,ab,ab,ab,ab,aa⟩ ⟨pA,aa⟩ rfl,by dsimp only;omega⟩
  have hp:=zq (x:=mid.getD i 0-r-w) (w':=0) (show i<o.length by omega) hs hCC;have hcq:=yM hcs hCC;have hdq:=drop_set (d:=mid.getD i 0-r-w) hdr;repeat (first|(refine af ?_)|((first|refine⟨by omega,_,hq,?_⟩|refine⟨by omega,_,hm',?_⟩|refine⟨(rfl:(_:Nat)=_),_,rfl,by omega,?_⟩|refine⟨_,bC,?_⟩|refine⟨bR,_,bC,?_⟩);conv=>whnf)|(refine ap ?_))
  exact⟨⟨(i+1,q,0,o.set i (mid.getD i 0-r-w)),by dsimp only;omega,by dsimp only;omega,by dsimp only;omega,by dsimp only;rw[du];exact ho,hd.set (by simp only[B9];omega),hp,hcq,hdq⟩,
   Wk.tab [] ⟨ab,ab,ab,ab,ab,ab,ab,aa⟩ ⟨pA,aa⟩ rfl,by dsimp only;omega⟩
 have hil:i=mid.length:=by omega
 have hlt:=fL hd;rw[ho] at hlt;rw[hil,ay (by omega),ay (ah _),ay (by omega)] at hs;rw[hil,ay (by omega)] at hcs;have hvlt:=fL hv;have htv:t*nv B9 v<B9^mid.length:=by
  have e1:t*nv B9 v<=B9*nv B9 v:=cL _ (nQ ht);have e2:B9*nv B9 v<B9*B9^v.length:=FT hvlt (by decide);have e3:B9*B9^v.length<=B9^mid.length:=by rw[dw,<-bX];exact co (by decide) hl
  omega
 have hc0:c=0:=by
  apply ia;intro hne;have:B9^mid.length*1<=B9^mid.length*c:=hX _ (by omega);omega
 rw[hc0,a8] at hs;by_cases hw0:w=0
 .
  rw[hw0,jP] at hs;have hpad:o=fZ mid.length (nv B9 mid+B9^mid.length-t*nv B9 v):=D8 hd ho (by
   rw[show nv B9 mid+B9^mid.length-t*nv B9 v=nv B9 o+B9^mid.length by omega,FE,gA hlt])
  subst hw0;refine aK ?_;refine⟨?_,?_,rfl⟩
  . refine aL IV.bool (bE ?_).symm;omega
  rw[<-hpad];rfl
 have hw1:w=1:=by omega
 rw[hw1,eB] at hs;have hpad:o=fZ mid.length (nv B9 mid+B9^mid.length-t*nv B9 v):=D8 hd ho (by
  rw[<-hs,FN,gA hlt])
 subst hw1;refine aK ?_;refine⟨?_,?_,rfl⟩
 . refine aL IV.bool (bB ?_).symm;omega
 rw[<-hpad];rfl
def WG{x n:Nat}(h1:B9^n<=x)(h2:x<B9^(n+1)):(dg x).length=n+1:=by
 have e1:=uX (by decide) (dm x) (k:=n+1) (by rw[dT];exact h2);have e2:=fL (dm x).dg;rw[dT] at e2;apply Nat.le_antisymm e1;apply ia;intro hn;have:B9^(dg x).length<=B9^n:=co (by decide) (by omega);omega
def BO{m:List Nat}{n:Nat}(hl:m.length=n+1):nv B9 m=nv B9 (m.take n)+B9^n*m.getD n 0:=by
 have:=kD m n;rwa[ay (by omega)] at this
def S0{m:List Nat}{n:Nat}(hm:Ok B9 m)(hl:m.length=n+1):1<=m.getD n 0:=by
 have h1:=rM hm.nm (by intro e;rw[e] at hl;cases hl) (B:=B9);rw[hl,FN,BO hl] at h1;have h2:=fL (hm.dg.take n);rw[bG,hl,ce (by omega)] at h2;apply ia;intro h0;have e:m.getD n 0=0:=by omega
 rw[e,jP] at h1;omega
def XC{m:List Nat}{n s:Nat}(hm:Ok B9 m)(hl:m.length=n+1)(hs:s=1000000000/(m.getD n 0+1)) :
 1<=s/\s<1000000000/\B9^n<=nv B9 m*s/\nv B9 m*s<B9^(n+1):=by
 have ht:=S0 hm hl;have ht2:=gV hm.dg n;have h1:1<=s:=by rw[hs];exact(FU (by omega)).2 (by omega)
 have h2:s<1000000000:=by rw[hs];exact FO (by omega) (by omega)
 have h3:=rM hm.nm (by intro e;rw[e] at hl;cases hl) (B:=B9);rw[hl,FN] at h3;refine⟨h1,h2,bf h3 (A3 _ h1),?_⟩;have h4:=fL (hm.dg.take n);rw[bG,hl,ce (by omega)] at h4;have h5:nv B9 m<B9^n*(m.getD n 0+1):=by rw[BO hl,cg,eB];omega
 have h6:s*(m.getD n 0+1)<=B9:=by rw[hs];exact uP _ _
 have h7:nv B9 m*s<B9^n*(m.getD n 0+1)*s:=N7 h5 h1;have h8:B9^n*(m.getD n 0+1)*s<=B9^(n+1):=by
  rw[eC,dw (m.getD n 0+1),bX];exact hX _ h6
 omega
def YH{a s Vz9 la n:Nat}{R:List Nat}{b:Nat}(ha:a<B9^la)(hb:B9^n<=b)(hs:1<=s)(hV:Vz9=b*s)(hR:nv B9 R=a*s)(hRl:R.length=la+1)(hn:n<=la):nv B9 (R.drop (la-n))<Vz9:=by
 have h1:=u7 B9 R (la-n);have h2:a*s<B9^la*s:=N7 ha hs;have h3:B9^la=B9^(la-n)*B9^n:=by rw[<-iX];congr 1;omega
 have h4:B9^n*s<=Vz9:=by rw[hV];exact cL _ hb
 apply Nat.lt_of_mul_lt_mul_left (a:=B9^(la-n));have h5:B9^(la-n)*(B9^n*s)<=B9^(la-n)*Vz9:=hX _ h4;rw[<-eC,<-h3] at h5;omega
def RX{R:List Nat}{k n Vz9:Nat}(hR:Dg B9 R)(hl:k+n+1<R.length)(hV:Vz9<B9^(n+1))(hlt:nv B9 (R.drop (k+1))<Vz9) :
 nv B9 (R.drop k)=nv B9 ((R.drop k).take (n+2))/\nv B9 (R.drop (k+(n+2)))=0/\nv B9 (R.drop k)<B9*Vz9/\
 R.getD (k+(n+1)) 0*1000000000+R.getD (k+n) 0=nv B9 (R.drop k)/B9^n:=by
 have e1:nv B9 (R.drop k)=R.getD k 0+B9*nv B9 (R.drop (k+1)):=by
  rw[Uo B9 R k (by omega),cn,bi (by omega)];rfl
 have hd:=gV hR k;have h3:nv B9 (R.drop k)<B9*Vz9:=by
  have:B9*(nv B9 (R.drop (k+1))+1)<=B9*Vz9:=hX _ hlt;rw[cg] at this;simp only[B9] at this e1 ⊢;omega
 have h4:=u7 B9 (R.drop k) (n+2) (by rw[nO];omega);rw[oD] at h4;have h5:nv B9 (R.drop (k+(n+2)))=0:=by
  apply ia;intro hne;have e:B9^(n+2)*1<=B9^(n+2)*nv B9 (R.drop (k+(n+2))):=hX _ (by omega);have e2:B9*Vz9<B9*B9^(n+1):=FT hV (by decide);have e3:B9*B9^(n+1)=B9^(n+2):=by rw[dw B9 (B9^(n+1)),<-bX]
  omega
 rw[h5,jP,fF] at h4;refine⟨h4,h5,h3,?_⟩;have g1:(R.drop k).getD n 0=R.getD (k+n) 0:=by simp[cn]
 have g2:(R.drop k).getD (n+1) 0=R.getD (k+(n+1)) 0:=by simp[cn]
 have h6:=kD (R.drop k) (n+1);have h7:=kD (R.drop k) n;rw[g1] at h7;rw[g2,h7,<-h4,bX,eC] at h6;have h8:=fL ((hR.drop k).take n);rw[bG,nO,ce (by omega)] at h8;have h9:nv B9 (R.drop k)=B9^n*(R.getD (k+(n+1)) 0*1000000000+R.getD (k+n) 0)+nv B9 ((R.drop k).take n):=by
  rw[h6,cg,dw (R.getD (k+(n+1)) 0) 1000000000];simp only[B9];omega
 rw[h9,FP (gB (by decide)),mQ h8];exact(fF _).symm
def So{P Vz9 n vt:Nat}(hV0:0<Vz9)(xb:vt=Vz9/B9^n)(hv1:1<=vt)(hlt:P<B9*Vz9):P/Vz9<=min (P/B9^n/vt) 999999999:=by
 apply Nat.le_min.2;constructor
 . rw[A4 (by omega),A4 (gB (by decide))];have h1:vt*B9^n<=Vz9:=by rw[xb];exact uP _ _
   have h2:P/Vz9*Vz9<=P:=uP _ _;have h3:P/Vz9*(vt*B9^n)<=P/Vz9*Vz9:=hX _ h1;rw[eC];omega
 have:P/Vz9<B9:=(nR hV0).2 hlt;simp only[B9] at this;omega
def V7{R O part':List Nat}{k N Vz9 A:Nat}(hkR:k<=R.length)(hkO:k<O.length)(h0:nv B9 (R.drop (k+N))=0)(hp:nv B9 part'=nv B9 (R.drop k)%Vz9)(hA:nv B9 R+B9^(k+1)*(Vz9*nv B9 (O.drop (k+1)))=A) :
 nv B9 (R.take k++part'++R.drop (k+N))+B9^k*(Vz9*nv B9 ((O.set k (nv B9 (R.drop k)/Vz9)).drop k))=A/\nv B9 ((R.take k++part'++R.drop (k+N)).drop k)=nv B9 (R.drop k)%Vz9:=by
 have hl:(R.take k).length=k:=by rw[bG,ce hkR]
 have e1:(R.take k++part'++R.drop (k+N)).drop k=part'++R.drop (k+N):=by
  rw[dI,YW (by omega),oE (by omega),lF]
 have e2:nv B9 (part'++R.drop (k+N))=nv B9 (R.drop k)%Vz9:=by rw[nX,h0,jP,hp];exact fF _
 refine⟨?_,by rw[e1,e2]⟩;rw[dI,nX,hl,e2,Gs hkO,jb];have h1:=u7 B9 R k hkR;have h2:=oH (nv B9 (R.drop k)) Vz9;rw[<-hA,h1,bX];generalize nv B9 (R.drop k)/Vz9=q at *;generalize nv B9 (R.drop k)%Vz9=r at *;rw[<-h2,cg,cg,cg,eC (B9^k) B9,xz Vz9 B9];omega
def zj(a b:Nat):pY (dg a) (dg b)=a7 a b:=by unfold pY;rw[dT,dT]
def DF{a b:Nat}(h:a<b):a7 a b = -1:=by unfold a7;rw[au (by omega)]
def zk{a b:Nat}(h:b<=a):0<=a7 a b:=by unfold a7;split<;>(try split)<;>omega
def Jx(J:Keep){l:List Nat}{es:List IV}{x:Nat}(h:es=l.map u32)(hl:l.length<2^60)(hd:Dg B9 l)(hv:nv B9 l=x):C J 183 [.sl es] (aQ x):=by
 rw[show aQ x=bP (strip l) by rw[s9 hd hv]];exact tv J h hl
def HC(J:Keep){a b:Nat}(hb:0<b)(hab:a<b\/b<1000000000)(ha:ln a<2^44):C J 189 [aQ a,aQ b] (.tup [aQ (a/b),aQ (a%b)]):=by
 have ha':=ha;unfold ln at ha;have la:((dg a).map u32).length=(dg a).length:=by simp
 have lb:((dg b).map u32).length=(dg b).length:=by simp
 refine aN Tryz.func189 rfl rfl rfl ?_;by_cases h:a<b
 . have hc:=DF h;rw[<-zj] at hc;repeat (first|(refine af ?_)|(refine⟨_,za J (dm a) (dm b),?_⟩;conv=>whnf)|(refine ap ?_))
   rw[mQ h,gA h];show IV.tup [.agg [.sl []],aQ a]=_;rw[show aQ 0=.agg [.sl []] by rw[show aQ 0=bP (dg 0) from rfl,pc];rfl]
 have hb1:b<1000000000:=by omega
 have hc:=zk (Nat.not_lt.1 h);rw[<-zj] at hc;have hd:dg b=[b]:=(tQ ⟨oW hb1,by intro d hd;simp at hd;omega⟩ (by simp[nv])).symm;have hl:(dg b).length=1:=by rw[hd];rfl
 have he:(dg b).getD 0 0=b:=by rw[hd];rfl
 repeat (first|(refine af ?_)|((first|refine⟨_,za J (dm a) (dm b),?_⟩|refine⟨_,UN J (a:=a) (d:=(dg b).getD 0 0) (by omega) (by omega) ha',?_⟩|refine⟨0,_,rfl,bC,rfl,?_⟩);conv=>whnf)|(refine ap ?_))
 rw[he];rfl
def Vj{x:List Nat}{N:Nat}(h:x.length<=N):splice (List.replicate N (u32 0)) 0 (List.take (Nat.min (x.map u32).length N) (x.map u32))=(x++List.replicate (N-x.length) 0).map u32:=by
 unfold splice;have e:Nat.min (x.map u32).length N=x.length:=by rw[aV];exact ce h
 rw[e,xm,lF,ay (by simp),a8,aV,List.drop_replicate,dD,xw]
def S3{x n:Nat}(hl:(dg x).length=n+1):(dg x).getD n 0=x/B9^n:=by
 have h1:=BO hl;rw[dT] at h1;have h2:=fL ((dm x).dg.take n);rw[bG,hl,ce (by omega)] at h2;have h3:x/B9^n=(nv B9 ((dg x).take n)+B9^n*(dg x).getD n 0)/B9^n:=by rw[<-h1]
 rw[h3,N8 _ _ (gB (by decide)),mQ h2];exact(a8 _).symm
def WL{a b:Nat}(h:a≠b):Nat.beq a b=false:=by
 cases hb:Nat.beq a b
 . rfl
 exact absurd (aB hb) h
def kH(a s:Nat):ln (a*s)<=ln a+ln s:=mc (by
 rw[iX];exact Nat.mul_lt_mul'' (n9 a) (n9 s))
def Su(J:Keep){a b:Nat}(hab:b<=a)(hb:1000000000<=b)(ha:ln a<2^40):C J 189 [aQ a,aQ b] (.tup [aQ (a/b),aQ (a%b)]):=by
 have ha':=ha;unfold ln at ha;obtain⟨l,hl0⟩:∃l,l=dg a:=⟨_,rfl⟩;obtain⟨m,hm0⟩:∃m,m=dg b:=⟨_,rfl⟩;have hol:Ok B9 l:=by rw[hl0];exact dm a
 have hom:Ok B9 m:=by rw[hm0];exact dm b
 have hvl:nv B9 l=a:=by rw[hl0];exact dT a
 have hvm:nv B9 m=b:=by rw[hm0];exact dT b
 have hml:m.length<=l.length:=uX (by decide) hom (by have:=fL hol.dg;omega);obtain⟨n,hn⟩:∃n,m.length=n+2:=by
  refine⟨m.length-2,?_⟩;have h9:=fL hom.dg;have h2:2<=m.length:=by
   apply ia;intro hh;have h8:B9^m.length<=B9^1:=co (by decide) (by omega);rw[sA] at h8;have h7:B9=1000000000:=rfl;omega
  omega
 have hc:=zk hab;rw[<-zj] at hc;have la:((dg a).map u32).length=l.length:=by rw[hl0];simp
 have lb:((dg b).map u32).length=n+2:=by rw[<-hm0];simp[hn]
 have lb2:(dg b).length=n+2:=by rw[<-hm0];exact hn
 have hlen:l.length<2^40:=by rw[hl0];exact ha
 obtain⟨s,hs⟩:∃s,s=1000000000/(m.getD (n+1) 0+1):=⟨_,rfl⟩;obtain⟨hs1,hs2,hV1,hV2⟩:=XC hom hn hs;rw[hvm] at hV1 hV2;have xb:=gV hom.dg (n+1);have hvt2:(dg b).getD (n+1) 0<1000000000:=by rw[<-hm0];exact xb
 have hsc:IntKind.wrap .u32 ((1000000000:Int).tdiv (((dg b).getD (n+1) 0:Int)+1))=((s:Nat):Int):=by
  rw[<-hm0,show((m.getD (n+1) 0:Nat):Int)+1=((m.getD (n+1) 0+1:Nat):Int) by omega,show(1000000000:Int)=((1000000000:Nat):Int) from rfl,nk,<-hs];exact wT
 have hls:ln s<=1:=mc (by simp only[B9];omega);have hlb:ln b=n+2:=lb2;have hvl2:ln a=l.length:=by rw[hl0];rfl
 have lv:(dg (b*s)).length=n+2:=WG hV1 hV2;have lv2:((dg (b*s)).map u32).length=n+2:=by simp[lv]
 refine aN Tryz.func189 rfl rfl rfl ?_;repeat (first|(refine af ?_)|((first|refine⟨_,za J (dm a) (dm b),?_⟩|refine⟨by omega,_,hsc,?_⟩|refine⟨n+1,_,by omega,bC,rfl,?_⟩|refine⟨_,fa,?_⟩);conv=>whnf)|(refine ap ?_))
 refine⟨_,lU J (n:=s),?_⟩;conv=>whnf
 refine W.weak (Y':=aF [(2,.ptr 0 0),(3,.ptr 1 0),(4,.ptr 2 0),(5,.ptr 3 0),(6,.ptr 4 0)] [(0,.var (aQ a)),(1,.var (aQ b)),(2,.var (.agg [.sl []])),(3,.var (.agg [.sl []])),(4,.var (aQ s))] 30)
  (Wk.tab [(4,26)] ⟨ab,ab,ab,ab,ab,aa⟩ ⟨rfl,rfl,rfl,rfl,rfl,aa⟩ rfl) ?_
 clear hsc xb hvt2 hc;refine W.RS ?_;conv=>whnf
 refine⟨_,m8 J (a:=b) (b:=s),?_⟩;conv=>whnf
 refine W.RS ?_;conv=>whnf
 refine⟨_,rfl,?_⟩;conv=>whnf
 refine W.RS ?_;conv=>whnf
 refine⟨_,rfl,?_⟩;conv=>whnf
 refine⟨rfl,_,cZ,?_⟩;conv=>whnf
 refine⟨rfl,_,kU _,?_⟩;conv=>whnf
 refine⟨by show 4*_<=(281474976710656:Nat);omega,by unfold maxLen;omega,?_⟩;conv=>whnf
 refine W.RS ?_;conv=>whnf
 refine⟨_,m8 J (a:=a) (b:=s),?_⟩;conv=>whnf
 refine⟨bR,rfl,MJ,?_,_,rfl,?_⟩
 . rw[N9];omega
 conv=>whnf
 refine W.RS ?_;conv=>whnf
 refine⟨_,rfl,?_⟩;conv=>whnf
 refine⟨rfl,_,cZ,?_⟩;conv=>whnf
 refine⟨rfl,l.length-(n+1),by omega,?_⟩;refine⟨by show 4*_<=(281474976710656:Nat);omega,by unfold maxLen;omega,?_⟩;conv=>whnf
 refine W.S ?_;refine W.RS ?_;conv=>whnf
 refine⟨_,rfl,?_⟩;conv=>whnf
 refine⟨rfl,_,cZ,?_⟩;conv=>whnf
 have hR0l:(dg (a*s)).length<=l.length+1:=by
  have h1:=kH a s;unfold ln at h1 hls hvl2;omega
 have hR0:nv B9 (dg (a*s)++List.replicate (l.length+1-(dg (a*s)).length) 0)=a*s:=by
  rw[nX,xS,dT];exact fF _
 have hR0len:(dg (a*s)++List.replicate (l.length+1-(dg (a*s)).length) 0).length=l.length+1:=by simp;omega
 have hini:=YH (n:=n+1) (la:=l.length) (Vz9:=b*s) (a:=a) (b:=b) (by have:=fL hol.dg;rwa[hvl] at this) (by
  have:=rM hom.nm (by intro e;rw[e] at hn;cases hn) (B:=B9);rwa[hn,hvm] at this) hs1 rfl hR0 hR0len (by omega)
 repeat (first|(refine W.S ?_)|(refine W.block ?_))
 refine W.loop (G:={ p:Nat×List Nat×List Nat // p.1<=l.length-(n+1)/\p.2.1.length=l.length+1/\Dg B9 p.2.1/\p.2.2.length=l.length-(n+1)/\Dg B9 p.2.2/\nv B9 p.2.1+B9^p.1*(b*s*nv B9 (p.2.2.drop p.1))=a*s/\nv B9 (p.2.1.drop p.1)<b*s })
  (fun p=>aF [(2,.ptr 0 0),(3,.ptr 1 0),(4,.ptr 2 0),(5,.ptr 3 0),(6,.ptr 4 0),(7,.iv (.sl ((dg (b*s)).map u32))),(8,.iv (.int .i64 ((n+2:Nat):Int))),(9,.ref 5 0 (l.length+1) true),(10,.ref 6 0 (l.length-(n+1)) true),(11,.iv (.int .i64 ((p.1.1:Int)-1)))]
    [(0,.var (aQ a)),(1,.var (aQ b)),(2,.var (.agg [.sl []])),(3,.var (.agg [.sl []])),(4,.var (aQ s)),(5,.arr 193 1 (p.1.2.1.map u32) false),(6,.arr 193 1 (p.1.2.2.map u32) false)] 70) (fun p=>p.1.1)
  ⟨(l.length-(n+1),dg (a*s)++List.replicate (l.length+1-(dg (a*s)).length) 0,List.replicate (l.length-(n+1)) 0),ah _,hR0len,(dm _).dg.append (Dg.replicate (by decide) _),by simp,Dg.replicate (by decide) _,
   by dsimp only;rw[hR0,oE (by simp),Wh,jP,jP,fF],hini⟩
  (Wk.tab [(5,42),(6,54)] ⟨ab,ab,ab,ab,ab,ab,⟨df,rfl⟩,⟨rK,rfl⟩,⟨rK,rfl⟩,ab,aa⟩
    ⟨rfl,rfl,rfl,rfl,rfl,tT ?_,tT ?_,aa⟩ rfl) ?_
 . rw[la];exact Vj (by simpa using hR0l)
 . rw[xw];rfl
 rintro⟨⟨k,R,O⟩,hk,hRl,hRd,hOl,hOd,hA,hlt⟩;dsimp only at hk hRl hRd hOl hOd hA hlt;show W J _ _ (aF [(2,.ptr 0 0),(3,.ptr 1 0),(4,.ptr 2 0),(5,.ptr 3 0),(6,.ptr 4 0),(7,.iv (.sl ((dg (b*s)).map u32))),(8,.iv (.int .i64 ((n+2:Nat):Int))),(9,.ref 5 0 (l.length+1) true),(10,.ref 6 0 (l.length-(n+1)) true),(11,.iv (.int .i64 ((k:Int)-1)))]
  [(0,.var (aQ a)),(1,.var (aQ b)),(2,.var (.agg [.sl []])),(3,.var (.agg [.sl []])),(4,.var (aQ s)),(5,.arr 193 1 (R.map u32) false),(6,.arr 193 1 (O.map u32) false)] 70) _
 clear hini hR0 hR0l hR0len;have lR:(R.map u32).length=R.length:=by simp
 have lO:(O.map u32).length=O.length:=by simp
 by_cases h:k=0
 .
  subst h;simp only[bW,qJ,nJ] at hA hlt;have hb0:0<b:=by omega
  have hbs:0<b*s:=oI hb0 hs1;have e1:nv B9 O=a/b:=by
   have:a*s/(b*s)=nv B9 O:=by rw[<-hA,N8 _ _ hbs,mQ hlt,a8]
   rw[<-this,Nat.mul_div_mul_right _ _ hs1]
  have e2:nv B9 R=a%b*s:=by
   have:a*s%(b*s)=nv B9 R:=by rw[<-hA,A2,gA hlt]
   rw[<-this,Nat.mul_mod_mul_right]
  have h3:ln (a%b*s)<2^44:=by
   have h1:=kH (a%b) s;have h2:ln (a%b)<=l.length:=mc (jN (Nat.mod_le _ _) (by have:=fL hol.dg;rwa[hvl] at this));omega
  repeat (first|(refine af ?_)|((first|refine⟨_,Jx J (l:=R) (es:=List.take (l.length+1) (List.drop 0 (R.map u32))) (x:=a%b*s) (by rw[bW,ay (by omega)]) (by omega) hRd e2,?_⟩|refine⟨_,HC J (a:=a%b*s) (b:=s) hs1 (.inr hs2) h3,?_⟩|refine⟨_,Jx J (l:=O) (es:=List.take (l.length-(n+1)) (List.drop 0 (O.map u32))) (x:=a/b) (by rw[bW,ay (by omega)]) (by omega) hOd e1,?_⟩);conv=>whnf)|(refine ap ?_))
  rw[Nat.mul_div_cancel _ hs1];rfl
 obtain⟨k,rfl⟩:∃j,k=j+1:=⟨k-1,by omega⟩;have hO:k<O.length:=by omega
 obtain⟨p1,p2,p3,p4⟩:=RX (n:=n+1) (k:=k) hRd (by omega) hV2 hlt;have hvt3:=S3 lv;have hVpos:0<b*s:=iy (gB (by decide)) hV1;have hvt1:1<=(dg (b*s)).getD (n+1) 0:=by rw[hvt3];exact(FU (gB (by decide))).2 hV1
 have hvt4:=gV (dm (b*s)).dg (n+1);have hgg:=So hVpos hvt3 hvt1 p3;obtain⟨P,hP⟩:∃P,nv B9 (R.drop k)=P:=⟨_,rfl⟩;obtain⟨gq,hgq0⟩:∃q,(R.getD (0+(k+(n+2))) 0*1000000000+R.getD (0+(k+(n+1))) 0)/(dg (b*s)).getD (n+1) 0=q:=⟨_,rfl⟩;have z1:R.getD (0+(k+(n+2))) 0=R.getD (k+(n+2)) 0:=by rw[a8]
 have z2:R.getD (0+(k+(n+1))) 0=R.getD (k+(n+1)) 0:=by rw[a8]
 have d1:=gV hRd (0+(k+(n+2)));have d2:=gV hRd (0+(k+(n+1)));have hgq1:gq<=R.getD (0+(k+(n+2))) 0*1000000000+R.getD (0+(k+(n+1))) 0:=by rw[<-hgq0];exact mR _ _
 rw[hP] at p1 p3 p4 hgg;have hgq2:P/B9^(n+1)/(dg (b*s)).getD (n+1) 0=gq:=by rw[<-p4,<-hgq0,z1,z2]
 rw[hgq2] at hgg;have hgq:IntKind.wrap .u64 (((R.getD (0+(k+(n+2))) 0:Int)*1000000000+(R.getD (0+(k+(n+1))) 0:Int)).tdiv ((dg (b*s)).getD (n+1) 0:Int))=((gq:Nat):Int):=by
  rw[show(R.getD (0+(k+(n+2))) 0:Int)*1000000000+(R.getD (0+(k+(n+1))) 0:Int)=((R.getD (0+(k+(n+2))) 0*1000000000+R.getD (0+(k+(n+1))) 0:Nat):Int) by omega,nk,hgq0];exact fa
 obtain⟨g,hg⟩:∃g,min gq 999999999=g:=⟨_,rfl⟩;rw[hg] at hgg;have hmin:(if(999999999:Int)<(gq:Int) then(999999999:Int) else(gq:Int))=(g:Int):=by rw[<-hg];split<;>omega
 have hg1:g<1000000000:=by omega
 clear hgq0 hgq1 hgq2 hvt3 p4;obtain⟨mid,hmid⟩:∃x,x=(R.drop k).take (n+3):=⟨_,rfl⟩;have hmidl:mid.length=n+3:=by rw[hmid,bG,nO];omega
 have hmidd:Dg B9 mid:=by rw[hmid];exact(hRd.drop k).take _
 have hmidv:nv B9 mid=P:=by rw[hmid];exact p1.symm
 have hprel:(R.take k).length=0+k:=by rw[bG];omega
 have hRe:R.take k++mid++R.drop (k+(n+3))=R:=by
  rw[hmid,dI,<-oD,kC,kC]
 have hsub:bc Tryz.prog J.I 231 193 1 (0+k) (k+(n+2)+1-k) (R.map u32) [.sl ((dg (b*s)).map u32),.int .u64 g] ((R.take k++fZ (n+3) (P+B9^(n+3)-g*(b*s))++R.drop (k+(n+3))).map u32) (.bool (decide (P<g*(b*s)))):=by
  have h:=UM J (pre:=R.take k) (mid:=mid) (post:=R.drop (k+(n+3))) (v:=dg (b*s)) (t:=g) hg1 hmidd (dm _).dg (by omega) (by rw[hRe];omega);rw[hRe,hprel,hmidl,hmidv,dT] at h;rw[show k+(n+2)+1-k=n+3 by omega];exact h
 have hlenp:∀x:List Nat,x.length=n+3->(R.take k++x++R.drop (k+(n+3))).length=R.length:=fun x hx=>by
  rw[bg,bg,nO,hprel,hx];omega
 have hgive:∀part:List Nat,part.length=n+3->Dg B9 part->bc Tryz.prog J.I 232 193 1 (0+k) (k+(n+2)+1-k) ((R.take k++part++R.drop (k+(n+3))).map u32) [.sl ((dg (b*s)).map u32)] ((R.take k++fZ (n+3) (nv B9 part+b*s)++R.drop (k+(n+3))).map u32) (.bool (decide (B9^(n+3)<=nv B9 part+b*s))):=fun part h1 h2=>by
  have h:=UL J (pre:=R.take k) (mid:=part) (post:=R.drop (k+(n+3))) (v:=dg (b*s)) h2 (dm _).dg (by omega) (by rw[hlenp part h1];omega);rw[hprel,h1,dT] at h;rw[show k+(n+2)+1-k=n+3 by omega];exact h
 have hgV:g*(b*s)<B9^(n+3):=by
  have e1:g*(b*s)<=B9*(b*s):=cL _ (nQ hg1);have e2:B9*(b*s)<B9*B9^(n+2):=FT hV2 (by decide);have e3:B9*B9^(n+2)=B9^(n+3):=by rw[dw B9 (B9^(n+2)),<-bX]
  omega
 have hPN:P<B9^(n+3):=by
  have e2:B9*(b*s)<B9*B9^(n+2):=FT hV2 (by decide);have e3:B9*B9^(n+2)=B9^(n+3):=by rw[dw B9 (B9^(n+2)),<-bX]
  omega
 have hqV:P/(b*s)*(b*s)<=P:=uP _ _;have hVN:b*s<B9^(n+3):=iy hV2 (co (by decide) (by omega));have hend:∀part':List Nat,part'.length=n+3->Dg B9 part'->nv B9 part'=P%(b*s)->∀q,q=P/(b*s)->
  (k<=l.length-(n+1)/\(R.take k++part'++R.drop (k+(n+3))).length=l.length+1/\Dg B9 (R.take k++part'++R.drop (k+(n+3)))/\(O.set k q).length=l.length-(n+1)/\Dg B9 (O.set k q)/\
    nv B9 (R.take k++part'++R.drop (k+(n+3)))+B9^k*(b*s*nv B9 ((O.set k q).drop k))=a*s/\nv B9 ((R.take k++part'++R.drop (k+(n+3))).drop k)<b*s):=by
  intro part' h1 h2 h3 q hq;obtain⟨o1,o2⟩:=V7 (part':=part') (N:=n+3) (A:=a*s) (Vz9:=b*s) (show k<=R.length by omega) hO p2 (by rw[h3,hP]) hA;rw[hP,<-hq] at o1;rw[hP] at o2;refine⟨by omega,?_,((hRd.take k).append h2).append (hRd.drop _),by rw[du];exact hOl,hOd.set ?_,o1,by rw[o2];exact ib _ hVpos⟩
  . rw[bg,bg,nO,h1];omega
  have:P/(b*s)<B9:=(nR hVpos).2 p3;omega
 rw[show(((k+1:Nat):Int)-1)=(k:Int) by omega];clear hs hls hlb hvl2 ha' hs2 hV1 hV2 ha la lb lb2 hmidv hmidl hmidd hRe;repeat (first|(refine af ?_)|((first|refine⟨by omega,_,hgq,?_⟩|refine⟨(rfl:(_:Nat)=_),k+(n+2),Am _ _,by omega,?_⟩|refine⟨(rfl:(_:Nat)=_),k+(n+1),by omega,by omega,?_⟩|refine⟨n+1,_,by omega,bC,rfl,?_⟩|refine⟨(g:Int),hmin,?_⟩|refine⟨(rfl:(_:Nat)=_),k+(n+2)+1,by omega,k+(n+2)+1,by omega,k,rfl,by omega,by omega,by omega,.inr (by simp),false,WL (by omega),?_⟩|refine⟨rfl,_,fa,?_⟩|refine⟨_,bC,?_⟩|refine⟨_,fa,?_⟩);conv=>whnf)|(refine ap ?_))
 by_cases hlt2:P<g*(b*s)
 .
  rw[bB hlt2] at hsub;refine⟨bR,_,_,hsub,by rw[aV,aV,hlenp _ (oY _ _)],?_⟩;conv=>whnf
  repeat (first|(refine W.RS ?_;conv=>whnf)|(refine W.block ?_)|(refine W.condT rfl ?_))
  refine W.loop (G:={ p:Bool×Nat×List Nat // p.2.2.length=n+3/\Dg B9 p.2.2/\(p.1=false->nv B9 p.2.2+p.2.1*(b*s)=P+B9^(n+3)/\P<p.2.1*(b*s)/\p.2.1<1000000000)/\(p.1=true->nv B9 p.2.2=P%(b*s)/\p.2.1=P/(b*s)) })
   (fun p=>aF [(2,.ptr 0 0),(3,.ptr 1 0),(4,.ptr 2 0),(5,.ptr 3 0),(6,.ptr 4 0),(7,.iv (.sl ((dg (b*s)).map u32))),(8,.iv (.int .i64 ((n+2:Nat):Int))),(9,.ref 5 0 (l.length+1) true),(10,.ref 6 0 (l.length-(n+1)) true),(11,.iv (.int .i64 (k:Int))),(13,.iv (.int .u64 (p.1.2.1:Int))),(14,.ref 5 (0+k) (k+(n+2)+1-k) false),(15,.iv (.bool p.1.1))]
     [(0,.var (aQ a)),(1,.var (aQ b)),(2,.var (.agg [.sl []])),(3,.var (.agg [.sl []])),(4,.var (aQ s)),(5,.arr 193 1 ((R.take k++p.1.2.2++R.drop (k+(n+3))).map u32) false),(6,.arr 193 1 (O.map u32) false)] 300) (fun p=>bif p.1.1 then 0 else p.1.2.1)
   ⟨(false,g,fZ (n+3) (P+B9^(n+3)-g*(b*s))),oY _ _,v7 _ _,fun _=>⟨by
    dsimp only;rw[vZ,gA (by omega)];omega,hlt2,hg1⟩,fun e=>by cases e⟩
   (Wk.tab [] ⟨ab,ab,ab,ab,ab,ab,ab,ab,ab,ab,ab,ab,ab,aa⟩ ⟨rfl,rfl,rfl,rfl,rfl,rfl,rfl,aa⟩ rfl) ?_
  rintro⟨⟨made,g',part⟩,hpl,hpd,hpf,hpt⟩;dsimp only at hpl hpd hpf hpt;show W J _ _ (aF [(2,.ptr 0 0),(3,.ptr 1 0),(4,.ptr 2 0),(5,.ptr 3 0),(6,.ptr 4 0),(7,.iv (.sl ((dg (b*s)).map u32))),(8,.iv (.int .i64 ((n+2:Nat):Int))),(9,.ref 5 0 (l.length+1) true),(10,.ref 6 0 (l.length-(n+1)) true),(11,.iv (.int .i64 (k:Int))),(13,.iv (.int .u64 (g':Int))),(14,.ref 5 (0+k) (k+(n+2)+1-k) false),(15,.iv (.bool made))]
   [(0,.var (aQ a)),(1,.var (aQ b)),(2,.var (.agg [.sl []])),(3,.var (.agg [.sl []])),(4,.var (aQ s)),(5,.arr 193 1 ((R.take k++part++R.drop (k+(n+3))).map u32) false),(6,.arr 193 1 (O.map u32) false)] 300) _
  cases made with
  |true=>
   obtain⟨hv1,hq1⟩:=hpt rfl;have hq9:P/(b*s)<1000000000:=(nR hVpos).2 (by simp only[B9] at p3;exact p3);repeat (first|(refine af ?_)|((first|refine⟨(rfl:(_:Nat)=_),_,rfl,by omega,?_⟩|refine⟨bR,_,bC,?_⟩|refine⟨false,beq_eq_false_iff_ne.2 (by omega),?_⟩);conv=>whnf)|(refine ap ?_))
   have he:=hend part hpl hpd hv1 g' hq1;exact⟨⟨(k,R.take k++part++R.drop (k+(n+3)),O.set k g'),he⟩,
    Wk.tab [] ⟨ab,ab,ab,ab,ab,ab,ab,ab,ab,ab,aa⟩ ⟨rfl,rfl,rfl,rfl,rfl,rfl,l7,aa⟩ rfl,by dsimp only;omega⟩
  |false=>
   obtain⟨hv1,hl1,hg9⟩:=hpf rfl;have hg0:0<g':=by
    apply ia;intro hh;have:g'=0:=by omega
    rw[this,nN] at hl1;omega
   obtain⟨g',rfl⟩:∃j,g'=j+1:=⟨g'-1,by omega⟩;rw[bQ,nJ] at hv1 hl1;have hgi:=hgive part hpl hpd;have hgl:((R.take k++fZ (n+3) (nv B9 part+b*s)++R.drop (k+(n+3))).map u32).length=((R.take k++part++R.drop (k+(n+3))).map u32).length:=by
    rw[aV,aV,hlenp _ (oY _ _),hlenp _ hpl]
   by_cases hmd:B9^(n+3)<=nv B9 part+b*s
   .
    rw[bB hmd] at hgi;have hgood:nv B9 (fZ (n+3) (nv B9 part+b*s))=P%(b*s)/\g'=P/(b*s):=by
     have e1:g'*(b*s)<=P:=by omega
     have e2:nv B9 (fZ (n+3) (nv B9 part+b*s))=P-g'*(b*s):=by
      rw[vZ,show nv B9 part+b*s=(P-g'*(b*s))+B9^(n+3) by omega,FE,gA (by omega)]
     have e3:g'=P/(b*s):=(Nat.div_eq_of_lt_le e1 (by rw[bQ,nJ];exact hl1)).symm;refine⟨?_,e3⟩;have e:=oH P (b*s);rw[<-e3,dw] at e;omega
    repeat (first|(refine af ?_)|((first|refine⟨bR,_,_,hgi,hgl,?_⟩|refine⟨rfl,_,fa,?_⟩|refine⟨_,rfl,?_⟩);conv=>whnf))
    refine⟨⟨(true,g',fZ (n+3) (nv B9 part+b*s)),oY _ _,v7 _ _,fun e=>(by cases e),fun _=>hgood⟩,
     Wk.tab [] ⟨ab,ab,ab,ab,ab,ab,ab,ab,ab,ab,⟨df (by dsimp only;omega),rfl⟩,ab,ab,aa⟩ ⟨rfl,rfl,rfl,rfl,rfl,rfl,rfl,aa⟩ rfl,?_⟩
    show 0<g'+1;omega
   rw[bE hmd] at hgi;have hgood:nv B9 (fZ (n+3) (nv B9 part+b*s))+g'*(b*s)=P+B9^(n+3)/\P<g'*(b*s)/\g'<1000000000:=by
    have e2:nv B9 (fZ (n+3) (nv B9 part+b*s))=nv B9 part+b*s:=by
     rw[vZ,gA (by omega)]
    rw[e2];omega
   repeat (first|(refine af ?_)|((first|refine⟨bR,_,_,hgi,hgl,?_⟩|refine⟨rfl,_,fa,?_⟩|refine⟨_,rfl,?_⟩);conv=>whnf))
   refine⟨⟨(false,g',fZ (n+3) (nv B9 part+b*s)),oY _ _,v7 _ _,fun _=>hgood,fun e=>(by cases e)⟩,
    Wk.tab [] ⟨ab,ab,ab,ab,ab,ab,ab,ab,ab,ab,⟨df (by dsimp only;omega),rfl⟩,ab,ab,aa⟩ ⟨rfl,rfl,rfl,rfl,rfl,rfl,rfl,aa⟩ rfl,?_⟩
   show g'<g'+1;omega
 rw[bE hlt2] at hsub;have hq:g=P/(b*s):=by
  have e:=(A4 hVpos).2 (Nat.not_lt.1 hlt2);omega
 have hpv:nv B9 (fZ (n+3) (P+B9^(n+3)-g*(b*s)))=P%(b*s):=by
  rw[vZ,show P+B9^(n+3)-g*(b*s)=(P-g*(b*s))+B9^(n+3) by omega,FE,gA (by omega)];have e:=oH P (b*s);rw[<-hq,dw] at e;omega
 refine⟨bR,_,_,hsub,by rw[aV,aV,hlenp _ (oY _ _)],?_⟩;repeat (first|(refine af ?_)|(refine W.condF rfl ?_)|((first|refine⟨(rfl:(_:Nat)=_),_,rfl,by omega,?_⟩|refine⟨bR,_,bC,?_⟩);conv=>whnf)|(refine ap ?_))
 have he:=hend _ (oY _ _) (v7 _ _) hpv g hq;exact⟨⟨(k,R.take k++fZ (n+3) (P+B9^(n+3)-g*(b*s))++R.drop (k+(n+3)),O.set k (g)),he⟩,
  Wk.tab [] ⟨ab,ab,ab,ab,ab,ab,ab,ab,ab,ab,aa⟩ ⟨rfl,rfl,rfl,rfl,rfl,rfl,l7,aa⟩ rfl,by dsimp only;omega⟩
def Dy(J:Keep){a b:Nat}(hb:0<b)(ha:ln a<2^40):C J 189 [aQ a,aQ b] (.tup [aQ (a/b),aQ (a%b)]):=by
 by_cases h:a<b\/b<1000000000
 . exact HC J hb h (by omega)
 exact Su J (by omega) (by omega) ha
def lP{a b:Nat}(h:a<=b):ln a<=ln b:=mc (jN h (n9 b))
def Ed{a:Nat}(h:ln a<=2):a<1000000000000000000:=by
 have h1:=n9 a;have h2:B9^ln a<=B9^2:=co (by decide) h;have h3:B9^2=1000000000000000000:=by decide
 omega
def Kx{a:Nat}(h:ln a=0):a=0:=by
 have h1:=n9 a;rw[h,qJ] at h1;omega
def LP{a:Nat}(h:0<a:=by omega):0<ln a:=by
 apply ia;intro hh;have:=Kx (a:=a) (by omega);omega
def UW(J:Keep)(hw:∀n,ln n<=2->C J 229 [aQ n] (.int .u64 n)){a b:Nat}(ha:ln a<2^40)(hb:ln b<2^40):C J 187 [aQ a,aQ b] (aQ (Nat.gcd a b)):=by
 refine aN Tryz.func187 rfl rfl rfl ?_;refine aK ?_;refine W.loop (G:={ p:Nat×Nat // Nat.gcd p.1 p.2=Nat.gcd a b/\ln p.1<2^40/\ln p.2<2^40 }) (fun p=>aF [(2,.ptr 0 0),(3,.ptr 1 0),(4,.ptr 2 0)] [(0,.var (aQ p.1.1)),(1,.var (aQ p.1.2)),(2,.var (.agg [.sl []]))] 10) (fun p=>p.1.2)
  ⟨(a,b),rfl,ha,hb⟩ (Wk.tab [] ⟨ab,ab,ab,aa⟩ ⟨rfl,rfl,rfl,aa⟩ rfl) ?_
 rintro⟨⟨x,y⟩,hg,hx,hy⟩;dsimp only at hg hx hy;show W J _ _ (aF [(2,.ptr 0 0),(3,.ptr 1 0),(4,.ptr 2 0)] [(0,.var (aQ x)),(1,.var (aQ y)),(2,.var (.agg [.sl []]))] 10) _;have lx:((dg x).map u32).length=ln x:=by simp[ln]
 have ly:((dg y).map u32).length=ln y:=by simp[ln]
 by_cases h0:y=0
 .
  have hly:ln y=0:=by subst h0;unfold ln;rw[pc];rfl
  have hz:((((dg y).map u32).length:Int)==0)=true:=by rw[ly,hly];rfl
  have hz2:=tx J ((dg y).map u32);rw[hz] at hz2;repeat (first|(refine af ?_)|((first|refine⟨_,hz2,?_⟩|refine⟨_,rfl,?_⟩);conv=>whnf))
  rw[<-hg,h0,FV];rfl
 have hlp:=LP (a:=y);have hz:((((dg y).map u32).length:Int)==0)=false:=by rw[ly];exact beq_eq_false_iff_ne.2 (by omega)
 have hz2:=tx J ((dg y).map u32);rw[hz] at hz2;have hbig:C J 189 [aQ x,aQ y] (.tup [aQ (x/y),aQ (x%y)]):=Dy J (by omega) hx;have hym:x%y<y:=ib _ (by omega);have hgn:Nat.gcd y (x%y)=Nat.gcd a b:=by rw[<-hg,sC x y,FX y x,sC]
 have hlm:ln (x%y)<2^40:=jN (lP (nQ hym)) hy;by_cases h1:ln x<=2
 .
  by_cases h2:ln y<=2
  .
   have bx:=Ed h1;have bY:=Ed h2;repeat (first|(refine af ?_)|((first|refine⟨_,hz2,?_⟩|refine⟨_,hw x h1,?_⟩|refine⟨_,hw y h2,?_⟩);conv=>whnf)|(refine ap ?_))
   refine W.loop (G:={ p:Nat×Nat // Nat.gcd p.1 p.2=Nat.gcd a b/\p.1<1000000000000000000/\p.2<1000000000000000000 }) (fun p=>aF [(2,.ptr 0 0),(3,.ptr 1 0),(4,.ptr 2 0),(5,.iv (.int .u64 (p.1.1:Int))),(6,.iv (.int .u64 (p.1.2:Int)))] [(0,.var (aQ x)),(1,.var (aQ y)),(2,.var (.agg [.sl []]))] 40) (fun p=>p.1.2)
    ⟨(x,y),hg,bx,bY⟩ (Wk.tab [] ⟨ab,ab,ab,ab,ab,aa⟩ ⟨rfl,rfl,rfl,aa⟩ rfl) ?_
   rintro⟨⟨u,v⟩,hg2,hu,hv⟩;dsimp only at hg2 hu hv;show W J _ _ (aF [(2,.ptr 0 0),(3,.ptr 1 0),(4,.ptr 2 0),(5,.iv (.int .u64 (u:Int))),(6,.iv (.int .u64 (v:Int)))] [(0,.var (aQ x)),(1,.var (aQ y)),(2,.var (.agg [.sl []]))] 40) _;by_cases h3:v=0
   . subst h3;repeat (first|(refine af ?_)|(refine⟨_,lU J (n:=u),?_⟩;conv=>whnf)|(refine ap ?_))
     rw[<-hg2,FV];rfl
   have hvm:u%v<v:=ib _ (by omega);have hm:=l9 u v;obtain⟨r,hr⟩:∃r,u%v=r:=⟨_,rfl⟩;rw[hr] at hm hvm;repeat (first|(refine af ?_)|(refine⟨by omega,_,hm,?_⟩;conv=>whnf)|(refine ap ?_))
   exact⟨⟨(v,r),by rw[<-hg2,<-hr,sC u v,FX v u,sC],hv,by dsimp only;omega⟩,Wk.tab [] ⟨ab,ab,ab,ab,ab,aa⟩ ⟨rfl,rfl,rfl,aa⟩ rfl,hvm⟩
  repeat (first|(refine af ?_)|((first|refine⟨_,hz2,?_⟩|refine⟨_,hbig,?_⟩);conv=>whnf)|(refine ap ?_))
  exact⟨⟨(y,x%y),hgn,hy,hlm⟩,Wk.tab [] ⟨ab,ab,ab,aa⟩ ⟨rfl,rfl,rfl,aa⟩ rfl,hym⟩
 repeat (first|(refine af ?_)|((first|refine⟨_,hz2,?_⟩|refine⟨_,hbig,?_⟩);conv=>whnf)|(refine ap ?_))
 exact⟨⟨(y,x%y),hgn,hy,hlm⟩,Wk.tab [] ⟨ab,ab,ab,aa⟩ ⟨rfl,rfl,rfl,aa⟩ rfl,hym⟩
def Mp{x y:Nat}(h:x=y):some (Bx.var (aQ x))=some (Bx.var (aQ y)):=by rw[h]
def rx:ln 1=1:=by
 have h1:=mc (n:=1) (k:=1);have h2:=LP (a:=1);omega
def Ee(a k:Nat):ln (a^k)<=k*ln a+1:=by
 induction k with
 |zero=>rw[qJ,rx];omega
 |succ k ih=>
  have h1:=mc (n:=a^(k+1)) (k:=(k+1)*ln a+1) (by
   have e:∀k,a^(k+1)<B9^((k+1)*ln a+1):=fun k=>by
    rw[dw,bX B9,A5];have h2:a^(k+1)<=(B9^ln a)^(k+1):=A6 (nQ (n9 a)) _;have h3:0<(B9^ln a)^(k+1):=gB (gB (by decide));have h4:(B9^ln a)^(k+1)*2<=(B9^ln a)^(k+1)*B9:=hX _ (by decide);omega
   exact e k)
  exact h1
def KZ(J:Keep){a n:Nat}(hn:n<2^30:=by omega)(hl:(n+1)*ln a<2^40:=by omega):C J 185 [aQ a,.int .i64 n] (aQ (a^n)):=by
 refine aN Tryz.func185 rfl rfl rfl ?_;repeat (first|(refine af ?_)|(refine⟨_,lU J (n:=1),?_⟩;conv=>whnf))
 refine W.loop (G:={ p:Nat×Nat×Nat // p.1+p.2.1*p.2.2=n/\p.2.1<=n+1/\p.2.2<=n }) (fun p=>aF [(1,.iv (.int .i64 (p.1.2.2:Int))),(2,.ptr 0 0),(4,.ptr 1 0),(5,.ptr 2 0)] [(0,.var (aQ (a^p.1.2.1))),(1,.var (.agg [.sl []])),(2,.var (aQ (a^p.1.1)))] 10) (fun p=>p.1.2.2)
  ⟨(0,1,n),by dsimp only;omega,by dsimp only;omega,ah _⟩ (Wk.tab [(2,3)] ⟨ab,ab,ab,ab,aa⟩ ⟨Mp (by rw[sA]),rfl,Mp (by rw[qJ]),aa⟩ rfl) ?_
 rintro⟨⟨u,w,m⟩,he,hw,hmn⟩;dsimp only at he hw hmn;show W J _ _ (aF [(1,.iv (.int .i64 (m:Int))),(2,.ptr 0 0),(4,.ptr 1 0),(5,.ptr 2 0)] [(0,.var (aQ (a^w))),(1,.var (.agg [.sl []])),(2,.var (aQ (a^u)))] 10) _;have hu:u<=n:=by omega
 have l1:ln (a^u)<=2^40+1:=by
  have h1:=Ee a u;have h2:u*ln a<=(n+1)*ln a:=cL _ (by omega);omega
 have l2:ln (a^w)<=2^40+1:=by
  have h1:=Ee a w;have h2:w*ln a<=(n+1)*ln a:=cL _ hw;omega
 have hm2:(m:Int).tmod 2=((m%2:Nat):Int):=l9 m 2;have hq2:IntKind.wrap .i64 ((m:Int).tdiv 2)=((m/2:Nat):Int):=by
  rw[show(2:Int)=((2:Nat):Int) from rfl,nk];exact cZ
 obtain⟨q,hq⟩:∃q,m/2=q:=⟨_,rfl⟩;obtain⟨r,hr⟩:∃r,m%2=r:=⟨_,rfl⟩;rw[hq] at hq2;rw[hr] at hm2;have c1:C J 139 [aQ (a^u),aQ (a^w)] (aQ (a^(u+w))):=by
  rw[iX];exact m8 J
 have c2:C J 139 [aQ (a^w),aQ (a^w)] (aQ (a^(w+w))):=by
  rw[iX];exact m8 J
 have hww:w*m=2*(w*q)+w*r:=by
  have:m=2*q+r:=by omega
  rw[this,cg,xz]
 have hdd:(w+w)*q=2*(w*q):=by rw[<-Nat.two_mul,eC]
 have hle:w*2<=w*m\/m<2:=by
  rcases gb m 2 with h|h
  . exact .inr h
  exact .inl (hX _ h)
 by_cases h0:m=0
 . subst h0;refine aK ?_;rw[show n=u by omega];rfl
 by_cases h1:r=1
 .
  rw[h1,eB] at hww;by_cases h2:m=1
  . have hq0:q=0:=by omega
    rw[hq0,jP] at hww;repeat (first|(refine af ?_)|((first|refine⟨by omega,_,hm2,?_⟩|refine⟨_,c1,?_⟩|refine⟨by omega,_,hq2,?_⟩);conv=>whnf)|(refine ap ?_))
    exact⟨⟨(u+w,w,q),by dsimp only;rw[hq0,jP];omega,hw,by dsimp only;omega⟩,Wk.tab [] ⟨ab,ab,ab,ab,aa⟩ ⟨rfl,rfl,rfl,aa⟩ rfl,by dsimp only;omega⟩
  repeat (first|(refine af ?_)|((first|refine⟨by omega,_,hm2,?_⟩|refine⟨_,c1,?_⟩|refine⟨_,c2,?_⟩|refine⟨by omega,_,hq2,?_⟩);conv=>whnf)|(refine ap ?_))
  exact⟨⟨(u+w,w+w,q),by dsimp only;omega,by dsimp only;omega,by dsimp only;omega⟩,Wk.tab [] ⟨ab,ab,ab,ab,aa⟩ ⟨rfl,rfl,rfl,aa⟩ rfl,by dsimp only;omega⟩
 have hr0:r=0:=by omega
 rw[hr0,jP] at hww;repeat (first|(refine af ?_)|((first|refine⟨by omega,_,hm2,?_⟩|refine⟨_,c2,?_⟩|refine⟨by omega,_,hq2,?_⟩);conv=>whnf)|(refine ap ?_))
 exact⟨⟨(u,w+w,q),by dsimp only;omega,by dsimp only;omega,by dsimp only;omega⟩,Wk.tab [] ⟨ab,ab,ab,ab,aa⟩ ⟨rfl,rfl,rfl,aa⟩ rfl,by dsimp only;omega⟩
def Jy(J:Keep)(n:Nat):C J 57 [aQ n] (.bool (decide (n=0))):=by
 have h:=tx J ((dg n).map u32);have e:((((dg n).map u32).length:Int)==0)=decide (n=0):=by
  rw[Bool.eq_iff_iff];simp only[aV,xC,ff];constructor
  . intro h0;exact Kx (a:=n) (by unfold ln;omega)
  rintro rfl;rw[pc];rfl
 rw[e] at h;exact h
noncomputable abbrev sg(m:Bool)(n:Nat):IV:=.agg [.sl ((dg n).map u32),.bool m]
def sv(m:Bool)(n:Nat):Int:=if m then -(n:Int) else(n:Int)
noncomputable abbrev zd(z:Int):IV:=sg (decide (z<0)) z.natAbs
def pf(z:Int):sv (decide (z<0)) z.natAbs=z:=by
 unfold sv;by_cases h:z<0
 . simp[h];omega
 simp[h];omega
def Ew{m:Bool}{n:Nat}(h:m=true->n≠0:=by simp):zd (sv m n)=sg m n:=by
 unfold sv;cases m with
 |true=>
  have:=h rfl;simp only[bL];have e1:decide (-(n:Int)<0)=true:=bB (by omega);have e2:(-(n:Int)).natAbs=n:=by omega
  rw[zd,e1,e2]
 |false=>
  simp only[dB,bM];have e1:decide ((n:Int)<0)=false:=bE (by omega);rw[zd,e1,dP]
def Pg:zd (sv true 0)=sg false 0:=by
 have:sv true 0=sv false 0:=by simp[sv]
 rw[this];exact Ew
def ig(J:Keep)(m:Bool)(n:Nat):C J 67 [.bool m,aQ n] (zd (sv m n)):=by
 refine aN Tryz.func67 rfl rfl rfl ?_;have hz:=Jy J n;cases m with
 |false=>
  rw[Ew];refine aK ?_;rfl
 |true=>
  by_cases h0:n=0
  . subst h0;rw[Pg];repeat (first|(refine af ?_)|(refine⟨_,hz,?_⟩;conv=>whnf)|(refine ap ?_))
    rfl
  rw[bE h0] at hz;rw[Ew (fun _=>h0)];repeat (first|(refine af ?_)|(refine⟨_,hz,?_⟩;conv=>whnf)|(refine ap ?_))
  rfl
def U7(J:Keep)(z:Int):C J 133 [zd z] (.int .i64 (a7 z 0)):=by
 refine aN Tryz.func133 rfl rfl rfl ?_;have hz:=Jy J z.natAbs;by_cases h0:z=0
 . subst h0;repeat (first|(refine af ?_)|(refine⟨_,hz,?_⟩;conv=>whnf))
   rfl
 rw[bE (show ¬z.natAbs=0 by omega)] at hz;by_cases h1:z<0
 . rw[zd,bB h1];repeat (first|(refine af ?_)|(refine⟨_,hz,?_⟩;conv=>whnf))
   simp[iD,a7,h1]
 rw[zd,bE h1];repeat (first|(refine af ?_)|(refine⟨_,hz,?_⟩;conv=>whnf))
 simp[iD,a7,h1];omega
def KW(J:Keep){m m':Bool}{n n':Nat}(h:ln n+ln n'<2^44):C J 138 [sg m n,sg m' n'] (zd (sv m n*sv m' n')):=by
 refine aN Tryz.func138 rfl rfl rfl ?_;have hm:=m8 J h;cases m<;>cases m'
 . have e:sv false n*sv false n'=sv false (n*n'):=by simp[sv]
   rw[e];repeat (first|(refine af ?_)|((first|refine⟨_,hm,?_⟩|refine⟨_,ig J _ _,?_⟩);conv=>whnf)|(refine ap ?_))
   rfl
 . have e:sv false n*sv true n'=sv true (n*n'):=by simp[sv,FY]
   rw[e];repeat (first|(refine af ?_)|((first|refine⟨_,hm,?_⟩|refine⟨_,ig J _ _,?_⟩);conv=>whnf)|(refine ap ?_))
   rfl
 . have e:sv true n*sv false n'=sv true (n*n'):=by simp[sv,lG]
   rw[e];repeat (first|(refine af ?_)|((first|refine⟨_,hm,?_⟩|refine⟨_,ig J _ _,?_⟩);conv=>whnf)|(refine ap ?_))
   rfl
 have e:sv true n*sv true n'=sv false (n*n'):=by simp[sv,FZ]
 rw[e];repeat (first|(refine af ?_)|((first|refine⟨_,hm,?_⟩|refine⟨_,ig J _ _,?_⟩);conv=>whnf)|(refine ap ?_))
 rfl
def JA(J:Keep){a b:Nat}(h:ln a<2^60:=by omega):C J 175 [aQ a,aQ b] (.int .i64 (a7 a b)):=by
 have:=za J (dm a) (dm b) h;rwa[zj] at this
def UY(J:Keep){m m':Bool}{n n':Nat}(h:ln n<2^44)(h':ln n'<2^44):C J 140 [sg m n,sg m' n'] (zd (sv m n+sv m' n')):=by
 refine aN Tryz.func140 rfl rfl rfl ?_;have hp:=KQ J h h';have hc:=JA J (a:=n) (b:=n');cases m<;>cases m'
 . have e:sv false n+sv false n'=sv false (n+n'):=by simp[sv]
   rw[e];repeat (first|(refine af ?_)|((first|refine⟨_,hp,?_⟩|refine⟨_,ig J _ _,?_⟩);conv=>whnf)|(refine ap ?_))
   rfl
 .
  by_cases hlt:n<n'
  . have e:sv false n+sv true n'=sv true (n'-n):=by simp[sv];omega
    rw[e];rw[DF hlt] at hc;have hl:=tw J (nQ hlt) h';repeat (first|(refine af ?_)|((first|refine⟨_,hc,?_⟩|refine⟨_,hl,?_⟩|refine⟨_,ig J _ _,?_⟩);conv=>whnf)|(refine ap ?_))
    rfl
  have e:sv false n+sv true n'=sv false (n-n'):=by simp[sv];omega
  rw[e];have hge:=zk (Nat.not_lt.1 hlt);have hl:=tw J (Nat.not_lt.1 hlt) h;repeat (first|(refine af ?_)|((first|refine⟨_,hc,?_⟩|refine⟨_,hl,?_⟩|refine⟨_,ig J _ _,?_⟩);conv=>whnf)|(refine ap ?_))
  rfl
 .
  by_cases hlt:n<n'
  . have e:sv true n+sv false n'=sv false (n'-n):=by simp[sv];omega
    rw[e];rw[DF hlt] at hc;have hl:=tw J (nQ hlt) h';repeat (first|(refine af ?_)|((first|refine⟨_,hc,?_⟩|refine⟨_,hl,?_⟩|refine⟨_,ig J _ _,?_⟩);conv=>whnf)|(refine ap ?_))
    rfl
  have e:sv true n+sv false n'=sv true (n-n'):=by simp[sv];omega
  rw[e];have hge:=zk (Nat.not_lt.1 hlt);have hl:=tw J (Nat.not_lt.1 hlt) h;repeat (first|(refine af ?_)|((first|refine⟨_,hc,?_⟩|refine⟨_,hl,?_⟩|refine⟨_,ig J _ _,?_⟩);conv=>whnf)|(refine ap ?_))
  rfl
 have e:sv true n+sv true n'=sv true (n+n'):=by simp[sv];omega
 rw[e];repeat (first|(refine af ?_)|((first|refine⟨_,hp,?_⟩|refine⟨_,ig J _ _,?_⟩);conv=>whnf)|(refine ap ?_))
 rfl
noncomputable abbrev qd(z:Int)(d:Nat):IV:=.agg [.sl ((dg z.natAbs).map u32),.bool (decide (z<0)),.sl ((dg (d-1)).map u32)]
def U0(J:Keep){x y:IV}{d:Nat}(hd:0<d)(h:ln (d-1)<2^44):C J 58 [.agg [x,y,.sl ((dg (d-1)).map u32)]] (aQ d):=by
 refine aN Tryz.func58 rfl rfl rfl ?_;have h1:ln 1<2^44:=by rw[rx];omega
 have hp:=KQ J h h1;rw[show d-1+1=d by omega] at hp;repeat (first|(refine af ?_)|((first|refine⟨_,lU J (n:=1),?_⟩|refine⟨_,hp,?_⟩|refine xr ?_);conv=>whnf))
 rfl
structure Base(J:Keep):Prop where
 word:∀n,ln n<=2->C J 229 [aQ n] (.int .u64 n)
noncomputable abbrev qr(q:Rat):IV:=qd q.num q.den
def qU{z:Int}{d:Nat}(hd:0<d):(mkRat z d).num=sv (decide (z<0)) (z.natAbs/Nat.gcd z.natAbs d):=by
 have h0:¬d=0:=by omega
 rw[mkRat,dif_neg h0,Rat.normalize_eq];show z/((Nat.gcd z.natAbs d:Nat):Int)=_;have hg:Nat.gcd z.natAbs d∣z.natAbs:=Nat.gcd_dvd_left _ _;generalize Nat.gcd z.natAbs d=g at hg;unfold sv;by_cases hz:z<0
 . obtain⟨n,rfl⟩:∃n:Nat,z = -(n:Int):=⟨z.natAbs,by omega⟩;have e:(-(n:Int)).natAbs=n:=by omega
   rw[e] at hg ⊢;rw[bB hz,au rfl,Int.neg_ediv_of_dvd (Int.natCast_dvd_natCast.2 hg)];rfl
 obtain⟨n,rfl⟩:∃n:Nat,z=(n:Int):=⟨z.natAbs,by omega⟩;rw[bE hz,dP];rfl
def s0{z:Int}{d:Nat}(hd:0<d):(mkRat z d).den=d/Nat.gcd z.natAbs d:=by
 have h0:¬d=0:=by omega
 rw[mkRat,dif_neg h0,Rat.normalize_eq]
def DB{J:Keep}(B:Base J){z:Int}{d:Nat}(hd:0<d)(hz:ln z.natAbs<2^40)(hl:ln d<2^40:=by omega):C J 137 [zd z,aQ d] (qr (mkRat z d)):=by
 refine aN Tryz.func137 rfl rfl rfl ?_;obtain⟨g,hg⟩:∃g,Nat.gcd z.natAbs d=g:=⟨_,rfl⟩;have hg0:0<g:=by rw[<-hg];exact Nat.gcd_pos_of_pos_right _ hd
 have hgd:g∣d:=by rw[<-hg];exact Nat.gcd_dvd_right _ _
 have hgn:g<=d:=Nat.le_of_dvd hd hgd;have hdg:1<=d/g:=(FU hg0).2 hgn;have c1:=UW J B.word hz hl;rw[hg] at c1;have c2:=UV J g;have hnum:=qU (z:=z) hd;have hden:=s0 (z:=z) hd;rw[hg] at hnum hden;have c5:C J 67 [.bool (decide (z<0)),aQ (z.natAbs/g)] (zd (mkRat z d).num):=by rw[hnum];exact ig J _ _
 have c6:C J 186 [aQ (d/g),aQ 1] (aQ ((mkRat z d).den-1)):=by
  rw[hden];exact tw J hdg (jN (lP (mR _ _)) (by omega))
 by_cases h1:g=1
 . rw[bB h1] at c2;rw[h1,oJ] at c5 c6;rw[h1] at c1 c2;repeat (first|(refine af ?_)|((first|refine⟨_,c1,?_⟩|refine⟨_,c2,?_⟩|refine⟨_,c5,?_⟩|refine⟨_,lU J (n:=1),?_⟩|refine⟨_,c6,?_⟩);conv=>whnf)|(refine ap ?_))
   rfl
 rw[bE h1] at c2;have c3:=Dy J (a:=z.natAbs) hg0 hz;have c4:=Dy J (a:=d) hg0 hl;repeat (first|(refine af ?_)|((first|refine⟨_,c1,?_⟩|refine⟨_,c2,?_⟩|refine⟨_,c3,?_⟩|refine⟨_,c4,?_⟩|refine⟨_,c5,?_⟩|refine⟨_,lU J (n:=1),?_⟩|refine⟨_,c6,?_⟩);conv=>whnf)|(refine ap ?_))
 rfl
def KU(J:Keep){x y:Int}(h:ln x.natAbs+ln y.natAbs<2^44):C J 138 [zd x,zd y] (zd (x*y)):=by
 have:=KW J (m:=decide (x<0)) (m':=decide (y<0)) h;rwa[pf,pf] at this
def KT(J:Keep){x:Int}{n:Nat}(h:ln x.natAbs+ln n<2^44:=by omega):C J 138 [zd x,sg false n] (zd (x*(n:Int))):=by
 have:=KW J (m:=decide (x<0)) (m':=false) h;rwa[pf] at this
def UX(J:Keep){x y:Int}(h:ln x.natAbs<2^44)(h':ln y.natAbs<2^44):C J 140 [zd x,zd y] (zd (x+y)):=by
 have:=UY J (m:=decide (x<0)) (m':=decide (y<0)) h h';rwa[pf,pf] at this
def Q3(a b:Nat):ln (a+b)<=ln a+ln b+1:=mc (by
 have h1:=n9 a;have h2:=n9 b;have h3:B9^ln a<=B9^(ln a+ln b):=co (by decide) (by omega);have h4:B9^ln b<=B9^(ln a+ln b):=co (by decide) (by omega);have h5:B9^(ln a+ln b)*2<=B9^(ln a+ln b)*B9:=hX _ (by decide);rw[bX];omega)
noncomputable def aU(q:Rat):Nat:=ln q.num.natAbs+ln q.den
def dZ(q:Rat):0<q.den:=F0 q.den_nz
def ni(J:Keep){q:Rat}(h:aU q<2^44:=by omega):C J 58 [qr q] (aQ q.den) :=
 U0 J (dZ q) (jN (lP (Nat.sub_le _ _)) (by unfold aU at h;omega))
def tG(J:Keep)(q:Rat):C J 63 [qr q] (.int .i64 (a7 q.num 0)):=by
 refine aN Tryz.func63 rfl rfl rfl ?_;have h:=U7 J q.num;repeat (first|(refine af ?_)|(refine⟨_,h,?_⟩;conv=>whnf))
 rfl
def Vx(z:Int):sv (!decide (z<0)) z.natAbs = -z:=by
 unfold sv;by_cases h:z<0
 . simp[h];omega
 simp[h];omega
def Ek(J:Keep)(q:Rat):C J 29 [qr q] (qr (-q)):=by
 refine aN Tryz.func29 rfl rfl rfl ?_;have h:C J 67 [.bool (!decide (q.num<0)),aQ q.num.natAbs] (zd (-q).num):=by
  rw[A7,<-Vx];exact ig J _ _
 repeat (first|(refine af ?_)|(refine⟨_,h,?_⟩;conv=>whnf)|(refine ap ?_))
 rfl
def px{J:Keep}(B:Base J){a b:Rat}(ha:aU a<2^38:=by omega)(hb:aU b<2^38:=by omega):C J 71 [qr a,qr b] (qr (a*b)):=by
 refine aN Tryz.func71 rfl rfl rfl ?_;unfold aU at ha hb;have c1:=KU J (x:=a.num) (y:=b.num) (by omega);have c2:=ni J (q:=a) (by unfold aU;omega);have c3:=ni J (q:=b) (by unfold aU;omega);have c4:=m8 J (a:=a.den) (b:=b.den);have h1:=kH a.num.natAbs b.num.natAbs;have h2:=kH a.den b.den;have c5:=DB B (z:=a.num*b.num) (d:=a.den*b.den) (oI (dZ a) (dZ b)) (by rw[eU];omega);rw[<-uQ] at c5;repeat (first|(refine af ?_)|((first|refine⟨_,c1,?_⟩|refine⟨_,c2,?_⟩|refine⟨_,c3,?_⟩|refine⟨_,c4,?_⟩|refine⟨_,c5,?_⟩|refine xr ?_);conv=>whnf))
 rfl
def wk{J:Keep}(B:Base J){a b:Rat}(ha:aU a<2^38)(hb:aU b<2^38):C J 73 [qr a,qr b] (qr (a+b)):=by
 refine aN Tryz.func73 rfl rfl rfl ?_;unfold aU at ha hb;have c1:=KT J (x:=a.num) (n:=b.den);have c1':=KT J (x:=b.num) (n:=a.den);have c2:=ni J (q:=a) (by unfold aU;omega);have c3:=ni J (q:=b) (by unfold aU;omega);have c4:=m8 J (a:=a.den) (b:=b.den);have h1:=kH a.num.natAbs b.den;have h1':=kH b.num.natAbs a.den;have h2:=kH a.den b.den;have e1:(a.num*(b.den:Int)).natAbs=a.num.natAbs*b.den:=by rw[eU,dP]
 have e1':(b.num*(a.den:Int)).natAbs=b.num.natAbs*a.den:=by rw[eU,dP]
 have c6:=UX J (x:=a.num*(b.den:Int)) (y:=b.num*(a.den:Int)) (by rw[e1];omega) (by rw[e1'];omega);have c5:=DB B (z:=a.num*(b.den:Int)+b.num*(a.den:Int)) (d:=a.den*b.den) (oI (dZ a) (dZ b)) (by
  have h3:=Q3 (a.num.natAbs*b.den) (b.num.natAbs*a.den);have h4:(a.num*(b.den:Int)+b.num*(a.den:Int)).natAbs<=a.num.natAbs*b.den+b.num.natAbs*a.den:=by
   rw[<-e1,<-e1'];exact Oa _ _
  have h5:=lP h4;omega)
 rw[<-Rat.add_def'] at c5;repeat (first|(refine af ?_)|((first|refine⟨_,c1,?_⟩|refine⟨_,c1',?_⟩|refine⟨_,c2,?_⟩|refine⟨_,c3,?_⟩|refine⟨_,c4,?_⟩|refine⟨_,c6,?_⟩|refine⟨_,c5,?_⟩|refine xr ?_);conv=>whnf))
 rfl
end Go.Proofs.Fl
namespace Go.Proofs.Fl
def Mo(a:Int):Go.IntKind.wrap .u64 a=a%18446744073709551616:=by
 show(let m:=a%(18446744073709551616:Int);if false&&decide (m>=(9223372036854775808:Int)) then m-(18446744073709551616:Int) else m)=_;simp
open Go.RowKit Go.Proofs.Dig
attribute [local irreducible] IntKind.wrap aW bc bj bm
def TV(q:Rat):aU (-q)=aU q:=by
 unfold aU;rw[A7,xD,F1]
def Em{J:Keep}(B:Base J){a b:Rat}(ha:aU a<2^38)(hb:aU b<2^38):C J 164 [qr a,qr b] (qr (a-b)):=by
 refine aN Tryz.func164 rfl rfl rfl ?_;have c1:=Ek J b;have c2:=wk B ha (b := -b) (by rw[TV];exact hb);rw[<-Rat.sub_eq_add_neg] at c2;repeat (first|(refine af ?_)|((first|refine⟨_,c1,?_⟩|refine⟨_,c2,?_⟩|refine xr ?_);conv=>whnf))
 rfl
def U5{J:Keep}(B:Base J){a b:Rat}(hb0:b≠0)(ha:aU a<2^38)(hb:aU b<2^38):C J 106 [qr a,qr b] (qr (a/b)):=by
 refine aN Tryz.func106 rfl rfl rfl ?_;unfold aU at ha hb;have hn0:b.num≠0:=fun e=>hb0 (Rat.num_eq_zero.1 e);have hn1:0<b.num.natAbs:=by omega
 have c0:=ig J (decide (b.num<0)) b.den;have hsv:sv (decide (b.num<0)) b.den=b.num.sign*(b.den:Int):=by
  unfold sv;by_cases h:b.num<0
  . rw[bB h,lH h];simp
  rw[bE h,jQ (by omega)];simp
 rw[hsv] at c0;have hna:(b.num.sign*(b.den:Int)).natAbs=b.den:=by
  rw[<-hsv];unfold sv;split<;>simp
 have c1:=KU J (x:=a.num) (y:=b.num.sign*(b.den:Int)) (by rw[hna];omega);have c2:=ni J (q:=a) (by unfold aU;omega);have c3:=ni J (q:=b) (by unfold aU;omega);have c4:=m8 J (a:=a.den) (b:=b.num.natAbs);have h1:=kH a.num.natAbs b.den;have h2:=kH a.den b.num.natAbs;have c5:=DB B (z:=a.num*(b.num.sign*(b.den:Int))) (d:=a.den*b.num.natAbs) (oI (dZ a) hn1) (by rw[eU,hna];omega);have e:mkRat (a.num*(b.num.sign*(b.den:Int))) (a.den*b.num.natAbs)=a/b:=by
  have hi:b⁻¹.num=b.num.sign*(b.den:Int)/\b⁻¹.den=b.num.natAbs:=by
   show(Rat.inv b).num=_/\(Rat.inv b).den=_;unfold Rat.inv;split
   . rename_i h;rw[lH h];simp
   split
   . rename_i h;rw[jQ h];simp
   omega
  rw[A8,<-hi.1,<-hi.2,uQ]
 rw[e] at c5;repeat (first|(refine af ?_)|((first|refine⟨_,c0,?_⟩|refine⟨_,c1,?_⟩|refine⟨_,c2,?_⟩|refine⟨_,c3,?_⟩|refine⟨_,c4,?_⟩|refine⟨_,c5,?_⟩|refine xr ?_);conv=>whnf))
 rfl
def El{J:Keep}(B:Base J){a b:Rat}(ha:aU a<2^38)(hb:aU b<2^38)(hb0:b≠0):C J 48 [qr a,qr b] (.tup [qr (a/b),.int .i64 0]):=by
 refine aN Tryz.func48 rfl rfl rfl ?_;have c1:=tG J b;have hn0:b.num≠0:=fun e=>hb0 (Rat.num_eq_zero.1 e);have hc:a7 b.num 0≠0:=fun e=>hn0 (vv e);have c2:=U5 B hb0 ha hb;repeat (first|(refine af ?_)|((first|refine⟨_,c1,?_⟩|refine⟨_,c2,?_⟩);conv=>whnf)|(refine ap ?_))
 rfl
def sY:qr 0=.agg [.sl [],.bool false,.sl []]:=by
 show IV.agg [.sl ((dg 0).map u32),.bool (decide ((0:Int)<0)),.sl ((dg 0).map u32)]=_;rw[pc];rfl
def U3(J:Keep)(z:Int):C J 89 [zd z] (qr (z:Rat)):=by
 refine aN Tryz.func89 rfl rfl rfl ?_;refine aK ?_;show IV.agg [.sl ((dg z.natAbs).map u32),.bool (decide (z<0)),.sl []]=IV.agg [.sl ((dg z.natAbs).map u32),.bool (decide (z<0)),.sl ((dg 0).map u32)];rw[pc];rfl
def UZ(J:Keep){n:Int}(h1 : -9223372036854775808<=n)(h2:n<=9223372036854775807):C J 90 [.int .i64 n] (zd n):=by
 refine aN Tryz.func90 rfl rfl rfl ?_;by_cases h:n<0
 .
  have hw:IntKind.wrap .u64 (0-IntKind.wrap .u64 n)=((n.natAbs:Nat):Int):=by
   rw[Mo,Mo];omega
  have c1:=lU J (n:=n.natAbs);have c2:=ig J true n.natAbs;rw[show sv true n.natAbs=n by simp[sv];omega] at c2;repeat (first|(refine af ?_)|((first|refine⟨_,hw,?_⟩|refine⟨_,c1,?_⟩|refine⟨_,c2,?_⟩);conv=>whnf)|(refine ap ?_))
  rfl
 have c1:=lU J (n:=n.natAbs);have c2:=ig J false n.natAbs;rw[show sv false n.natAbs=n by simp[sv];omega] at c2;have hw:IntKind.wrap .u64 n=((n.natAbs:Nat):Int):=by rw[fa];omega
 repeat (first|(refine af ?_)|((first|refine⟨_,hw,?_⟩|refine⟨_,c1,?_⟩|refine⟨_,c2,?_⟩);conv=>whnf)|(refine ap ?_))
 rfl
def zR(J:Keep){n:Int}(h1 : -9223372036854775808<=n)(h2:n<=9223372036854775807):C J 44 [.int .i64 n] (qr (n:Rat)):=by
 refine aN Tryz.func44 rfl rfl rfl ?_;have c1:=UZ J h1 h2;have c2:=U3 J n;repeat (first|(refine af ?_)|((first|refine⟨_,c1,?_⟩|refine⟨_,c2,?_⟩);conv=>whnf))
 rfl
end Go.Proofs.Fl
namespace Go.Proofs.Fl
open Go.RowKit Go.Proofs.Dig
attribute [local irreducible] IntKind.wrap aW bc bj bm
def zJ{n:Nat}(h:n<1000000000000000000000000000:=by omega):ln n<=3:=mc (by
 have:B9^3=1000000000000000000000000000:=by decide
 omega)
def Kl(z:Int):aU (z:Rat)=ln z.natAbs+1:=by
 show ln z.natAbs+ln 1=_;rw[rx]
def LZ{J:Keep}(B:Base J){n d:Int}(h1 : -9223372036854775808<=n)(h2:n<=9223372036854775807)(h3 : -9223372036854775808<=d)(h4:d<=9223372036854775807)(hd:d≠0):C J 13 [.int .i64 n,.int .i64 d] (.tup [qr ((n:Rat)/(d:Rat)),.int .i64 0]):=by
 refine aN Tryz.func13 rfl rfl rfl ?_;have c1:=zR J h1 h2;have c2:=zR J h3 h4;have l1:=zJ (n:=n.natAbs);have l2:=zJ (n:=d.natAbs);have hd0:(d:Rat)≠0:=fun e=>hd (by have:=aL Rat.num e;exact this);have c3:=El B (a:=(n:Rat)) (b:=(d:Rat)) (by rw[Kl];omega) (by rw[Kl];omega) hd0;repeat (first|(refine af ?_)|((first|refine⟨_,c1,?_⟩|refine⟨_,c2,?_⟩|refine⟨_,c3,?_⟩);conv=>whnf))
 rfl
def L0(J:Keep)(q:Rat):C J 166 [qr q] (qd (q.num.natAbs:Int) q.den):=by
 refine aN Tryz.func166 rfl rfl rfl ?_;have h:C J 67 [.bool false,aQ q.num.natAbs] (zd (q.num.natAbs:Int)):=ig J false _;repeat (first|(refine af ?_)|((first|refine⟨_,h,?_⟩|refine xr ?_);conv=>whnf))
 rfl
def cw(a b:Rat):Int:=a7 (a.num*(b.den:Int)) (b.num*(a.den:Int))
def MX(z:Int):(z<0/\a7 z 0 = -1)\/(z=0/\a7 z 0=0)\/(0<z/\a7 z 0=1):=by
 unfold a7;rcases uR z 0 with h|h|h
 . left;exact⟨h,by rw[au h]⟩
 . right;left;exact⟨h,by rw[aq (by omega),aq (by omega)]⟩
 right;right;exact⟨h,by rw[aq (by omega),au h]⟩
def vj{x y:Int}(h:x<y:=by omega):a7 x y = -1:=by unfold a7;rw[au h]
def vk{x y:Int}(h:y<x:=by omega):a7 x y=1:=by unfold a7;rw[aq (by omega),au h]
def HG{x y:Int}(h:x=y):a7 x y=0:=by unfold a7;rw[aq (by omega),aq (by omega)]
def q7{J:Keep}{a b:Rat}{x y r:Int}(c1:C J 63 [qr a] (.int .i64 x))(c2:C J 63 [qr b] (.int .i64 y))(hx : -1<=x/\x<=1:=by omega)(hy : -1<=y/\y<=1:=by omega)(hxy:x≠y\/x=0:=by omega)
 (hw:IntKind.wrap .i64 ((x-y).tdiv 2)=r:=by kernel_rfl) (hr : -1<=r/\r<=1:=by omega):C J 116 [qr a,qr b] (.int .i64 (x-y-r)):=by
 refine aN Tryz.func116 rfl rfl rfl ?_;by_cases h:x≠y
 . repeat (first|(refine af ?_)|((first|refine⟨_,c1,?_⟩|refine⟨_,c2,?_⟩|refine⟨by omega,_,hw,?_⟩);conv=>whnf)|(refine ap ?_))
   rfl
 have h0:x=0:=by omega
 have h1:y=0:=by omega
 subst h0;subst h1;repeat (first|(refine af ?_)|((first|refine⟨_,c1,?_⟩|refine⟨_,c2,?_⟩|refine⟨by omega,_,hw,?_⟩);conv=>whnf)|(refine ap ?_))
 rfl
def Jw{J:Keep}{a b:Rat}{x:Int}(c1:C J 63 [qr a] (.int .i64 x))(c2:C J 63 [qr b] (.int .i64 x))(hx:x=1\/x = -1)(ha:aU a<2^38)(hb:aU b<2^38) :
 C J 116 [qr a,qr b] (.int .i64 (x*a7 ((a.num.natAbs*b.den:Nat):Int) ((b.num.natAbs*a.den:Nat):Int))):=by
 refine aN Tryz.func116 rfl rfl rfl ?_;have d1:=ni J (q:=a);have d2:=ni J (q:=b);unfold aU at ha hb;have m1:=m8 J (a:=a.num.natAbs) (b:=b.den);have m2:=m8 J (a:=b.num.natAbs) (b:=a.den);have l1:=kH a.num.natAbs b.den;have c3:=JA J (a:=a.num.natAbs*b.den) (b:=b.num.natAbs*a.den);obtain⟨k,hk⟩:∃k,a7 ((a.num.natAbs*b.den:Nat):Int) ((b.num.natAbs*a.den:Nat):Int)=k:=⟨_,rfl⟩;have hk1 : -1<=k/\k<=1:=by rw[<-hk];unfold a7;split<;>(try split)<;>omega
 rw[hk] at c3 ⊢;have hm:IntKind.wrap .i64 (x*k)=x*k:=cZ (by rcases hx with rfl|rfl<;>omega);rcases hx with rfl|rfl
 . repeat (first|(refine af ?_)|((first|refine⟨_,c1,?_⟩|refine⟨_,c2,?_⟩|refine⟨_,d1,?_⟩|refine⟨_,d2,?_⟩|refine⟨_,m1,?_⟩|refine⟨_,m2,?_⟩|refine⟨_,c3,?_⟩);conv=>whnf)|(refine ap ?_))
   rfl
 repeat (first|(refine af ?_)|((first|refine⟨_,c1,?_⟩|refine⟨_,c2,?_⟩|refine⟨_,d1,?_⟩|refine⟨_,d2,?_⟩|refine⟨_,m1,?_⟩|refine⟨_,m2,?_⟩|refine⟨_,c3,?_⟩);conv=>whnf)|(refine ap ?_))
 rfl
def L4{J:Keep}{a b:Rat}(ha:aU a<2^38)(hb:aU b<2^38):C J 116 [qr a,qr b] (.int .i64 (cw a b)):=by
 have c1:=tG J a;have c2:=tG J b;have da:(0:Int)<(a.den:Int):=by have:=dZ a;omega
 have db:(0:Int)<(b.den:Int):=by have:=dZ b;omega
 rcases MX a.num with⟨ha1,e1⟩|⟨ha1,e1⟩|⟨ha1,e1⟩<;>rcases MX b.num with⟨hb1,e2⟩|⟨hb1,e2⟩|⟨hb1,e2⟩<;>rw[e1] at c1<;>rw[e2] at c2
 .
  have e:cw a b=(-1)*a7 ((a.num.natAbs*b.den:Nat):Int) ((b.num.natAbs*a.den:Nat):Int):=by
   unfold cw;have x1:((a.num.natAbs*b.den:Nat):Int) = -(a.num*(b.den:Int)):=by
    rw[kB,show((a.num.natAbs:Nat):Int) = -a.num by omega,lG]
   have x2:((b.num.natAbs*a.den:Nat):Int) = -(b.num*(a.den:Int)):=by
    rw[kB,show((b.num.natAbs:Nat):Int) = -b.num by omega,lG]
   rw[x1,x2];unfold a7;split<;>(try split)<;>(try split)<;>(try split)<;>omega
  rw[e];exact Jw c1 c2 (by omega) ha hb
 . have e:cw a b=(-1)-0-0:=by
    unfold cw;have p1:=F2 ha1 db;rw[hb1,sD];rw[vj];rfl
   rw[e];exact q7 c1 c2
 . have e:cw a b=(-1)-1-(-1):=by
    unfold cw;have p1:=F2 ha1 db;have p2:=xE hb1 da;rw[vj];rfl
   rw[e];exact q7 c1 c2
 . have e:cw a b=0-(-1)-0:=by
    unfold cw;rw[ha1,sD];have p2:=F2 hb1 da;rw[vk];rfl
   rw[e];exact q7 c1 c2
 . have e:cw a b=0-0-0:=by
    unfold cw;rw[ha1,sD];rw[hb1,sD];rw[HG (by omega)];rfl
   rw[e];exact q7 c1 c2
 . have e:cw a b=0-1-0:=by
    unfold cw;rw[ha1,sD];have p2:=xE hb1 da;rw[vj];rfl
   rw[e];exact q7 c1 c2
 . have e:cw a b=1-(-1)-1:=by
    unfold cw;have p1:=xE ha1 db;have p2:=F2 hb1 da;rw[vk];rfl
   rw[e];exact q7 c1 c2
 . have e:cw a b=1-0-0:=by
    unfold cw;have p1:=xE ha1 db;rw[hb1,sD];rw[vk];rfl
   rw[e];exact q7 c1 c2
 have e:cw a b=1*a7 ((a.num.natAbs*b.den:Nat):Int) ((b.num.natAbs*a.den:Nat):Int):=by
  unfold cw;have x1:((a.num.natAbs*b.den:Nat):Int)=(a.num*(b.den:Int)):=by
   rw[kB,show((a.num.natAbs:Nat):Int)=a.num by omega]
  have x2:((b.num.natAbs*a.den:Nat):Int)=(b.num*(a.den:Int)):=by
   rw[kB,show((b.num.natAbs:Nat):Int)=b.num by omega]
  rw[x1,x2];unfold a7;split<;>(try split)<;>(try split)<;>(try split)<;>omega
 rw[e];exact Jw c1 c2 (by omega) ha hb
def pF(n:Int)(most:Nat):Nat:=(min n (most:Int)).toNat
def U4(J:Keep)(n:Int)(most:Nat):C J 184 [.int .i64 n,.int .i64 most] (.int .i64 (pF n most:Nat)):=by
 refine aN Tryz.func184 rfl rfl rfl ?_;have e1:(if(most:Int)<n then(most:Int) else n)=min n (most:Int):=by split<;>omega
 have e2:(if min n (most:Int)>0 then min n (most:Int) else 0)=((pF n most:Nat):Int):=by unfold pF;split<;>omega
 repeat (first|(refine af ?_)|((first|refine⟨_,e1,?_⟩|refine⟨_,e2,?_⟩);conv=>whnf))
 rfl
noncomputable abbrev sd(a b:Rat):IV:=.agg [.sl ((dg a.num.natAbs).map u32),.bool (decide (a.num<0)),.sl ((dg (a.den-1)).map u32),.sl ((dg b.num.natAbs).map u32),.bool (decide (b.num<0)),.sl ((dg (b.den-1)).map u32)]
def BY{z:Int}{d:Nat}(hd:0<d):aU (mkRat z d)<=ln z.natAbs+ln d:=by
 unfold aU;rw[qU hd,s0 hd];have h1:(sv (decide (z<0)) (z.natAbs/Nat.gcd z.natAbs d)).natAbs<=z.natAbs:=by
  have h2:=mR z.natAbs (Nat.gcd z.natAbs d);generalize z.natAbs/Nat.gcd z.natAbs d=t at h2 ⊢;unfold sv;split<;>omega
 have h2:=lP h1;have h3:=lP (mR d (Nat.gcd z.natAbs d));omega
def Kk(a b:Rat):aU (a*b)<=aU a+aU b:=by
 rw[uQ];have h:=BY (z:=a.num*b.num) (d:=a.den*b.den) (oI (dZ a) (dZ b));have h1:=kH a.num.natAbs b.num.natAbs;have h2:=kH a.den b.den;rw[eU] at h;unfold aU at *;omega
def aj(d:Nat):IV:=.int .i64 d
def kq{l:List Nat}{j:Nat}(h:j<l.length:=by omega):(l.map aj)[j]?=some (aj (l.getD j 0)):=by simp[h]
def Xr{l:List Nat}:∀y∈l.map aj,y.cells.length=1:=by
 intro y hy;obtain⟨d,_,rfl⟩:=List.mem_map.1 hy;rfl
def ER{a b:List IV}(h:a=b):SV.iv (.sl a)=SV.iv (.sl b):=by rw[h]
def Dx(J:Keep){l:List Nat}(hl:l.length<2^60):C J 202 [.sl (l.map aj)] (.sl ((l.dropWhile (· == 0)).map aj)):=by
 refine aN Tryz.func202 rfl rfl rfl ?_;refine aK ?_;refine W.loop (G:={ m:List Nat // m.dropWhile (· == 0)=l.dropWhile (· == 0)/\m.length<=l.length }) (fun m=>aF [(0,.iv (.sl (m.1.map aj)))] [] 10) (fun m=>m.1.length) ⟨l,rfl,ah _⟩
  (Wk.tab [] ⟨ab,aa⟩ trivial rfl) ?_
 rintro⟨m,hm,hml⟩;show W J _ _ (aF [(0,.iv (.sl (m.map aj)))] [] 10) _;have lm:(m.map aj).length=m.length:=by simp
 cases m with
 |nil=>
  refine aK ?_;rw[<-hm];rfl
 |cons x m=>
  have hl2:(x::m).length=m.length+1:=rfl;by_cases h0:x=0
  .
   subst h0;repeat (first|(refine af ?_)|((first|refine⟨0,aj 0,rfl,rfl,rfl,?_⟩|refine⟨.inl rfl,.inr Xr,?_⟩|refine⟨_,kU _,?_⟩);conv=>whnf)|(refine ap ?_))
   refine⟨⟨m,by rw[<-hm];simp,by omega⟩,Wk.tab [] ⟨⟨ER ?_,rfl⟩,aa⟩ trivial rfl,?_⟩
   . rw[ay (by simp)];rfl
   show m.length<(0::m).length;omega
  repeat (first|(refine af ?_)|((first|refine⟨0,aj x,rfl,rfl,rfl,?_⟩|refine⟨_,kU _,?_⟩);conv=>whnf)|(refine ap ?_))
  have e:(x::m).dropWhile (· == 0)=x::m:=by simp[h0]
  rw[<-hm,e];rfl
def UH(J:Keep)(l m:List Nat):C J 240 [.sl (l.map aj),.sl (m.map aj)] (.int .i64 (max l.length m.length:Nat)):=by
 have la:(l.map aj).length=l.length:=by simp
 have lb:(m.map aj).length=m.length:=by simp
 refine aN Tryz.func240 rfl rfl rfl ?_;by_cases h:m.length<l.length
 . refine aK ?_;rw[show max l.length m.length=(l.map aj).length by omega];rfl
 refine aK ?_;rw[show max l.length m.length=(m.map aj).length by omega];rfl
def jW(J:Keep){l:List Nat}{i:Nat}(hl:l.length<2^60:=by omega)(hi:i<2^60:=by omega):C J 241 [.sl (l.map aj),.int .i64 i] (.int .i64 (l.reverse.getD i 0:Nat)):=by
 have la:(l.map aj).length=l.length:=by simp
 refine aN Tryz.func241 rfl rfl rfl ?_;by_cases h:l.length<=i
 . refine aK ?_;have e:l.reverse.getD i 0=0:=by simp[h]
   rw[e];rfl
 repeat (first|(refine af ?_)|(refine⟨l.length-1-i,_,by omega,kq,rfl,?_⟩;conv=>whnf)|(refine ap ?_))
 have e:l.reverse.getD i 0=l.getD (l.length-1-i) 0:=by
  rw[cn,cn,A9 (by omega)]
 rw[e];rfl
end Go.Proofs.Fl
