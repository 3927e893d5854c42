/-
  A part of the proof of regionForms_card.
-/
import Derived.Test.YtaniegbleeenfaaGreatDoorF1
import Derived.RangeFuncOwn
import Derived.OrdersIn
import Derived.TacticsIn
import Derived.Test.YtaniegbleeenfaaGreatDoorProg
import Derived.KernelRfl
set_option maxHeartbeats 4000000
namespace Go.Proofs
open Go
abbrev D7:=@Bool.or_false
abbrev D8:=@Go.getD_set_ne
abbrev D9:=@Go.wpIn_skip
abbrev Ea:=@Go.wpIn_exit
abbrev Eb:=@Go.wpIn_cond_split
abbrev Ec:=@Go.wpIn_block
abbrev Ed:=@Option.toList_some
abbrev Ee:=@Array.mapM_eq_mapM_toList
abbrev Ef:=@Go.Sem.run_map
abbrev Eg:=@Nat.div_lt_self
abbrev Eh:=@Nat.mul_add_div
abbrev Ei:=@List.set_cons_succ
abbrev Ej:=@Nat.le_of_lt_succ
abbrev Ek:=@Nat.add_sub_cancel_left
abbrev El:=@Nat.mul_lt_mul_of_pos_left
abbrev Em:=@Nat.one_le_div_iff
abbrev Eo:=@Nat.gcd_zero_right
abbrev Ep:=@Nat.gcd_rec
abbrev Eq:=@Int.mul_neg
abbrev Er:=@Int.neg_mul_neg
abbrev Es:=@Rat.add_def'
abbrev Mc:=@List.getElem?_cons_succ
abbrev Md:=@List.filter_cons
abbrev Me:=@Option.bind_some
abbrev Mf:=@Array.mem_of_getElem?
abbrev Mg:=@Go.wpIn_region_any
abbrev Mh:=@Go.run_takeDeferred
abbrev Mi:=@Nat.ble_eq
abbrev Mj:=@Go.World.alloc_heap_new
abbrev Mk:=@List.getLast?_cons_cons
abbrev Ml:=@List.take_set
abbrev Mm:=@Nat.lt_or_gt_of_ne
abbrev Mn:=@List.map_set
abbrev Mo:=@Nat.mul_add_mod
abbrev Mp:=@List.getElem?_append_right
abbrev Mq:=@Nat.mul_lt_mul_of_pos_right
abbrev Mr:=@Nat.add_mul_div_left
abbrev Ms:=@Nat.sub_le
abbrev Mt:=@Rat.neg_num
abbrev Mu:=@Rat.sub_eq_add_neg
abbrev Xf:=@List.getElem?_zip_eq_some
abbrev Xg:=@Array.foldl_toList
abbrev Xh:=@Bool.false_ne_true
abbrev Xi:=@Nat.eq_of_mul_eq_mul_left
abbrev Xj:=@List.replicate_succ'
abbrev Xk:=@Int.tmod_eq_emod_of_nonneg
abbrev Xl:=@Int.tdiv_eq_ediv_of_nonneg
abbrev Xm:=@List.drop_append_of_le_length
abbrev Xn:=@Nat.mul_div_cancel
abbrev Xo:=@Nat.gcd_pos_of_pos_right
abbrev aV:=@List.getD_eq_getElem?_getD
abbrev bQ:=@Nat.pow_succ
abbrev bR:=@Nat.mul_add
abbrev bu:=@decide_eq_true
abbrev bv:=@List.not_mem_nil
abbrev bz:=@decide_eq_false
abbrev cB:=@Nat.pow_le_pow_right
abbrev cR:=@Nat.blt_eq
abbrev cT:=@List.length_map
abbrev ch:=@List.map_append
abbrev cl:=@Go.World.putObj_heap_other
abbrev cz:=@Nat.mul_comm
abbrev dI:=@Nat.mul_assoc
abbrev ed:=@List.all_cons
abbrev ef:=@Int.natAbs_natCast
abbrev fH:=@Nat.pow_pos
abbrev ff:=@Nat.mul_le_mul
abbrev fg:=@Int.natAbs_mul
abbrev g9:=@Nat.lt_of_le_of_lt
abbrev gK:=@Nat.lt_of_lt_of_le
abbrev gh:=@Nat.mod_lt
abbrev hG:=@Nat.pow_add
abbrev iy:=@Nat.lt_trans
abbrev jd:=@Array.getElem?_append
abbrev je:=@List.take_succ_eq_append_getElem
abbrev jf:=@Nat.mul_zero
abbrev k9:=@List.take_add_one
abbrev kq:=@List.all_eq_true
abbrev kr:=@Ne.symm
abbrev ks:=@List.take_append_drop
abbrev kt:=@Nat.le_of_lt
abbrev ku:=@List.nil_append
abbrev ky:=@Int.neg_mul
abbrev lc:=@Nat.div_eq_of_lt
abbrev ld:=@Nat.mul_pos
abbrev li:=@Nat.div_le_self
abbrev mB:=@of_decide_eq_true
abbrev mC:=@Nat.div_lt_iff_lt_mul
abbrev mD:=@Int.sign_eq_neg_one_of_neg
abbrev mE:=@Int.sign_eq_one_of_pos
abbrev nF:=@Nat.div_add_mod
abbrev nG:=@List.length_singleton
abbrev nH:=@Nat.div_one
abbrev oU:=@List.reverse_reverse
abbrev oV:=@List.length_filter_le
abbrev oW:=@of_decide_eq_false
abbrev oX:=@Nat.pow_zero
abbrev qT:=@Nat.pow_one
abbrev qU:=@Nat.gcd_comm
abbrev tg:=@Array.getElem?_eq_none
abbrev th:=@List.take_zero
abbrev tj:=@Nat.div_mul_le_self
abbrev vA:=@Go.wpIn_region_list
abbrev vB:=@Go.callsIn_of_wp_marks
abbrev vC:=@dif_neg
abbrev vE:=@Array.getElem?_replicate
abbrev vF:=@Go.World.putObj_heap_same
abbrev vG:=@Nat.add_sub_cancel
abbrev vH:=@List.map_replicate
abbrev vI:=@List.getD_cons_succ
abbrev vJ:=@Nat.mul_left_comm
abbrev vK:=@beq_iff_eq
abbrev vL:=@Rat.mul_def'
abbrev vw:=@Go.callsIn_wide
abbrev vx:=@List.pairwise_lt_range
abbrev vz:=@List.foldl_append
abbrev zA:=@Nat.le_div_iff_mul_le
abbrev zB:=@List.length_replicate
abbrev zC:=@Nat.pow_mul
abbrev zD:=@Nat.pow_le_pow_left
abbrev zF:=@Nat.pos_of_ne_zero
abbrev zG:=@Int.natAbs_add_le
abbrev zH:=@Int.natAbs_neg
abbrev zI:=@Rat.div_def
abbrev zt:=@Go.wpIn_seq
abbrev zu:=@List.mapM_cons
abbrev zx:=@Nat.add_mul_mod_self_left
abbrev zy:=@Nat.le_mul_of_pos_right
end Go.Proofs
namespace Go.Proofs.Fl
open Go.RowKit
def oD(all:Array Oper)(tm:Nat->SV)(o:Oper):Option Bool :=
 match o.guard with
 |none=>some true
 |some (j,want)=>match(all[j]?).bind (·.dst) with
  |none=>some false
  |some t=>match tm t with
   | .iv (.bool b)=>some (b==want)
   | .und=>some false
   |_=>none
section
variable (T:TypeId->Option TY)(Φ:Ctr)
def Fact(all:Array Oper)(o:Oper)(g:Nat)(tm:Nat->SV)(bx:Nat->Option Bx)(l:Lg):Prop :=
 (oD all tm o=some true/\kT T Φ o (evS tm) bx g (Is l.r l.e))\/(oD all tm o=some false/\l.r=.und/\l.e = {})
def fx(all:Array Oper):List Oper->Nat->(Nat->SV)->(Nat->Option Bx)->List Lg->((Nat->SV)->(Nat->Option Bx)->List Lg->Prop)->Prop
 | [],_,tm,bx,log,K=>K tm bx log
 |o::os,g,tm,bx,log,K=>match oD all tm o with
  |some true=>kT T Φ o (evS tm) bx g (fun r e=>fx all os (g+1) (dX tm o.dst r) (fV (bG bx e.fz) e.wr) (⟨r,e⟩::log) K)
  |some false=>fx all os (g+1) (dX tm o.dst .und) bx (⟨.und,{}⟩::log) K
  |none=>False
variable {T}{Φ}
theorem Om{all:Array Oper}{K:(Nat->SV)->(Nat->Option Bx)->List Lg->Prop}:∀{os:List Oper} {g:Nat} {tm:Nat->SV} {bx:Nat->Option Bx} {log:List Lg},fx T Φ all os g tm bx log K->
 ∃recs:List Lg,recs.length=os.length/\
  (∀k o l,os[k]?=some o->recs[k]?=some l->Fact T Φ all o (g+k) (((os.zip recs).take k).foldl (fun tm p=>dX tm p.1.dst p.2.r) tm) (((os.zip recs).take k).foldl (fun bx p=>fV (bG bx p.2.e.fz) p.2.e.wr) bx) l)/\
  K ((os.zip recs).foldl (fun tm p=>dX tm p.1.dst p.2.r) tm) ((os.zip recs).foldl (fun bx p=>fV (bG bx p.2.e.fz) p.2.e.wr) bx) (recs.reverse++log):=by
 intro os;induction os with
 |nil=>intro g tm bx log h;exact⟨[],rfl,fun k o l hk=>by simp at hk,h⟩
 |cons o os ih=>
  intro g tm bx log h;unfold fx at h;have key:∃l:Lg,Fact T Φ all o g tm bx l/\fx T Φ all os (g+1) (dX tm o.dst l.r) (fV (bG bx l.e.fz) l.e.wr) (l::log) K:=by
   split at h
   . rename_i hy;obtain⟨r,e,h1,h2⟩:=A7 h;exact⟨⟨r,e⟩,.inl ⟨hy,h1⟩,h2⟩
   . rename_i hy;exact⟨⟨.und,{}⟩,.inr ⟨hy,rfl,rfl⟩,h⟩
   . exact h.elim
  obtain⟨l,hf,h'⟩:=key;obtain⟨recs,e1,e2,e3⟩:=ih h';refine⟨l::recs,by simp[e1],?_,by simpa using e3⟩;intro k o' l' hk hl;cases k with
  |zero=>simp at hk hl;subst hk;subst hl;simpa using hf
  |succ k=>
   simp only[Mc] at hk hl;have:=e2 k o' l' hk hl;rw[show g+1+k=g+(k+1) by omega] at this;simpa using this
end
def gO(o:Oper):List Nat:=o.after.toList.filterMap fun e=>bif Region.binds .any e then some e.on else none
def uu(tab:List Nat)(es:List Nat):Nat:=es.foldl (fun m e=>m ||| (1 <<< e ||| tab.getD e 0)) 0
def jZ(ops:List Oper):List Nat:=ops.foldl (fun tab o=>tab ++ [uu tab (gO o)]) []
def fq(all:Array Oper)(o:Oper):List Nat :=
 match o.guard with
 |some (j,_)=>match(all[j]?).bind (·.dst) with
  |some t=>t::(o.op.operands.toList.filterMap fun | .tmp t=>some t|_=>none)
  |none=>o.op.operands.toList.filterMap fun | .tmp t=>some t|_=>none
 |none=>o.op.operands.toList.filterMap fun | .tmp t=>some t|_=>none
def pB(ops:List Oper)(k:Nat):List (Nat×Nat) :=
 match ops with
 | []=>[]
 |o::os=>match o.dst with
  |some d=>(d,k)::pB os (k+1)
  |none=>pB os (k+1)
def uniq:List (Nat×Nat)->Bool
 | []=>true
 |p::l=>l.all (fun q=>!Nat.beq p.1 q.1)&&uniq l
def dt(tab:List Nat)(i j:Nat):Bool:=Nat.beq i j||((tab.getD i 0).testBit j||(tab.getD j 0).testBit i)
def wO(all:Array Oper)(tab:List Nat)(ws:List (Nat×Nat)):List Oper->Nat->Bool
 | [],_=>true
 |o::os,i=>(Nat.beq (tab.getD i 0) (uu tab (gO o))&&(gO o).all fun e=>Nat.blt e i) &&
  ((fq all o).all (fun t=>ws.all fun p=>!Nat.beq p.1 t||dt tab i p.2)&&wO all tab ws os (i+1))
def n7(all:Array Oper)(tab:List Nat):Bool:=uniq (pB all.toList 0)&&wO all tab (pB all.toList 0) all.toList 0
def xv(tab:List Nat)(i:Nat)(x:Eff):List Lg->Nat->Bool
 | [],_=>true
 |l::ls,j=>(dt tab i j || !kM x l.e)&&xv tab i x ls (j+1)
def wV(tab:List Nat)(all:List Lg):List Lg->Nat->Bool
 | [],_=>true
 |l::ls,i=>(match l.e.wr with
  | []=>true
  |_=>xv tab i l.e all 0)&&wV tab all ls (i+1)
def UU(tab:List Nat)(log:List Lg):Bool:=wV tab log log 0
theorem FU{tab:List Nat}{a:Nat}:∀{es:List Nat} {m:Nat},(es.foldl (fun m e=>m ||| (1 <<< e ||| tab.getD e 0)) m).testBit a=true->m.testBit a=true\/∃e∈es,e=a\/(tab.getD e 0).testBit a=true
 | [],m,h=>.inl h
 |e::es,m,h=>by
  rw[iw] at h;rcases FU h with h|⟨e',h1,h2⟩
  . rw[Nat.testBit_or,Nat.testBit_or] at h;cases hm:m.testBit a with
    |true=>exact .inl rfl
    |false=>
     right;refine⟨e,by simp,?_⟩;cases h1:(tab.getD e 0).testBit a with
     |true=>exact .inr rfl
     |false=>
      left;rw[hm,h1] at h;simp only[Nat.one_shiftLeft,Nat.testBit_two_pow,vo,D7,d9] at h;exact h
  . exact .inr ⟨e',by simp[h1],h2⟩
theorem Fh{tab es:List Nat}{a:Nat}(h:(uu tab es).testBit a=true):∃e∈es,e=a\/(tab.getD e 0).testBit a=true:=by
 rcases FU h with h|h
 . simp at h
 . exact h
structure Flow(all:Array Oper)(tab:List Nat):Prop where
 edge:∀(i:Nat) (o:Oper),all[i]?=some o->∀e∈gO o,e<i
 mask:∀(i:Nat) (o:Oper),all[i]?=some o->tab.getD i 0=uu tab (gO o)
 uniq:∀(i j:Nat) (o o':Oper) (d:Nat),all[i]?=some o->all[j]?=some o'->o.dst=some d->o'.dst=some d->i=j
 looks:∀(i:Nat) (o:Oper),all[i]?=some o->∀t∈fq all o,∀(j:Nat) (o':Oper),all[j]?=some o'->o'.dst=some t->dt tab i j=true
theorem NP{ops:List Oper}:∀{k j:Nat} {o:Oper} {d:Nat},ops[j]?=some o->o.dst=some d->(d,k+j)∈pB ops k:=by
 induction ops with
 |nil=>intro k j o d h;simp at h
 |cons p l ih=>
  intro k j o d h hd;unfold pB;cases j with
  |zero=>simp at h;subst h;simp[hd]
  |succ j=>
   have:=ih (k:=k+1) (by simpa using h) hd;rw[show k+1+j=k+(j+1) by omega] at this;split<;>simp[this]
theorem As:∀{l:List (Nat×Nat)},uniq l=true->∀p∈l,∀q∈l,p.1=q.1->p=q
 | [],_,p,hp=>by simp at hp
 |x::l,h,p,hp=>by
  simp only[uniq,aC,kq,eF] at h;intro q hq e;rcases List.mem_cons.1 hp with hp|hp
  . rcases List.mem_cons.1 hq with hq|hq
    . rw[hp,hq]
    . have:=h.1 q hq;rw[<-hp,e,bj] at this;cases this
  . rcases List.mem_cons.1 hq with hq|hq
    . have:=h.1 p hp;rw[<-hq,<-e,bj] at this;cases this
    . exact As h.2 p hp q hq e
theorem EU{all:Array Oper}{tab:List Nat}{ws:List (Nat×Nat)}:∀{os:List Oper} {k:Nat},wO all tab ws os k=true->∀i o,os[i]?=some o->
 (∀e∈gO o,e<k+i)/\tab.getD (k+i) 0=uu tab (gO o)/\∀t∈fq all o,∀p∈ws,p.1=t->dt tab (k+i) p.2=true
 | [],_,_,i,o,h=>by simp at h
 |o'::os,k,h,i,o,ho=>by
  simp only[wO,aC] at h;obtain⟨⟨h1,h2⟩,h3,h4⟩:=h;cases i with
  |zero=>
   simp at ho;subst ho;refine⟨fun e he=>?_,aw h1,fun t ht p hp e=>?_⟩
   . have:=List.all_eq_true.1 h2 e he;simp[cR] at this;omega
   . have:=List.all_eq_true.1 (List.all_eq_true.1 h3 t ht) p hp;rw[e,bj] at this;simpa using this
  |succ i=>
   have:=EU h4 i o (by simpa using ho);rw[show k+1+i=k+(i+1) by omega] at this;exact this
theorem B5{all:Array Oper}{tab:List Nat}(h:n7 all tab=true):Flow all tab:=by
 simp only[n7,aC] at h;have sp:=fun i o (ho:all[i]?=some o)=>EU h.2 i o (by simpa using ho);simp only[aX] at sp;have wm:∀{j:Nat} {o:Oper} {d:Nat},all[j]?=some o->o.dst=some d->(d,j)∈pB all.toList 0:=fun{j o d} ho hd=>by
  have:=NP (k:=0) (ops:=all.toList) (j:=j) (o:=o) (d:=d) (by simpa using ho) hd;rwa[aX] at this
 refine⟨fun i o ho=>(sp i o ho).1,fun i o ho=>(sp i o ho).2.1,fun i j o o' d h1 h2 h3 h4=>?_,fun i o ho t ht j o' h1 h2=>(sp i o ho).2.2 t ht _ (wm h1 h2) rfl⟩;have:=As h.1 _ (wm h1 h3) _ (wm h2 h4) rfl;exact(Prod.mk.inj this).2
theorem E8{tab:List Nat}{i:Nat}{x:Eff}:∀{ls:List Lg} {k:Nat},xv tab i x ls k=true->∀j l,ls[j]?=some l->dt tab i (k+j)=true\/kM x l.e=false
 | [],_,_,j,l,h=>by simp at h
 |l'::ls,k,h,j,l,hl=>by
  simp only[xv,aC,fO,eF] at h;cases j with
  |zero=>simp at hl;subst hl;exact h.1
  |succ j=>
   have:=E8 h.2 j l (by simpa using hl);rwa[show k+1+j=k+(j+1) by omega] at this
theorem EZ{tab:List Nat}{all:List Lg}:∀{ls:List Lg} {k:Nat},wV tab all ls k=true->∀i x,ls[i]?=some x->∀j l,all[j]?=some l->dt tab (k+i) j=true\/kM x.e l.e=false
 | [],_,_,i,x,h=>by simp at h
 |l'::ls,k,h,i,x,hx=>by
  simp only[wV,aC] at h;intro j l hl;cases i with
  |zero=>
   simp at hx;subst hx;have h1:=h.1;split at h1
   . rename_i hw;exact .inr (by simp[kM,hw])
   . simpa using E8 h1 j l hl
  |succ i=>
   have:=EZ h.2 i x (by simpa using hx) j l hl;rwa[show k+1+i=k+(i+1) by omega] at this
theorem AE{tab:List Nat}{i j:Nat}:dt tab i j=dt tab j i:=by
 unfold dt;have:Nat.beq i j=Nat.beq j i:=by
  cases h:Nat.beq i j with
  |true=>rw[aw h,bj]
  |false=>
   cases h2:Nat.beq j i with
   |false=>rfl
   |true=>rw[aw h2,bj] at h;cases h
 rw[this,Bool.or_comm ((tab.getD i 0).testBit j)]
theorem AQ{p p':Nat->Bool}{i:Nat}(h1:p i=true)(h2:p' i=false)(h3:∀j,p' j=true->p j=true):∀{l:List Nat},i∈l->(l.filter p').length<(l.filter p).length
 | [],h=>by simp at h
 |j::l,h=>by
  have hle:∀l:List Nat,(l.filter p').length<=(l.filter p).length:=by
   intro l;induction l with
   |nil=>simp
   |cons k l ih=>
    simp only[Md];cases hp':p' k with
    |true=>simp[h3 k hp'];exact ih
    |false=>
     cases p k
     . simpa using ih
     . simp;omega
  by_cases hji:j=i
  . subst hji;simp only[Md,h1,h2,bD];have:=hle l;simp;omega
  . have hm:i∈l:=by
     rcases List.mem_cons.1 h with e|e
     . exact absurd e.symm hji
     . exact e
    have:=AQ h1 h2 h3 hm;simp only[Md];cases hp':p' j with
    |true=>simp[h3 j hp'];exact this
    |false=>
     cases p j
     . simpa using this
     . simp;omega
section
variable {all:Array Oper}{tab:List Nat}{S:Nat->Bool}
theorem Flow.anc_lt(hf:Flow all tab):∀(i:Nat) (o:Oper),all[i]?=some o->∀a,(tab.getD i 0).testBit a=true->a<i:=by
 intro i;induction i using Nat.strongRecOn with
 |_ i ih=>
  intro o ho a ha;rw[hf.mask i o ho] at ha;obtain⟨e,he,h⟩:=Fh ha;have hlt:=hf.edge i o ho e he;rcases h with rfl|h
  . exact hlt
  . have hsz:e<all.size:=iy hlt (Array.getElem?_eq_some_iff.1 ho).1;have:=ih e hlt all[e] (by simp[hsz]) a h;omega
def yg(all:Array Oper)(S:Nat->Bool):Prop:=∀j o,all[j]?=some o->S j=true->∀e∈gO o,S e=true
theorem Flow.anc_in(hf:Flow all tab)(hc:yg all S):∀(i:Nat) (o:Oper),all[i]?=some o->(∀e∈gO o,S e=true)->∀a,(tab.getD i 0).testBit a=true->S a=true:=by
 intro i;induction i using Nat.strongRecOn with
 |_ i ih=>
  intro o ho he0 a ha;rw[hf.mask i o ho] at ha;obtain⟨e,he,h⟩:=Fh ha;have hlt:=hf.edge i o ho e he;rcases h with rfl|h
  . exact he0 e he
  . have hsz:e<all.size:=iy hlt (Array.getElem?_eq_some_iff.1 ho).1;have hg:all[e]?=some all[e]:=by simp[hsz]
    exact ih e hlt all[e] hg (hc e _ hg (he0 e he)) a h
theorem Flow.near_same(hf:Flow all tab)(hc:yg all S){i j:Nat}{o o':Oper}(hi:all[i]?=some o)(hj:all[j]?=some o')(hr:∀e∈gO o,S e=true)(hS:S i=false)(hn:dt tab i j=true):decide (j<i)=S j:=by
 simp only[dt,fO] at hn;rcases hn with h|h|h
 . have:=aw h;subst this;rw[hS];simp
 . rw[hf.anc_in hc i o hi hr j h];simpa using hf.anc_lt i o hi j h
 . have h1:=hf.anc_lt j o' hj i h;cases hSj:S j with
   |true=>
    have:=hf.anc_in hc j o' hj (hc j o' hj hSj) i h;rw[hS] at this;cases this
   |false=>simpa using by omega
end
section
variable {T:TypeId->Option TY}{Φ:Ctr}{all:Array Oper}{o:Oper}{g:Nat}{tm tm':Nat->SV}{bx bx':Nat->Option Bx}{l:Lg}
theorem Px{x:Operand}{t:Nat}(hx:x∈o.op.operands)(e:x=.tmp t):t∈fq all o:=by
 have h:t∈o.op.operands.toList.filterMap fun | .tmp t=>some t|_=>none:=List.mem_filterMap.2 ⟨x,by simpa using hx,by subst e;rfl⟩;unfold fq;split
 . split
   . exact dx _ h
   . exact h
 . exact h
theorem Fact.foot(h:Fact T Φ all o g tm bx l)(ht:∀t∈fq all o,tm' t=tm t)(hb:∀id∈l.e.rd,eqF (bx id) (bx' id))(hw:∀p∈l.e.wr,bx' p.1=bx p.1):Fact T Φ all o g tm' bx' l:=by
 have hy:oD all tm' o=oD all tm o:=by
  unfold oD;split
  . rfl
  . rename_i j want hg;split
    . rfl
    . rename_i t hd;have:tm' t=tm t:=ht t (by unfold fq;simp only[hg,hd];simp);rw[this]
 unfold Fact at *;rw[hy];rcases h with⟨h1,h2⟩|h
 . refine .inl ⟨h1,Qw h2 (fun x hx=>?_) hb hw⟩;cases x with
   |tmp t=>exact ht t (Px hx rfl)
   |_=>rfl
 . exact .inr h
theorem F8{E:Env}{nt:Nat}{H:ah}{U:Nat->Nat×Nat}{a:Act}{w:World}(h:St E nt H U tm bx a w){c:Bool}(hy:oD all tm o=some c):Region.wanted o (yielded all a.tmps)=c:=by
 unfold oD at hy;unfold Region.wanted;split at hy
 . rename_i hg;simp only[hg];simpa using hy
 . rename_i j want hg;simp only[hg];split at hy
   . rename_i hd;simp only[yielded,hd,Option.bind_none];simpa using hy
   . rename_i t hd;simp only[yielded,hd,Me];have hs:=h.sim.slot t;split at hy
     . rename_i b ht;rw[ht] at hs;have e:=nQ hs;cases hx:a.tmps[t]? with
       |none=>simp[hx,undef] at e
       |some u=>simp[hx] at e;subst e;simpa using hy
     . rename_i ht;rw[ht] at hs;change a.tmps.getD t undef=undef at hs;cases hx:a.tmps[t]? with
       |none=>simpa using hy
       |some u=>simp[hx] at hs;subst hs;simpa[undef] using hy
     . cases hy
end
section
variable {P:Program}{I:World->Prop}{T:TypeId->Option TY}{Φ:Ctr}{E:Env}{nt:Nat}{Q:Exit->Act->World->Prop}
def cn(nt:Nat)(l:List Oper):Bool:=l.all fun o=>match o.dst with
 |some d=>Nat.blt d nt
 |none=>true
theorem nJ{l:List Oper}(h:cn nt l=true){o:Oper}(ho:o∈l):∀d,o.dst=some d->d<nt:=fun d hd=>by
 have:=List.all_eq_true.1 h o ho;simp only[hd,cR] at this;exact this
def FW(ro:Option Nat):Fence:={ Fence.wide with round:=ro }
theorem Kt{P:Program}{ro:Option Nat}{n:Nat}{f:FuncId}{args:Array Value}{w:World}{R:Ending->World->Prop}(h:Calls P f args w R):CallsIn (FW ro) n P f args w R :=
 vw (n:=n) |>.2 h
theorem Vx{P:Program}{ro:Option Nat}{n:Nat}{row:String}{args:Array Value}{w:World}{R:Value->World->Prop}(h:Rows P row args w R):RowsIn (FW ro) n P row args w R :=
 fun c cs _=>let ⟨v,w',r,s⟩:=h c cs;⟨v,w',r,(stepsIn_wide (P:=P)).2 s⟩
theorem sf{P:Program}{ro:Option Nat}{o:Oper}{a:Act}{w:World}{K:Act->World->Prop}{Q:Exit->Act->World->Prop}(hnd:∀c,o.op≠ .defer c)(h:o.wp P a w K Q):o.wpIn (FW ro) 0 P a w K Q:=by
 refine⟨fun _ _=>trivial,?_⟩;rw[show(FW ro).round=ro from rfl,Oper.semAt_eq ro a.eval o hnd];unfold Oper.wp at h;generalize (execOp a.eval o).run P w=r at *;cases r with
 |ok x w'=>
  cases x<;>simp only[Oper.upon,Oper.uponIn] at h ⊢ <;>
   first
    |exact h
    |exact⟨fun e=>(by cases e),Kt h⟩
    |exact⟨fun e=>(by cases e),Vx h⟩
 |halt x w'=>cases x<;>simp only[Oper.upon,Oper.uponIn] at h ⊢ <;> exact h
theorem AR{ro:Option Nat}(hT:bZ P T)(hΦ:CtrOk P I Φ)(hIE:∀w,BelowO E.own E.w0 w->I w){all:Array Oper}{o:Oper}(hd:∀d,o.dst=some d->d<nt){H:ah}{U:Nat->Nat×Nat}{tm:Nat->SV}{bx:Nat->Option Bx}{a:Act}{w:World}{g:Nat}{l:Lg}(h:St E nt H U tm bx a w)(hf:Fact T Φ all o g tm bx l)
 {K:Act->World->Prop} (hK:∀H U a w,St E nt H U (dX tm o.dst l.r) (fV (bG bx l.e.fz) l.e.wr) a w->K a w) :
 if Region.wanted o (yielded all a.tmps) then o.wpIn (FW ro) 0 P a w K Q else(∀f,o.about P w a.eval=some f->(FW ro).fn f)/\K (a.put o.dst undef) w:=by
 rcases hf with⟨hy,hop⟩|⟨hy,hr,he⟩
 . rw[F8 h hy];simp only[bD];refine sf (fun c hc=>?_) (Oper.wp_mono (fun a w hp=>?_) (UL hT hΦ (fun w' hw'=>hIE w' (h.sim.below.trans (hw'))) h hd hop))
   . unfold kT at hop;rw[hc] at hop;exact hop.elim
   obtain⟨r,e,H,U,⟨rfl,rfl⟩,hS⟩:=hp;exact hK _ _ _ _ hS
 . rw[F8 h hy];simp only[cM,bE];rw[hr,he] at hK;exact⟨fun _ _=>trivial,hK H U _ w (h.put hd (r:=.und) rfl)⟩
theorem Sim.drawn{H:ah}{U:Nat->Nat×Nat}{tm:Nat->SV}{bx:Nat->Option Bx}{a:Act}{w:World}(h:St E nt H U tm bx a w):St E nt H U tm bx a { w with drawn:=w.drawn+1 } :=
 ⟨h.sim.same rfl rfl rfl rfl,h.defers,h.size⟩
theorem SU{ro:Option Nat}(hT:bZ P T)(hΦ:CtrOk P I Φ)(hIE:∀w,BelowO E.own E.w0 w->I w){all:Array Oper}{K:(Nat->SV)->(Nat->Option Bx)->List Lg->Prop}(hK:∀H U tm bx log a w,K tm bx log->St E nt H U tm bx a w->Q .normal a w) :
 ∀{os:List Oper} {g:Nat} {tm:Nat->SV} {bx:Nat->Option Bx} {log:List Lg} {H:ah} {U:Nat->Nat×Nat} {a:Act} {w:World},cn nt os=true->St E nt H U tm bx a w->fx T Φ all os g tm bx log K->wpListIn (FW ro) 0 P all Q os a w:=by
 intro os;induction os with
 |nil=>intro g tm bx log H U a w _ h ho;exact hK _ _ _ _ _ _ _ ho h
 |cons o os ih=>
  intro g tm bx log H U a w hd h ho;have hd':cn nt os=true:=by
   simp only[cn,ed,aC] at hd;exact hd.2
  have key:∃l:Lg,Fact T Φ all o g tm bx l/\fx T Φ all os (g+1) (dX tm o.dst l.r) (fV (bG bx l.e.fz) l.e.wr) (l::log) K:=by
   unfold fx at ho;split at ho
   . rename_i hy;obtain⟨r,e,h1,h2⟩:=A7 ho;exact⟨⟨r,e⟩,.inl ⟨hy,h1⟩,h2⟩
   . rename_i hy;exact⟨⟨.und,{}⟩,.inr ⟨hy,rfl,rfl⟩,ho⟩
   . exact ho.elim
  obtain⟨l,hf,h'⟩:=key;unfold wpListIn;exact AR hT hΦ hIE (nJ hd (by simp)) h hf fun H U a w hS=>ih hd' hS h'
theorem Vj{ro:Option Nat}(hT:bZ P T)(hΦ:CtrOk P I Φ)(hIE:∀w,BelowO E.own E.w0 w->I w){all:Array Oper}{tab:List Nat}(hd:cn nt all.toList=true)(hf:Flow all tab){g:Nat}{tm:Nat->SV}{bx:Nat->Option Bx}{D:Nat->Option Nat}(hD:∀i o,all[i]?=some o->D i=o.dst)(L:Nat->Lg)
 (hfact:∀i o,all[i]?=some o->Fact T Φ all o (g+i) (fun t=>dD D L (fun j=>decide (j<i)) t (List.range all.size) (tm t)) (fun id=>cc L (fun j=>decide (j<i)) id (List.range all.size) (bx id)) (L i))
 (hconf:∀i j,i<all.size->j<all.size->dt tab i j=true\/kM (L i).e (L j).e=false)
 (hQ:∀H U a w,St E nt H U (fun t=>dD D L (fun _=>true) t (List.range all.size) (tm t)) (fun id=>cc L (fun _=>true) id (List.range all.size) (bx id)) a w->Q .normal a w) :
 ∀(fuel:Nat) (listed:Array Bool) (S:Nat->Bool) (H:ah) (U:Nat->Nat×Nat) (a:Act) (w:World),(∀j,j<all.size->listed.getD j true=S j/\listed.getD j false=S j)->((List.range all.size).filter fun j=>!S j).length<=fuel->yg all S->
  St E nt H U (fun t=>dD D L S t (List.range all.size) (tm t)) (fun id=>cc L S id (List.range all.size) (bx id)) a w->wpAnyIn (FW ro) 0 P .any all Q fuel listed a w:=by
 have lt:∀{j o},all[j]?=some o->j<all.size:=fun h=>(Array.getElem?_eq_some_iff.1 h).1;have edge_iff:∀{o:Oper} {p:Nat->Prop},(∀e∈o.after,Region.binds .any e=true->p e.on)↔∀e∈gO o,p e:=by
  intro o p;unfold gO;constructor
  . intro h e he;obtain⟨x,hx,e'⟩:=List.mem_filterMap.1 he;cases hb:Region.binds .any x with
    |true=>simp[hb] at e';subst e';exact h x (by simpa using hx) hb
    |false=>simp[hb] at e'
  . intro h x hx hb;exact h _ (List.mem_filterMap.2 ⟨x,by simpa using hx,by simp[hb]⟩)
 have done:∀{listed:Array Bool} {S:Nat->Bool},(∀j,j<all.size->listed.getD j true=S j/\listed.getD j false=S j)->Region.ready .any all listed=[]->∀j,j<all.size->S j=true:=by
  intro listed S hl hr j;induction j using Nat.strongRecOn with
  |_ j ih=>
   intro hj;cases hS:S j with
   |true=>rfl
   |false=>
    have hg:all[j]?=some all[j]:=by simp[hj]
    have:j∈Region.ready .any all listed:=mem_ready.2 ⟨by rw[(hl j hj).1,hS],all[j],hg,(edge_iff (p:=fun e=>listed.getD e false=true)).2 fun e he=>by
     have:=hf.edge j _ hg e he;rw[(hl e (by omega)).2];exact ih e this (by omega)⟩
    rw[hr] at this;simp at this
 have fin:∀{S:Nat->Bool} {H:ah} {U:Nat->Nat×Nat} {a:Act} {w:World},(∀j,j<all.size->S j=true)->St E nt H U (fun t=>dD D L S t (List.range all.size) (tm t)) (fun id=>cc L S id (List.range all.size) (bx id)) a w->Q .normal a w:=by
  intro S H U a w hS h;refine hQ H U a w ?_;have e1:(fun t=>dD D L S t (List.range all.size) (tm t))=(fun t=>dD D L (fun _=>true) t (List.range all.size) (tm t)):=funext fun t=>tR fun i hi _=>hS i (List.mem_range.1 hi);have e2:(fun id=>cc L S id (List.range all.size) (bx id))=(fun id=>cc L (fun _=>true) id (List.range all.size) (bx id)):=funext fun id=>tW fun i hi hne=>absurd (hS i (List.mem_range.1 hi)) hne;rw[<-e1,<-e2];exact h
 intro fuel;induction fuel with
 |zero=>
  intro listed S H U a w hl hn hc h;have hS:∀j,j<all.size->S j=true:=fun j hj=>by
   have h0:(List.range all.size).filter (fun j=>!S j)=[]:=vv (by omega);have:=List.filter_eq_nil_iff.1 h0 j (List.mem_range.2 hj);simpa using this
  refine⟨?_,fin hS h⟩;cases hr:Region.ready .any all listed with
  |nil=>rfl
  |cons i is=>
   have hi:i∈Region.ready .any all listed:=by rw[hr];simp
   obtain⟨h0,o,ho,_⟩:=mem_ready.1 hi;rw[(hl i (lt ho)).1,hS i (lt ho)] at h0;cases h0
 |succ fuel ih=>
  intro listed S H U a w hl hn hc h;refine⟨fun hr=>fin (done hl hr) h,fun i hi=>?_⟩;obtain⟨h0,o,ho,hall⟩:=mem_ready.1 hi;have hilt:=lt ho;have hSi:S i=false:=by rw[<-(hl i hilt).1];exact h0
  have hre:∀e∈gO o,S e=true:=fun e he=>by
   have:=hf.edge i o ho e he;rw[<-(hl e (by omega)).2];exact(edge_iff (p:=fun e=>listed.getD e false=true)).1 hall e he
  have same:∀j,j<all.size->dt tab i j=true->decide (j<i)=S j:=fun j hj hn=>hf.near_same hc ho (show all[j]?=some all[j] by simp[hj]) hre hSi hn;have hfa:Fact T Φ all o (g+i) (fun t=>dD D L S t (List.range all.size) (tm t)) (fun id=>cc L S id (List.range all.size) (bx id)) (L i):=by
   refine(hfact i o ho).foot (fun t ht=>?_) (fun id hid=>?_) (fun p hp=>?_)
   . refine(tR fun j hj hdj=>?_).symm;have hj:=List.mem_range.1 hj;have hg:all[j]?=some all[j]:=by simp[hj]
     exact same j hj (hf.looks i o ho t ht j _ hg (by rw[<-hD j _ hg];exact hdj))
   . refine JC (fun j hj hne=>?_) (eqF.refl _);have hj:=List.mem_range.1 hj;rcases hconf j i hj hilt with hn|hm
     . rw[AE] at hn;exact absurd (same j hj hn) hne
     . exact Py hm (.inl hid)
   . refine(tW fun j hj hne=>?_).symm;have hj:=List.mem_range.1 hj;rcases hconf i j hilt hj with hn|hm
     . exact absurd (same j hj hn) hne
     . exact(wi hm hp).1
  unfold wpOpIn;simp only[ho];refine AR hT hΦ hIE (nJ hd (by simpa using Mf ho)) h hfa fun H U a w hS=>?_;refine ih _ (fun j=>S j||Nat.beq j i) H U a w (fun j hj=>?_) ?_ ?_ ?_
  . by_cases hji:j=i
    . subst hji;have hsz:j<listed.size:=by
       rcases eS j listed.size with h'|h'
       . exact h'
       . simp[tg h'] at h0
      simp[hsz,bj]
    . have hb:Nat.beq j i=false:=by
       cases hb:Nat.beq j i
       . rfl
       . exact absurd (aw hb) hji
      rw[D8 true (kr hji),D8 false (kr hji),hb,D7];exact hl j hj
  . have:=AQ (p:=fun j=>!S j) (p':=fun j=>!(S j||Nat.beq j i)) (i:=i) (by simp[hSi]) (by simp[bj]) (fun j hj=>by simp at hj ⊢;exact hj.1) (List.mem_range.2 hilt);omega
  . intro j o' hj hSj e he;simp only[fO] at hSj ⊢;rcases hSj with hSj|hSj
    . exact .inl (hc j o' hj hSj e he)
    . have:=aw hSj;subst this;rw[ho] at hj;cases hj;exact .inl (hre e he)
  . have e1:(fun t=>dD D L (fun j=>S j||Nat.beq j i) t (List.range all.size) (tm t))=dX (fun t=>dD D L S t (List.range all.size) (tm t)) o.dst (L i).r:=by
     funext t;rw[Ip (S:=S) (i:=i) (fun _=>rfl) (List.mem_range.2 hilt) (fun j hj h1 h2=>by
      have hj:=List.mem_range.1 hj;have hg:all[j]?=some all[j]:=by simp[hj]
      rw[hD i o ho] at h1;rw[hD j _ hg] at h2;exact hf.uniq j i _ o t hg ho h2 h1)]
     rw[hD i o ho];cases hdo:o.dst with
     |none=>simp[dX]
     |some d=>
      by_cases hdt:d=t
      . subst hdt;simp[dX,aT]
      . simp[dX,hdt,aG _ _ _ (kr hdt)]
    have e2:(fun id=>cc L (fun j=>S j||Nat.beq j i) id (List.range all.size) (bx id))=fV (bG (fun id=>cc L S id (List.range all.size) (bx id)) (L i).e.fz) (L i).e.wr:=by
     funext id;rw[KA,Cg (S:=S) (i:=i) (fun _=>rfl) hSi vx (List.mem_range.2 hilt)];intro j hj hij hSj b;have hj:=List.mem_range.1 hj;have hnn:dt tab i j=false:=by
      cases hn:dt tab i j with
      |false=>rfl
      |true=>
       have:=same j hj hn;rw[hSj] at this;simp at this;omega
     have m1:=(hconf i j hilt hj).resolve_left (by rw[hnn];simp);have m2:=(hconf j i hj hilt).resolve_left (by rw[AE,hnn];simp);exact PZ m2 m1 id b
    rw[e1,e2];exact hS
end
structure Cx where
 P:Program
 I:World->Prop
 T:TypeId->Option TY
 hT:bZ P T
 hm:P.follows .mixedOrders=true
 bel:∀n w w',I w->w.heap.size<=n->Below n w w'->I w'
 mu:FuncId->Bool
 ma:FuncId->Bool
 ro:Option Nat->Prop
 r0:ro none
abbrev Cx.C(X:Cx):Ctr:=⟨X.ma,bm X.P X.I,X.mu,aY X.P X.I,be X.P X.I⟩
theorem Cx.ok(X:Cx):CtrOk X.P X.I X.C:=⟨fun _ _ _ _ h=>h,fun _ _ _ h=>h,fun _ _ _ _ _ _ _ _ _ h=>h⟩
def qj(X:Cx)(all:Array Oper)(draw:Bool)(Y:AS)(K:AS->Prop):Prop :=
 fx X.T X.C all all.toList Y.nx Y.tm Y.bx [] fun tm bx log=>match draw with
  |true=>UU (jZ all.toList) log.reverse=true/\K ⟨tm,bx,Y.nx+all.size⟩
  |false=>K ⟨tm,bx,Y.nx+all.size⟩
def CW(X:Cx)(nt:Nat)(c:Code)(Y:AS)(K:Exit->AS->Prop):Prop :=
 ∀(ro:{ r:Option Nat // X.ro r }) (E:Env) (Q:Exit->Act->World->Prop),(∀w,BelowO E.own E.w0 w->X.I w)->(∀e Y' M H U a w,K e Y'->St (E.mks M) nt H U Y'.tm Y'.bx a w->Q e a w)->
  ∀M H U a w,St (E.mks M) nt H U Y.tm Y.bx a w->c.wpIn (FW ro.1) 0 X.P Q a w
def Vu(X:Cx)(nt:Nat)(y:Code)(K:Exit->AS->Prop):Exit->AS->Prop
 | .normal,Y=>CW X nt y Y K
 |e,Y=>K e Y
def yc(id:Nat)(K:Exit->AS->Prop):Exit->AS->Prop
 | .exit i,Y=>bif Nat.beq i id then K .normal Y else K (.exit i) Y
 |e,Y=>K e Y
section
variable {X:Cx}{nt:Nat}{Y:AS}{K:Exit->AS->Prop}
theorem CW.mono{c:Code}{K':Exit->AS->Prop}(h:CW X nt c Y K')(hk:∀e Y,K' e Y->K e Y):CW X nt c Y K :=
 fun ro E Q hI hQ M H U a w hS=>h ro E Q hI (fun e Y' M H U a w k hS=>hQ e Y' M H U a w (hk _ _ k) hS) M H U a w hS
theorem CW.skip(h:K .normal Y):CW X nt .skip Y K:=fun _ _ _ _ hQ M H U a w hS=>D9 (hQ _ _ M H U a w h hS)
theorem CW.ret(h:K .ret Y):CW X nt .ret Y K:=fun _ _ _ _ hQ M H U a w hS=>wpIn_ret (hQ _ _ M H U a w h hS)
theorem CW.exit{id:Nat}(h:K (.exit id) Y):CW X nt (.exit id) Y K:=fun _ _ _ _ hQ M H U a w hS=>Ea (hQ _ _ M H U a w h hS)
theorem CW.label{l:Nat}(h:K .normal Y):CW X nt (.label l) Y K:=fun _ _ _ _ hQ M H U a w hS=>wpIn_label (hQ _ _ M H U a w h hS)
theorem CW.seq{x y:Code}(h:CW X nt x Y (Vu X nt y K)):CW X nt (.seq x y) Y K:=fun ro E Q hI hQ M H U a w hS=>
 zt (h ro E _ hI (fun e Y' M H U a w k hS=>by
  cases e with
  |normal=>exact k ro E Q hI hQ M H U a w hS
  |_=>exact hQ _ _ M H U a w k hS) M H U a w hS)
theorem CW.cond{c:Operand}{x y:Code}{t:Bool}(hc:evS Y.tm c=.iv (.bool t))(h1:t=true->CW X nt x Y K)(h2:t=false->CW X nt y Y K):CW X nt (.cond c x y) Y K:=fun ro E Q hI hQ M H U a w hS=>by
 have hv:=aU hS.sim rfl c;rw[hc] at hv;exact Eb (nQ hv) (fun e=>h1 e ro E Q hI hQ M H U a w hS) (fun e=>h2 e ro E Q hI hQ M H U a w hS)
theorem CW.block{id:Nat}{c:Code}(h:CW X nt c Y (yc id K)):CW X nt (.block id c) Y K:=fun ro E Q hI hQ M H U a w hS=>
 Ec (h ro E _ hI (fun e Y' M H U a w k hS=>by
  cases e with
  |exit i=>
   simp only[yc] at k;simp only[Exit.inBlock];by_cases hi:i=id
   . subst hi;rw[bj] at k;simp only[bD];exact hQ _ _ M H U a w k hS
   . have hb:Nat.beq i id=false:=by
      cases hb:Nat.beq i id
      . rfl
      . exact absurd (aw hb) hi
     rw[hb] at k;simp only[hi,bE];exact hQ _ _ M H U a w k hS
  |_=>exact hQ _ _ M H U a w k hS) M H U a w hS)
theorem P7{os:List Oper}{recs:List Lg}(hl:recs.length=os.length)(D:Nat->Option Nat)(hD:∀i o,os[i]?=some o->D i=o.dst)(hu:∀(i j:Nat) (o o':Oper) (d:Nat),os[i]?=some o->os[j]?=some o'->o.dst=some d->o'.dst=some d->i=j)(tm:Nat->SV)(bx:Nat->Option Bx):∀k,k<=os.length->
 (((os.zip recs).take k).foldl (fun tm p=>dX tm p.1.dst p.2.r) tm)=(fun t=>dD D (fun i=>recs.getD i default) (fun j=>decide (j<k)) t (List.range os.length) (tm t))/\
 (((os.zip recs).take k).foldl (fun bx p=>fV (bG bx p.2.e.fz) p.2.e.wr) bx)=(fun id=>cc (fun i=>recs.getD i default) (fun j=>decide (j<k)) id (List.range os.length) (bx id)):=by
 intro k;induction k with
 |zero=>
  intro _;have z1:∀(t:Nat) (l:List Nat) (x:SV),dD D (fun i=>recs.getD i default) (fun j=>decide (j<0)) t l x=x:=by
   intro t l;induction l with
   |nil=>intro x;rfl
   |cons i l ih=>intro x;rw[dD,al (by simp)];exact ih x
  have z2:∀(t:Nat) (l:List Nat) (x:Option Bx),cc (fun i=>recs.getD i default) (fun j=>decide (j<0)) t l x=x:=by
   intro t l;induction l with
   |nil=>intro x;rfl
   |cons i l ih=>intro x;rw[cc,al (by simp)];exact ih x
  refine⟨?_,?_⟩
  . funext t;simp only[th,qP];exact(z1 t _ _).symm
  . funext t;simp only[th,qP];exact(z2 t _ _).symm
 |succ k ih=>
  intro hk;obtain⟨i1,i2⟩:=ih (by omega);have ho:os[k]?=some os[k]:=by simp
  have hr:recs[k]?=some (recs[k]'(by omega)):=by simp
  have hz:(os.zip recs)[k]?=some (os[k],recs[k]'(by omega)):=by
   rw[Xf];exact⟨ho,hr⟩
  have hg:recs.getD k default=recs[k]'(by omega):=by simp[hr]
  have hS:∀j,decide (j<k+1)=(decide (j<k)||Nat.beq j k):=by
   intro j;by_cases h1:j<k
   . simp[h1];omega
   . by_cases h2:j=k
     . subst h2;simp[bj]
     . have hb:Nat.beq j k=false:=by
        cases hb:Nat.beq j k
        . rfl
        . exact absurd (aw hb) h2
       simp[h1,hb];omega
  have hm:k∈List.range os.length:=List.mem_range.2 (by omega);constructor
  . rw[k9,vz,i1,hz];funext t;rw[Ip (S:=fun j=>decide (j<k)) (i:=k) hS hm (fun j hj h1 h2=>by
     have hj:=List.mem_range.1 hj;have hgj:os[j]?=some os[j]:=by simp[hj]
     rw[hD k _ ho] at h1;rw[hD j _ hgj] at h2;exact hu j k _ _ t hgj ho h2 h1),hD k _ ho]
    simp only[Ed,iw,qP,hg];cases hdo:os[k].dst with
    |none=>simp[dX]
    |some d=>
     by_cases hdt:d=t
     . subst hdt;simp[dX,aT]
     . simp[dX,hdt,aG _ _ _ (kr hdt)]
  . rw[k9,vz,i2,hz];funext id;rw[Cg (S:=fun j=>decide (j<k)) (i:=k) hS (by simp) vx hm (fun j _ h1 h2=>by simp at h2;omega)];simp only[Ed,iw,qP];rw[KA,hg]
theorem CW.region{id:Nat}{all:Array Oper}{draw:Bool}(hd:cn nt all.toList=true)(hf:draw=true->n7 all (jZ all.toList)=true)(h:qj X all draw Y (K .normal)):CW X nt (.region id all draw) Y K:=fun ro E Q hI hQ M H U a w hS=>by
 unfold qj at h;cases draw with
 |false=>
  exact vA (SU (E:=E.mks M) X.hT X.ok hI (fun H U tm bx log a w k hS=>hQ .normal ⟨tm,bx,Y.nx+all.size⟩ M H U a w k hS) hd hS h)
 |true=>
  have hfl:=B5 (hf rfl);obtain⟨recs,e1,e2,e3,e4⟩:=Om h;have hlen:all.toList.length=all.size:=by simp
  let D:Nat->Option Nat:=fun i=>(all[i]?).bind (·.dst)
  have hD:∀i o,all[i]?=some o->D i=o.dst:=fun i o ho=>by simp[D,ho]
  have hD':∀i o,all.toList[i]?=some o->D i=o.dst:=fun i o ho=>hD i o (by simpa using ho);have hu:∀(i j:Nat) (o o':Oper) (d:Nat),all.toList[i]?=some o->all.toList[j]?=some o'->o.dst=some d->o'.dst=some d->i=j:=fun i j o o' d h1 h2=>hfl.uniq i j o o' d (by simpa using h1) (by simpa using h2);have zf:=P7 (D:=D) e1 hD' hu Y.tm Y.bx;rw[hlen] at zf;have hall:=zf all.size (ak _);have htk:(all.toList.zip recs).take all.size=all.toList.zip recs:=aH (by simp[e1]);rw[htk] at hall;rw[hall.1,hall.2] at e4;have t1:(fun t=>dD D (fun i=>recs.getD i default) (fun j=>decide (j<all.size)) t (List.range all.size) (Y.tm t))=(fun t=>dD D (fun i=>recs.getD i default) (fun _=>true) t (List.range all.size) (Y.tm t)) :=
   funext fun t=>tR fun i hi _=>by simpa using List.mem_range.1 hi
  have t2:(fun id=>cc (fun i=>recs.getD i default) (fun j=>decide (j<all.size)) id (List.range all.size) (Y.bx id))=(fun id=>cc (fun i=>recs.getD i default) (fun _=>true) id (List.range all.size) (Y.bx id)) :=
   funext fun id=>tW fun i hi hne=>absurd (by simpa using List.mem_range.1 hi) hne
  rw[t1,t2] at e4;refine Mg X.hm (Vj (E:=E.mks M) X.hT X.ok hI hd hfl (g:=Y.nx) (tm:=Y.tm) (bx:=Y.bx) hD (fun i=>recs.getD i default) (fun i o ho=>?_) (fun i j hi hj=>?_) (fun H U a w hS=>hQ .normal _ M H U a w e4 hS) all.size _ (fun _=>false) H U a _ (fun j hj=>?_) ?_ ?_ (Sim.drawn ?_))
  . have hlt:i<all.size:=(Array.getElem?_eq_some_iff.1 ho).1;have hr:recs[i]?=some (recs.getD i default):=by
     have:i<recs.length:=by omega
     simp[this]
    have:=e2 i o _ (by simpa using ho) hr;rw[(zf i (by omega)).1,(zf i (by omega)).2] at this;exact this
  . simp only[jb,oU] at e3;have hi':recs[i]?=some (recs.getD i default):=by
     have:i<recs.length:=by omega
     simp[this]
    have hj':recs[j]?=some (recs.getD j default):=by
     have:j<recs.length:=by omega
     simp[this]
    have:=EZ e3 i _ hi' j _ hj';rwa[aX] at this
  . simp[hj]
  . refine aP (oV _ _) (by simp)
  . intro j o _ h;cases h
  . have z1:∀(t:Nat) (l:List Nat) (x:SV),dD D (fun i=>recs.getD i default) (fun _=>false) t l x=x:=by
     intro t l;induction l with
     |nil=>intro x;rfl
     |cons i l ih=>intro x;rw[dD,al (by simp)];exact ih x
    have z2:∀(t:Nat) (l:List Nat) (x:Option Bx),cc (fun i=>recs.getD i default) (fun _=>false) t l x=x:=by
     intro t l;induction l with
     |nil=>intro x;rfl
     |cons i l ih=>intro x;rw[cc,al (by simp)];exact ih x
    simp only[z1,z2];exact hS
end
end Go.Proofs.Fl
namespace Go.Proofs.Fl
theorem aa{α U:Sort _}{a:α}{b:U}:a=a/\b=b:=⟨rfl,rfl⟩
open Go.RowKit
def qD(V:Nat->Nat):SV->SV
 | .ptr g off=>.ptr (V g) off
 | .ref g off n f=>.ref (V g) off n f
 | .eptr g i off=>.eptr (V g) i off
 | .clo f gs=>.clo f (gs.map V)
 | .cv v f gs=>.cv v f (gs.map V)
 |s=>s
def nu(bx:Nat->Option Bx):SV->Bool
 | .ptr g _=>(bx g).isSome
 | .ref g _ _ _=>(bx g).isSome
 | .eptr g _ _=>(bx g).isSome
 | .clo _ gs=>gs.all fun g=>(bx g).isSome
 | .cv _ _ gs=>gs.all fun g=>(bx g).isSome
 |_=>true
structure Wk(Y Y':AS):Prop where
 ex:∃ V:Nat->Nat,(∀t,Y'.tm t=.unk\/(Y.tm t=qD V (Y'.tm t)/\nu Y'.bx (Y'.tm t)=true))/\(∀g b,Y'.bx g=some b->b=.dead\/Y.bx (V g)=some b)/\
  (∀g g' b b',Y'.bx g=some b->Y'.bx g'=some b'->V g=V g'->g=g')/\(∀i,i<8->Y.bx (aJ+i)=none\/(V (aJ+i)=aJ+i/\Y'.bx (aJ+i)≠none))
section
variable {E:Env}{nt:Nat}{H:ah}{U:Nat->Nat × Nat}{a:Act}{w:World}{Y Y':AS}
theorem SR.weak{bx bx':Nat->Option Bx}{V:Nat->Nat}(hb:∀g b,bx' g=some b->b=.dead\/bx (V g)=some b){v:Value}:∀{s:SV},nu bx' s=true->SR H U bx v (qD V s)->SR H (fun g=>U (V g)) bx' v s
 | .unk,_,_=>trivial
 | .und,_,h=>h
 | .iv _,_,h=>h
 | .nilS,_,h=>h
 | .iptr _ _,_,h=>h
 | .yld _,_,h=>h
 | .val _,_,h=>h
 | .slN _,_,h=>h
 | .cv u f gs,ho,⟨h0,h1,h2⟩=>by
  simp only[nu,kq] at ho;refine⟨h0,fun g hg e=>?_,?_⟩
  . have:=ho g hg;rw[e] at this;cases this
  . rw[h2,jF];rfl
 | .clo f gs,ho,⟨h1,h2⟩=>by
  simp only[nu,kq] at ho;refine⟨fun g hg e=>?_,?_⟩
  . have:=ho g hg;rw[e] at this;cases this
  . rw[h2,jF];rfl
 | .ptr g off,ho,h=>by
  refine⟨?_,h.2⟩;simp only[nu] at ho;intro e;rw[e] at ho;cases ho
 | .ref g off n full,ho,h=>by
  simp only[nu] at ho;cases hg:bx' g with
  |none=>rw[hg] at ho;cases ho
  |some b=>
   cases b with
   |var=>simp only[SR,hg]
   |bld=>simp only[SR,hg]
   |arrN=>simp only[SR,hg]
   |dead=>simp only[SR,hg]
   |arr e sz es fz=>
    rcases hb g _ hg with h0|h0
    . cases h0
    . simp only[qD,SR,h0] at h;simp only[SR,hg];exact h
 | .eptr g i off,ho,h=>by
  simp only[nu] at ho;cases hg:bx' g with
  |none=>rw[hg] at ho;cases ho
  |some b=>
   cases b with
   |var=>simp only[SR,hg]
   |bld=>simp only[SR,hg]
   |dead=>simp only[SR,hg]
   |arrN p e sz es=>
    rcases hb g _ hg with h0|h0
    . cases h0
    . simp only[qD,SR,h0] at h;simp only[SR,hg];exact h
   |arr e sz es fz=>
    rcases hb g _ hg with h0|h0
    . cases h0
    . simp only[qD,SR,h0] at h;simp only[SR,hg];exact h
theorem St.weak(h:St E nt H U Y.tm Y.bx a w)(hw:Wk Y Y'):∃ U',St E nt H U' Y'.tm Y'.bx a w:=by
 obtain⟨V,h1,h2,h3,h4⟩:=hw.ex;refine⟨fun g=>U (V g),⟨h.sim.has,h.sim.below,h.sim.lo,h.sim.ext,fun t=>?_,fun g b hg=>?_,fun g g' b b' hg hg' ha ha' e=>?_,fun p k hk=>?_,h.sim.marks,fun g s g' b R hg hg' ha hR=>?_⟩,h.defers,h.size⟩
 . rcases h1 t with e|⟨e,ho⟩
   . rw[e];trivial
   . have:=h.sim.slot t;rw[e] at this;exact this.weak h2 ho
 . rcases h2 g b hg with e|e
   . subst e;trivial
   . exact h.sim.box _ _ e
 . rcases h2 g b hg with e1|e1
   . subst e1;cases ha
   . rcases h2 g' b' hg' with e2|e2
     . subst e2;cases ha'
     . exact h3 g g' b b' hg hg' (h.sim.inj _ _ _ _ e1 e2 ha ha' e)
 . obtain⟨p1,p2,p3,p4⟩:=h.sim.pin p k hk;rcases h4 (p-aJ) (by omega) with e|⟨e1,e2⟩
   . rw[show aJ+(p-aJ)=p by omega] at e;exact absurd e p2
   . rw[show aJ+(p-aJ)=p by omega] at e1 e2;exact⟨by show U (V p)=k;rw[e1];exact p1,e2,p3,p4⟩
 . rcases h2 g _ hg with e1|e1
   . cases e1
   . rcases h2 g' b hg' with e2|e2
     . subst e2;cases ha
     . exact h.sim.hid _ s _ b R e1 e2 ha hR
end
def mh:List (Nat×SV)->Nat->SV
 | [],_=>.unk
 |p::l,t=>bif Nat.beq t p.1 then p.2 else mh l t
def cP:List (Nat×Bx)->Nat->Option Bx
 | [],_=>none
 |p::l,t=>bif Nat.beq t p.1 then some p.2 else cP l t
def am(l:List (Nat×SV))(m:List (Nat×Bx))(nx:Nat):AS:=⟨mh l,cP m,nx⟩
def mi:List (Nat×Nat)->Nat->Nat
 | [],g=>g
 |p::l,g=>bif Nat.beq g p.1 then p.2 else mi l g
def Cq(tm:Nat->SV)(r:List (Nat×Nat))(bx':Nat->Option Bx):List (Nat×SV)->Prop
 | []=>True
 |p::l=>(tm p.1=qD (mi r) p.2/\nu bx' p.2=true)/\Cq tm r bx' l
def uB(bx:Nat->Option Bx)(r:List (Nat×Nat)):List (Nat×Bx)->Prop
 | []=>True
 |p::l=>bx (mi r p.1)=some p.2/\uB bx r l
theorem w7:∀{l:List (Nat×SV)} {t:Nat},mh l t=.unk\/(t,mh l t)∈l
 | [],_=>.inl rfl
 |p::l,t=>by
  unfold mh;cases h:Nat.beq t p.1 with
  |true=>
   have:=aw h;subst this;exact .inr (by simp)
  |false=>
   rcases w7 (l:=l) (t:=t) with h|h
   . exact .inl h
   . exact .inr (dx _ h)
theorem iC:∀{l:List (Nat×Bx)} {t:Nat} {b:Bx},cP l t=some b->(t,b)∈l
 | [],_,_,h=>by simp[cP] at h
 |p::l,t,b,h=>by
  unfold cP at h;cases hb:Nat.beq t p.1 with
  |true=>
   have:=aw hb;subst this;simp[hb] at h;rw[<-h];simp
  |false=>
   rw[hb] at h;exact dx _ (iC h)
theorem Fv{tm:Nat->SV}{r:List (Nat×Nat)}{bx':Nat->Option Bx}:∀{l:List (Nat×SV)},Cq tm r bx' l->∀p∈l,tm p.1=qD (mi r) p.2/\nu bx' p.2=true
 | [],_,p,h=>by simp at h
 |q::l,hs,p,h=>by
  rcases List.mem_cons.1 h with rfl|h
  . exact hs.1
  . exact Fv hs.2 p h
theorem wk{bx:Nat->Option Bx}{r:List (Nat×Nat)}:∀{l:List (Nat×Bx)},uB bx r l->∀p∈l,bx (mi r p.1)=some p.2
 | [],_,p,h=>by simp at h
 |q::l,hs,p,h=>by
  rcases List.mem_cons.1 h with rfl|h
  . exact hs.1
  . exact wk hs.2 p h
def na(bx:Nat->Option Bx)(r:List (Nat×Nat))(m:List (Nat×Bx))(i:Nat):Prop:=bx (aJ+i)=none\/(mi r (aJ+i)=aJ+i/\(cP m (aJ+i)).isSome=true)
def pinsW(bx:Nat->Option Bx)(r:List (Nat×Nat))(m:List (Nat×Bx)):Prop:=na bx r m 0/\na bx r m 1/\na bx r m 2/\na bx r m 3/\na bx r m 4/\na bx r m 5/\na bx r m 6/\na bx r m 7
theorem pinsW.get{bx:Nat->Option Bx}{r:List (Nat×Nat)}{m:List (Nat×Bx)}(h:pinsW bx r m):∀i,i<8->na bx r m i
 |0,_=>h.1
 |1,_=>h.2.1
 |2,_=>h.2.2.1
 |3,_=>h.2.2.2.1
 |4,_=>h.2.2.2.2.1
 |5,_=>h.2.2.2.2.2.1
 |6,_=>h.2.2.2.2.2.2.1
 |7,_=>h.2.2.2.2.2.2.2
 |n+8,hn=>absurd hn (by omega)
theorem Wk.tab{Y:AS}{l:List (Nat×SV)}{m:List (Nat×Bx)}{nx:Nat}(r:List (Nat×Nat))(h1:Cq Y.tm r (cP m) l)(h2:uB Y.bx r m)(h3:uniq (m.map fun p=>(mi r p.1,p.1))=true)
 (h4:pinsW Y.bx r m:=by(refine⟨?_,?_,?_,?_,?_,?_,?_,?_⟩<;>first|exact .inl rfl|exact .inr ⟨rfl,rfl⟩)):Wk Y (am l m nx):=by
 refine⟨mi r,fun t=>?_,fun g b hg=>?_,fun g g' b b' hg hg' e=>?_,fun i hi=>(h4.get i hi).imp id fun e=>⟨e.1,fun en=>by have:=e.2;rw[show cP m (aJ+i)=none from en] at this;cases this⟩⟩
 . rcases w7 (l:=l) (t:=t) with h|h
   . exact .inl h
   . have:=Fv h1 _ h;exact .inr this
 . exact .inr (wk h2 _ (iC hg))
 . have m1:=iC hg;have m2:=iC hg';have:=As h3 (mi r g,g) (List.mem_map.2 ⟨_,m1,rfl⟩) (mi r g',g') (List.mem_map.2 ⟨_,m2,rfl⟩) e;exact(Prod.mk.inj this).2
theorem QL{p:Nat->Prop}:∀{n:Nat},p n->∃m,p m/\∀k,p k->m<=k:=by
 intro n;induction n using Nat.strongRecOn with
 |_ n ih=>
  intro hn;by_cases h:∃k,k<n/\p k
  . obtain⟨k,h1,h2⟩:=h;exact ih k h1 h2
  . exact⟨n,hn,fun k hk=>by
     rcases eS k n with h'|h'
     . exact absurd ⟨k,h',hk⟩ h
     . exact h'⟩
open Classical in
noncomputable def mQ(p:Nat->Prop):Nat:=if h:∃m,p m/\∀k,p k->m<=k then h.choose else 0
theorem wc{p:Nat->Prop}{n:Nat}(h:p n):p (mQ p)/\mQ p<=n:=by
 have he:=QL h;unfold mQ;rw[dif_pos he];exact⟨he.choose_spec.1,he.choose_spec.2 n h⟩
def KN{G:Type}(inv:G->AS)(μ:G->Nat)(g:G)(K:Exit->AS->Prop):Exit->AS->Prop
 | .normal,Y=>∃g',Wk Y (inv g')/\μ g'<μ g
 |e,Y=>K e Y
def KP{G:Type}(inv:G->AS)(K:Exit->AS->Prop):Exit->AS->Prop
 | .normal,Y=>∃g',Wk Y (inv g')
 |e,Y=>K e Y
section
variable {X:Cx}{nt:Nat}{Y:AS}{K:Exit->AS->Prop}
theorem CW.weak{c:Code}{Y':AS}(hw:Wk Y Y')(h:CW X nt c Y' K):CW X nt c Y K:=fun ro E Q hI hQ M H U a w hS=>by
 obtain⟨U',hS'⟩:=hS.weak hw;exact h ro E Q hI hQ M H U' a w hS'
theorem CW.loop{G:Type}(inv:G->AS)(μ:G->Nat){c:Code}(g0:G)(h0:Wk Y (inv g0))(h:∀g,CW X nt c (inv g) (KN inv μ g K)):CW X nt (.loop c) Y K:=fun ro E Q hI hQ M0 H U a w hS=>by
 let J:G->Act->World->Prop:=fun g a w=>∃M H U,St (E.mks M) nt H U (inv g).tm (inv g).bx a w
 let M:Act->World->Nat:=fun a w=>mQ fun n=>∃g,μ g=n/\J g a w
 obtain⟨β0,hS0⟩:=hS.weak h0;refine wpIn_loop (fun a w=>∃g,J g a w) M ⟨g0,M0,H,β0,hS0⟩ fun a w ⟨g1,hJ1⟩=>?_;obtain⟨⟨g,e,hJ⟩,_⟩:=wc (p:=fun n=>∃g,μ g=n/\J g a w) ⟨g1,rfl,hJ1⟩;obtain⟨M1,H1,β1,hS1⟩:=hJ;refine h g ro E _ hI (fun e' Y' M2 H U a' w' k hS=>?_) M1 H1 β1 a w hS1;cases e' with
 |normal=>
  obtain⟨g',hw,hlt⟩:=k;obtain⟨U',hS'⟩:=hS.weak hw;have hJ':J g' a' w':=⟨M2,H,U',hS'⟩;have:=(wc (p:=fun n=>∃g,μ g=n/\J g a' w') ⟨g',rfl,hJ'⟩).2;refine⟨⟨g',hJ'⟩,?_⟩;show mQ _<mQ _;rw[<-e];exact g9 this hlt
 |_=>exact hQ _ _ M2 H U a' w' k hS
theorem CW.join{G:Type}(inv:G->AS){x y:Code}(h1:CW X nt x Y (KP inv K))(h2:∀g,CW X nt y (inv g) K):CW X nt (.seq x y) Y K:=CW.seq (h1.mono fun e Y' k=>by
 cases e with
 |normal=>obtain⟨g,hw⟩:=k;exact CW.weak hw (h2 g)
 |_=>exact k)
end
def argS:List IV->Nat->SV
 | [],_=>.und
 |x::_,0=>.iv x
 |_::l,t+1=>argS l t
def jU(T:TypeId->Option TY)(tm:Nat->SV)(bx:Nat->Option Bx):List ResultVar->Option (List IV×List Nat)
 | []=>some ([],[])
 | .tmp t::rs=>match cZ bx (tm t) with
  |some (x,f)=>match jU T tm bx rs with
   |some (xs,fs)=>some (x::xs,f++fs)
   |none=>none
  |none=>none
 | .cell a t::rs=>match T t,tm a with
  |some ty,.ptr g off=>match bx g with
   |some (.var y)=>match iV ty.sh.agg ty.size y off with
    |some x=>match jU T tm bx rs with
     |some (xs,fs)=>some (x::xs,fs)
     |none=>none
    |none=>none
   |_=>none
  |_,_=>none
def gP:List IV->IV
 | [x]=>x
 |xs=>.tup xs
def oq(T:TypeId->Option TY)(rs:List ResultVar)(r:IV)(Y:AS):Prop :=
 match jU T Y.tm Y.bx rs with
 |some (xs,_)=>gP xs=r
 |none=>False
def Lj(T:TypeId->Option TY)(rs:List ResultVar)(r:IV):Exit->AS->Prop
 | .normal,Y=>oq T rs r Y
 | .ret,Y=>oq T rs r Y
 |_,_=>False
theorem BI{T:TypeId->Option TY}{tm:Nat->SV}{bx:Nat->Option Bx}(f:List Nat):∀{rs:List ResultVar} {r:List IV×List Nat},jU T tm bx rs=some r->jU T tm (bG bx f) rs=some r
 | [],r,h=>h
 | .tmp t::rs,r,h=>by
  simp only[jU,uj] at h ⊢;split at h
  . split at h
    . rename_i h2;rw[BI f h2];exact h
    . cases h
  . cases h
 | .cell a t::rs,r,h=>by
  simp only[jU] at h ⊢;split at h
  . split at h
    . rename_i hb;rw[AN f _ _ _ hb];split at h
      . split at h
        . rename_i h1 _ _ _ h2;simp only[h1,BI f h2];exact h
        . cases h
      . cases h
    . cases h
  . cases h
def lY(tmps:Array Value):ResultVar->Sem Value
 | .tmp t=>pure (tmps.getD t undef)
 | .cell a t=>do loadVar t (<- asAddr (tmps.getD a undef))
theorem xa{P:Program}{T:TypeId->Option TY}(hT:bZ P T){E:Env}{tmps:Array Value}{w:World}{U:Nat->Nat×Nat}{tm:Nat->SV}:∀{rs:List ResultVar} {H:ah} {bx:Nat->Option Bx} (_:Sim E H U tm bx tmps w) {xs:List IV} {fs:List Nat},jU T tm bx rs=some (xs,fs)->
 ∃H',HLe H H'/\Sim E H' U tm (bG bx fs) tmps w/\∃vs:List Value,(rs.mapM (lY tmps)).run P w=.ok vs w/\VRL H' vs xs
 | [],H,bx,h,xs,fs,hr=>by
  simp only[jU,ae,aA] at hr;obtain⟨rfl,rfl⟩:=hr;exact⟨H,HLe.refl _,h,[],by simp,.nil⟩
 | .tmp t::rs,H,bx,h,xs,fs,hr=>by
  simp only[jU] at hr;split at hr
  . rename_i x f h1;split at hr
    . rename_i ys gs h2;simp only[ae,aA] at hr;obtain⟨rfl,rfl⟩:=hr;obtain⟨H1,l1,S1,V1⟩:=lN h (h.slot t) h1;obtain⟨H2,l2,S2,vs,e,V2⟩:=xa hT S1 (BI f h2);refine⟨H2,l1.trans l2,by rw[tB];exact S2,tmps.getD t undef::vs,?_,.cons _ _ _ _ (V1.mono l2) V2⟩;simp only[zu,lY,av,ay,au,e]
    . cases hr
  . cases hr
 | .cell a t::rs,H,bx,h,xs,fs,hr=>by
  simp only[jU] at hr;split at hr
  . rename_i ty g off ht ha;split at hr
    . rename_i y hb;split at hr
      . rename_i x hl;split at hr
        . rename_i ys gs h2;simp only[ae,aA] at hr;obtain⟨rfl,rfl⟩:=hr;obtain⟨i,d,z,ok⟩:=aM (hT t ty ht);have hv:=h.slot a;rw[ha] at hv;obtain⟨_,hv⟩:=hv;obtain⟨_,_,_,v,e,h4,h5⟩:=h.box g _ hb;obtain⟨u,hr,hu⟩:=rb (base:=0) ok h5 h4 (by rw[bJ,aH (by simp)]) hl;rw[aX] at hr;obtain⟨H2,l2,S2,vs,e2,V2⟩:=xa hT h h2;refine⟨H2,l2,S2,u::vs,?_,.cons _ _ _ _ (hu.mono l2) V2⟩;simp only[zu,lY,hv,asAddr,av,ay,au,hr,e2]
        . cases hr
      . cases hr
    . cases hr
  . cases hr
theorem w5:∀{xs:List IV} {t:Nat},argS xs t=(match xs[t]? with|some x=>.iv x|none=>.und)
 | [],_=>rfl
 |x::l,0=>rfl
 |x::l,t+1=>by rw[argS,w5];rfl
theorem Sim.poke{E:Env}{H:ah}{U:Nat->Nat×Nat}{tm:Nat->SV}{bx:Nat->Option Bx}{tmps:Array Value}{w:World}(h:Sim E H U tm bx tmps w){D:Nat}{o:Obj}(o':Obj)(hD:w.heap[D]?=some o)(hc:o.isCells=false)
 (ho:E.own D) (hm:∀d∈E.mrk,d≠ { target:=.collected D,args := #[] }):Sim E H U tm bx tmps (w.putObj D o') where
 has b arr e:=by
  obtain⟨t,fr,ht⟩:=h.has b arr e;refine⟨t,fr,(cl fun e'=>?_).trans ht⟩;rw[e',hD] at ht;cases ht;cases hc
 below:=h.below.trans ⟨rfl,rfl,rfl,by simp,fun k hk=>cl fun e=>hk (by rw[e];exact ho)⟩
 lo k hk:=h.lo k (by simpa using hk)
 ext:=h.ext
 slot:=h.slot
 box g b hg:=by
  by_cases ha:b.alive=true
  . refine(h.box g b hg).keep (cl fun e=>?_) (HLe.refl _) id (fun s R eb hR=>⟨cl fun e=>?_,id⟩)
    . obtain⟨arr,e',hx⟩:=(h.box g b hg).cells ha;rw[e,hD] at hx;cases hx;cases hc
    . subst eb;obtain⟨_,_,arr,_,fz,hx⟩:=jL (h.box g _ hg).2.2.1 hR;rw[e,hD] at hx;cases hx;cases hc
  . cases b<;>first|trivial|simp[Bx.alive] at ha
 inj:=h.inj
 pin:=h.pin
 marks:=⟨h.marks.1,fun d hd=>by
  obtain⟨D',e,ho',hb⟩:=h.marks.2 d hd;refine⟨D',e,ho',(cl fun e'=>?_).trans hb⟩;exact hm d hd (by rw[e,e'])⟩
 hid g s g' b R h1 h2 ha hR:=h.hid g s g' b R h1 h2 ha (hR.same (cl fun e=>by
  obtain⟨arr,e',hx⟩:=(h.box g _ h1).cells rfl;rw[e,hD] at hx;cases hx;cases hc))
theorem Sim.unmark{E:Env}{M M':List Deferred}{H:ah}{U:Nat->Nat×Nat}{tm:Nat->SV}{bx:Nat->Option Bx}{tmps:Array Value}{w:World}(h:Sim (E.mks M) H U tm bx tmps w)(hm:MarksOk E.own M' w):Sim (E.mks M') H U tm bx tmps w :=
 ⟨h.has,h.below,h.lo,h.ext,h.slot,h.box,h.inj,h.pin,hm,h.hid⟩
theorem rJ{P:Program}{fn:Func}{R:Ending->World->Prop}{E:Env}{nt:Nat}{H:ah}{U:Nat->Nat×Nat}{tm:Nat->SV}{bx:Nat->Option Bx}:∀(M:List Deferred) {a:Act} {w:World},St (E.mks M) nt H U tm bx a w->
 (∀a' w',St (E.mks []) nt H U tm bx a' w'->a'.tmps=a.tmps->∃v,(results fn a'.tmps).run P w'=.ok v w'/\R (.returned v) w')->LeavesInM (FW none) 0 P fn a.tmps R M .returning w
 | [],a,w,h,hk=>hk a w h rfl
 |d::M,a,w,h,hk=>by
  obtain⟨D,e,ho,hb⟩:=h.sim.marks.2 d (by simp);have hp:=h.sim.marks.1;refine⟨by simp,.inl ⟨D,w.putObj D (.deferred none),by rw[e],Mh hb,?_⟩⟩;have h1:=h.sim.unmark (M':=M) ⟨(List.pairwise_cons.1 hp).2,fun d' hd'=>h.sim.marks.2 d' (dx _ hd')⟩;have h2:=h1.poke (.deferred none) hb rfl ho (fun d' hd' e'=>(List.pairwise_cons.1 hp).1 d' hd' (by rw[e,e']));exact rJ M (a:={ a with defers:=M }) ⟨h2,rfl,h.size⟩ hk
theorem Sj{X:Cx}{f:FuncId}{fn:Func}{c:Code}(hf:X.P.funcs[f]?=some fn)(hb:fn.body=some c)(hn:(fn.name == "runtime.NumGoroutine")=false){xs:List IV}{r:IV}(hx:xs.length<=fn.ntmps)
 (h:CW X fn.ntmps c ⟨argS xs,fun _=>none,0⟩ (Lj X.T fn.results.toList r)):aY X.P X.I f xs r:=by
 refine⟨⟨fn,hf,hn,by rw[hb];rfl⟩,fun H w args hI hH hargs=>?_⟩;have hlen:=hargs.length;refine(vw (n:=0)).1 (vB hf hb trivial ?_);refine h ⟨none,X.r0⟩ ⟨fun k=>w.heap.size<=k,w,H,fun _=>none,[]⟩ _ (fun w' hw'=>X.bel _ _ _ hI (ak _) hw'.below) (fun e Y' M H' U a0 w0 k hS0=>?_) [] H (fun _=>(0,0)) _ w ⟨⟨hH,BelowO.refl _ _,fun _ hk=>hk,HExtO.refl _ _,fun t=>?_,fun g b hg=>(by cases hg),fun g g' b b' hg=>(by cases hg),fun p k hk=>(by cases hk),MarksOk.nil _ _,fun g s g' b R hg=>(by cases hg)⟩,rfl,?_⟩
 . have key:oq X.T fn.results.toList r Y'->∀a' w',St ⟨fun k=>w.heap.size<=k,w,H,fun _=>none,[]⟩ fn.ntmps H' U Y'.tm Y'.bx a' w'->a'.tmps=a0.tmps->∃v,(results fn a'.tmps).run X.P w'=.ok v w'/\(∃v1 H1,Ending.returned v=.returned v1/\HeapHas w' H1/\HExt w.heap.size H H1/\VR H1 v1 r/\Below w.heap.size w w'):=fun k a' w' hS _=>by
    unfold oq at k;split at k
    . rename_i ys fs hr;obtain⟨H1,l1,S1,vs,e1,V1⟩:=xa X.hT hS.sim hr;refine⟨(if h:vs.toArray.size=1 then vs.toArray[0] else .tuple vs.toArray),?_,_,H1,rfl,S1.has,S1.ext,?_,S1.below.below⟩
      . unfold results;have e0:(fn.results.mapM fun | .tmp t=>pure (a'.tmps.getD t undef) | .cell a t=>do loadVar t (<- asAddr (a'.tmps.getD a undef)):Sem (Array Value))=List.toArray <$> fn.results.toList.mapM (lY a'.tmps):=by
         rw[Ee];rfl
        refine(congrArg (fun(x:Sem (Array Value))=>(x >>= fun vs=>pure (if h:vs.size=1 then vs[0] else .tuple vs)).run X.P w') e0).trans ?_;simp only[av,Ef,e1,au,ay]
      . rw[<-k];cases V1 with
        |nil=>exact .tup [] [] .nil
        |cons v x vs xs h0 t=>
         cases t with
         |nil=>exact h0
         |cons v' x' vs xs h1 t=>
          have:¬(v::v'::vs).toArray.size=1:=by simp
          rw[vC this];exact .tup _ _ (.cons _ _ _ _ h0 (.cons _ _ _ _ h1 t))
    . exact k.elim
   cases e with
   |normal=>(show LeavesInM (FW none) 0 X.P fn a0.tmps (fun e w'=>∃v H',e=.returned v/\HeapHas w' H'/\HExt w.heap.size H H'/\VR H' v r/\Below w.heap.size w w') a0.defers .returning w0;rw[hS0.defers];exact rJ M hS0 (key k))
   |ret=>(show LeavesInM (FW none) 0 X.P fn a0.tmps (fun e w'=>∃v H',e=.returned v/\HeapHas w' H'/\HExt w.heap.size H H'/\VR H' v r/\Below w.heap.size w w') a0.defers .returning w0;rw[hS0.defers];exact rJ M hS0 (key k))
   |_=>exact k.elim
 . show SR _ _ _ _ (argS xs t);rw[w5];cases hx':xs[t]? with
   |some x=>
    have hlt:t<args.length:=by rw[hlen];exact(List.getElem?_eq_some_iff.1 hx').1
    obtain⟨v,h1,h2⟩:=hargs.get t x hx';have:(args.toArray++Array.replicate (fn.ntmps-args.toArray.size) undef).getD t undef=v:=by
     simp[jd,hlt];exact(List.getElem?_eq_some_iff.1 h1).2
    rw[this];exact h2
   |none=>
    have hge:¬t<args.length:=by
     intro hlt;rw[hlen] at hlt;simp[hlt] at hx'
    show _=undef;simp[jd,hge,vE];split<;>rfl
 . show(args.toArray++Array.replicate (fn.ntmps-args.toArray.size) undef).size=fn.ntmps;simp;omega
def resF(T:TypeId->Option TY)(Y:AS)(rs:List ResultVar):Bool :=
 match jU T Y.tm Y.bx rs with
 |some (_,fs)=>!fs.any (Nat.beq aJ)
 |none=>false
def Lz(off n:Nat)(xs:List IV):Nat->SV
 |0=>.ref aJ off n false
 |t+1=>argS xs t
def Li(T:TypeId->Option TY)(rs:List ResultVar)(b:Bx)(r:IV):Exit->AS->Prop
 | .normal,Y=>oq T rs r Y/\Y.bx aJ=some b/\resF T Y rs=true
 | .ret,Y=>oq T rs r Y/\Y.bx aJ=some b/\resF T Y rs=true
 |_,_=>False
theorem UW{X:Cx}{f:FuncId}{fn:Func}{c:Code}(hf:X.P.funcs[f]?=some fn)(hb:fn.body=some c)(hn:(fn.name == "runtime.NumGoroutine")=false){e:TypeId}{sz off n:Nat}{es es':List IV}{xs:List IV}{r:IV}(hx:xs.length+1<=fn.ntmps)
 (h:CW X fn.ntmps c ⟨Lz off n xs,cP [(aJ,.arr e sz es false)],0⟩ (Li X.T fn.results.toList (.arr e sz es' false) r)):be X.P X.I f e sz off n es xs es' r:=by
 refine⟨⟨fn,hf,hn,by rw[hb];rfl⟩,fun H w b cap capS args hI hH hbr hc1 hc2 hc3 hargs=>?_⟩;have hlen:=hargs.length;have hblt:b<w.heap.size:=hbr.lt rfl;refine(vw (n:=0)).1 (vB hf hb trivial ?_);refine h ⟨none,X.r0⟩ ⟨fun k=>k=b\/w.heap.size<=k,w,H,fun g=>bif Nat.beq g aJ then some (b,cap) else none,[]⟩ _ (fun w' hw'=>hI w' hw') (fun e1 Y' M H' U a0 w0 k hS0=>?_) [] H (fun _=>(b,cap)) _ w ⟨⟨hH,BelowO.refl _ _,fun _ hk=>.inr hk,HExtO.refl _ _,fun t=>?_,fun g b0 hg=>?_,fun g g' b0 b' hg hg' _ _ _=>?_,fun p k hk=>?_,MarksOk.nil _ _,fun g s g' b R hg=>(by simp only[cP] at hg;cases hb:Nat.beq g aJ<;>rw[hb] at hg<;>cases hg)⟩,rfl,?_⟩
 . have key:(oq X.T fn.results.toList r Y'/\Y'.bx aJ=some (.arr e sz es' false)/\resF X.T Y' fn.results.toList=true)->∀a' w',St ⟨fun k=>k=b\/w.heap.size<=k,w,H,fun g=>bif Nat.beq g aJ then some (b,cap) else none,[]⟩ fn.ntmps H' U Y'.tm Y'.bx a' w'->a'.tmps=a0.tmps->∃v,(results fn a'.tmps).run X.P w'=.ok v w'/\(∃v1 H1,Ending.returned v=.returned v1/\HeapHas w' H1/\HExtO (fun k=>w.heap.size<=k) H H1/\VR H1 v1 r/\BelowO (fun k=>k=b\/w.heap.size<=k) w w'/\BR (fun k=>k=b\/w.heap.size<=k) w' H1 (b,cap) (.arr e sz es' false)):=fun⟨k,kb,kf⟩ a' w' hS _=>by
    unfold oq at k;unfold resF at kf;split at k
    . rename_i ys fs hr;rw[hr] at kf;have hnf:¬aJ∈fs:=fun hm=>by
       simp only[Ch.2 hm] at kf;cases kf
      obtain⟨H1,l1,S1,vs,e2,V1⟩:=xa X.hT hS.sim hr;have hp:=S1.pin aJ (b,cap) rfl;have hbx:bG Y'.bx fs aJ=some (.arr e sz es' false):=by rw[rc fs _ _ hnf];exact kb
      have hbr':=S1.box aJ _ hbx;rw[hp.1] at hbr';refine⟨(if h:vs.toArray.size=1 then vs.toArray[0] else .tuple vs.toArray),?_,_,H1,rfl,S1.has,⟨S1.ext.1,fun k arr hk=>?_⟩,?_,S1.below,hbr'⟩
      . unfold results;have e0:(fn.results.mapM fun | .tmp t=>pure (a'.tmps.getD t undef) | .cell a t=>do loadVar t (<- asAddr (a'.tmps.getD a undef)):Sem (Array Value))=List.toArray <$> fn.results.toList.mapM (lY a'.tmps):=by
         rw[Ee];rfl
        refine(congrArg (fun(x:Sem (Array Value))=>(x >>= fun vs=>pure (if h:vs.size=1 then vs[0] else .tuple vs)).run X.P w') e0).trans ?_;simp only[av,Ef,e2,au,ay]
      . rcases S1.ext.2 k arr hk with h0|h0
        . exact .inl h0
        . rcases h0 with h0|h0
          . subst h0;have hnone:H1 k=none:=by simpa using hbr'.2.choose_spec.choose_spec.2.1
            rw[hnone] at hk;cases hk
          . exact .inr h0
      . rw[<-k];cases V1 with
        |nil=>exact .tup [] [] .nil
        |cons v x vs xs h0 t=>
         cases t with
         |nil=>exact h0
         |cons v' x' vs xs h1 t=>
          have:¬(v::v'::vs).toArray.size=1:=by simp
          rw[vC this];exact .tup _ _ (.cons _ _ _ _ h0 (.cons _ _ _ _ h1 t))
    . exact k.elim
   cases e1 with
   |normal=>(show LeavesInM (FW none) 0 X.P fn a0.tmps (fun e' w'=>∃v H',e'=.returned v/\HeapHas w' H'/\HExtO (fun k=>w.heap.size<=k) H H'/\VR H' v r/\BelowO (fun k=>k=b\/w.heap.size<=k) w w'/\
    BR (fun k=>k=b\/w.heap.size<=k) w' H' (b,cap) (.arr e sz es' false)) a0.defers .returning w0;rw[hS0.defers];exact rJ M hS0 (key k))
   |ret=>(show LeavesInM (FW none) 0 X.P fn a0.tmps (fun e' w'=>∃v H',e'=.returned v/\HeapHas w' H'/\HExtO (fun k=>w.heap.size<=k) H H'/\VR H' v r/\BelowO (fun k=>k=b\/w.heap.size<=k) w w'/\
    BR (fun k=>k=b\/w.heap.size<=k) w' H' (b,cap) (.arr e sz es' false)) a0.defers .returning w0;rw[hS0.defers];exact rJ M hS0 (key k))
   |_=>exact k.elim
 . cases t with
   |zero=>
    show SR _ _ _ _ (.ref aJ off n false);have hb0:cP [(aJ,Bx.arr e sz es false)] aJ=some (.arr e sz es false):=rfl;simp only[SR,hb0];refine⟨capS,?_,hc1,hc2,hc3,by simp⟩;simp[jd]
   |succ t=>
    show SR _ _ _ _ (argS xs t);rw[w5];cases hx':xs[t]? with
    |some x=>
     have hlt:t<args.length:=by rw[hlen];exact(List.getElem?_eq_some_iff.1 hx').1
     obtain⟨v,h1,h2⟩:=hargs.get t x hx';have:((.slice (some ⟨b,off*sz,none⟩) n capS::args).toArray++Array.replicate (fn.ntmps-(.slice (some ⟨b,off*sz,none⟩) n capS::args).toArray.size) undef).getD (t+1) undef=v:=by
      simp[jd,hlt];exact(List.getElem?_eq_some_iff.1 h1).2
     rw[this];exact h2
    |none=>
     have hge:¬t<args.length:=by
      intro hlt;rw[hlen] at hlt;simp[hlt] at hx'
     show _=undef;simp[jd,hge,vE];split<;>rfl
 . have hm:=iC hg;simp at hm;obtain⟨rfl,rfl⟩:=hm;exact hbr
 . have hm:=iC hg;have hm':=iC hg';simp at hm hm';rw[hm.1,hm'.1]
 . replace hk:(bif Nat.beq p aJ then some (b,cap) else none)=some k:=hk
   cases hb:Nat.beq p aJ with
   |false=>rw[hb] at hk;cases hk
   |true=>
    rw[hb] at hk;cases hk;have e:=aw hb;subst e;exact⟨rfl,by simp[cP,bj],by omega,ak _⟩
 . show((Value.slice (some ⟨b,off*sz,none⟩) n capS::args).toArray++Array.replicate (fn.ntmps-(Value.slice (some ⟨b,off*sz,none⟩) n capS::args).toArray.size) undef).size=fn.ntmps;simp;omega
end Go.Proofs.Fl
namespace Go.Proofs.Fl
open Go.RowKit
inductive Tr where
 |leaf (b:Nat) (l:List (Option TY))
 |node (k:Nat) (l r:Tr)
def C9:List (Option TY)->Nat->Option TY
 | [],_=>none
 |x::_,0=>x
 |_::l,n+1=>C9 l n
theorem Gl:∀{l:List (Option TY)} {n:Nat},l.length<=n->C9 l n=none
 | [],_,_=>rfl
 |_::_,0,h=>by cases h
 |_::l,n+1,h=>Gl (l:=l) (n:=n) (by simpa using h)
noncomputable def Tr.get:Tr->Nat->Option TY
 | .leaf b l,t=>C9 l (t-b)
 | .node k l r,t=>bif Nat.blt t k then l.get t else r.get t
def Tr.small(n:Nat):Tr->Bool
 | .leaf b l=>Nat.ble (b+l.length) n
 | .node k _ r=>Nat.ble k n&&r.small n
theorem F4{n t:Nat}(hn:n<=t):∀{s:Tr},s.small n=true->s.get t=none
 | .leaf b l,h=>Gl (by rw[Tr.small,Mi] at h;omega)
 | .node k l r,h=>by
  simp only[Tr.small,aC,Mi] at h;have:Nat.blt t k=false:=by
   cases hb:Nat.blt t k
   . rfl
   . rw[cR] at hb;omega
  rw[Tr.get,this];exact F4 hn h.2
def Wo:TY:=⟨.int .i64,1,8,.int .i64 0,[]⟩
def u7:TY:=⟨.int .i64,1,8,.int .i64 0,[]⟩
def yz:TY:=⟨.slice 48,1,24,.sl [],[]⟩
def VU:TY:=⟨.slice 78,1,24,.sl [],[]⟩
def Di:TY:=⟨.struct,3,56,.agg [.sl [],.bool false,.sl []],[(0,true,2),(2,true,1)]⟩
def Dh:TY:=⟨.slice 3,1,24,.sl [],[]⟩
def yy:TY:=⟨.struct,4,80,.agg [.sl [],.sl [],.bool false,.sl []],[(0,false,1),(1,true,3)]⟩
def o0:Option TY:=some ⟨.other,1,8,.nil 1,[]⟩
def o1:Option TY:=some ⟨.int .i64,1,8,.int .i64 0,[]⟩
def o2:Option TY:=some ⟨.bool,1,1,.bool false,[]⟩
def o3:Option TY:=some ⟨.int .u8,1,1,.int .u8 0,[]⟩
def o4:Option TY:=some ⟨.struct,4,24,.agg [.int .i64 0,.int .i64 0,.bool false,.int .u8 0],[(0,false,1),(1,false,1),(2,false,1),(3,false,1)]⟩
def o5:Option TY:=some ⟨.string,1,16,.str [],[]⟩
def o6:Option TY:=some ⟨.int .u64,1,8,.int .u64 0,[]⟩
def o7:Option TY:=some ⟨.struct,2,24,.agg [.str [],.int .u64 0],[(0,false,1),(1,false,1)]⟩
def o8:Option TY:=some ⟨.other,1,8,.nil 2,[]⟩
def o9:Option TY:=some ⟨.struct,1,8,.agg [.nil 2],[(0,false,1)]⟩
def ve:Option TY:=some ⟨.other,1,16,.nil 0,[]⟩
def vd:Option TY:=some ⟨.int .i32,1,4,.int .i32 0,[]⟩
def DO:Option TY:=some ⟨.slice 69,1,24,.sl [],[]⟩
def WS:Option TY:=some ⟨.slice 67,1,24,.sl [],[]⟩
def WQ:Option TY:=some ⟨.slice 78,1,24,.sl [],[]⟩
def LV:Option TY:=some ⟨.slice 92,1,24,.sl [],[]⟩
def WP:Option TY:=some ⟨.slice 58,1,24,.sl [],[]⟩
def WO:Option TY:=some ⟨.slice 182,1,24,.sl [],[]⟩
def LU:Option TY:=some ⟨.struct,1,24,.agg [.sl []],[(0,false,1)]⟩
def LT:Option TY:=some ⟨.struct,2,32,.agg [.sl [],.bool false],[(0,true,1),(1,false,1)]⟩
def WN:Option TY:=some ⟨.struct,3,56,.agg [.sl [],.bool false,.sl []],[(0,true,2),(2,true,1)]⟩
def LS:Option TY:=some ⟨.struct,2,32,.agg [.int .i64 0,.sl []],[(0,false,1),(1,false,1)]⟩
def LR:Option TY:=some ⟨.struct,4,64,.agg [.int .i64 0,.sl [],.int .i64 0,.sl []],[(0,true,2),(2,true,2)]⟩
def LQ:Option TY:=some ⟨.struct,3,24,.agg [.int .i64 0,.int .i64 0,.int .u8 0],[(0,false,1),(1,false,1),(2,false,1)]⟩
def LP:Option TY:=some ⟨.struct,4,48,.agg [.sl [],.int .i64 0,.int .i64 0,.int .u8 0],[(0,false,1),(1,true,3)]⟩
def WM:Option TY:=some ⟨.slice 33,1,24,.sl [],[]⟩
def WL:Option TY:=some ⟨.slice 71,1,24,.sl [],[]⟩
def WK:Option TY:=some ⟨.slice 115,1,24,.sl [],[]⟩
def yY:Option TY:=some ⟨.struct,3,56,.agg [.int .i64 0,.sl [],.sl []],[(0,false,1),(1,false,1),(2,false,1)]⟩
def DN:Option TY:=some ⟨.struct,4,80,.agg [.sl [],.sl [],.bool false,.sl []],[(0,false,1),(1,true,3)]⟩
def LO:Option TY:=some ⟨.struct,5,88,.agg [.sl [],.int .i64 0,.sl [],.int .i64 0,.sl []],[(0,false,1),(1,true,4)]⟩
def WJ:Option TY:=some ⟨.slice 28,1,24,.sl [],[]⟩
def LN:Option TY:=some ⟨.struct,6,112,.agg [.sl [],.bool false,.sl [],.sl [],.bool false,.sl []],[(0,true,3),(3,true,3)]⟩
def WI:Option TY:=some ⟨.slice 114,1,24,.sl [],[]⟩
def LM:Option TY:=some ⟨.array 4 3,4,32,.agg [.int .i64 0,.int .i64 0,.int .i64 0,.int .i64 0],[]⟩
def WH:Option TY:=some ⟨.slice 5,1,24,.sl [],[]⟩
def LL:Option TY:=some ⟨.struct,2,32,.agg [.nil 2,.sl []],[(0,false,1),(1,false,1)]⟩
def WG:Option TY:=some ⟨.int .u32,1,4,.int .u32 0,[]⟩
def WF:Option TY:=some ⟨.array 5 3,5,40,.agg [.int .i64 0,.int .i64 0,.int .i64 0,.int .i64 0,.int .i64 0],[]⟩
def LK:Option TY:=some ⟨.struct,3,56,.agg [.sl [],.sl [],.int .i64 0],[(0,false,1),(1,false,1),(2,false,1)]⟩
def WE:Option TY:=some ⟨.slice 227,1,24,.sl [],[]⟩
def WD:Option TY:=some ⟨.array 24 5,24,24,.agg [.int .u8 0,.int .u8 0,.int .u8 0,.int .u8 0,.int .u8 0,.int .u8 0,.int .u8 0,.int .u8 0,.int .u8 0,.int .u8 0,.int .u8 0,.int .u8 0,.int .u8 0,.int .u8 0,.int .u8 0,.int .u8 0,.int .u8 0,.int .u8 0,.int .u8 0,.int .u8 0,.int .u8 0,.int .u8 0,.int .u8 0,.int .u8 0],[]⟩
def WC:Option TY:=some ⟨.array 20 190,20,160,.agg [.int .u64 0,.int .u64 0,.int .u64 0,.int .u64 0,.int .u64 0,.int .u64 0,.int .u64 0,.int .u64 0,.int .u64 0,.int .u64 0,.int .u64 0,.int .u64 0,.int .u64 0,.int .u64 0,.int .u64 0,.int .u64 0,.int .u64 0,.int .u64 0,.int .u64 0,.int .u64 0],[]⟩
def WB:Option TY:=some ⟨.array 65 5,65,65,.agg [.int .u8 0,.int .u8 0,.int .u8 0,.int .u8 0,.int .u8 0,.int .u8 0,.int .u8 0,.int .u8 0,.int .u8 0,.int .u8 0,.int .u8 0,.int .u8 0,.int .u8 0,.int .u8 0,.int .u8 0,.int .u8 0,.int .u8 0,.int .u8 0,.int .u8 0,.int .u8 0,.int .u8 0,.int .u8 0,.int .u8 0,.int .u8 0,.int .u8 0,.int .u8 0,.int .u8 0,.int .u8 0,.int .u8 0,.int .u8 0,.int .u8 0,.int .u8 0,.int .u8 0,.int .u8 0,.int .u8 0,.int .u8 0,.int .u8 0,.int .u8 0,.int .u8 0,.int .u8 0,.int .u8 0,.int .u8 0,.int .u8 0,.int .u8 0,.int .u8 0,.int .u8 0,.int .u8 0,.int .u8 0,.int .u8 0,.int .u8 0,.int .u8 0,.int .u8 0,.int .u8 0,.int .u8 0,.int .u8 0,.int .u8 0,.int .u8 0,.int .u8 0,.int .u8 0,.int .u8 0,.int .u8 0,.int .u8 0,.int .u8 0,.int .u8 0,.int .u8 0],[]⟩
def WA:Option TY:=some ⟨.array 32 5,32,32,.agg [.int .u8 0,.int .u8 0,.int .u8 0,.int .u8 0,.int .u8 0,.int .u8 0,.int .u8 0,.int .u8 0,.int .u8 0,.int .u8 0,.int .u8 0,.int .u8 0,.int .u8 0,.int .u8 0,.int .u8 0,.int .u8 0,.int .u8 0,.int .u8 0,.int .u8 0,.int .u8 0,.int .u8 0,.int .u8 0,.int .u8 0,.int .u8 0,.int .u8 0,.int .u8 0,.int .u8 0,.int .u8 0,.int .u8 0,.int .u8 0,.int .u8 0,.int .u8 0],[]⟩
def Wz:Option TY:=some ⟨.array 64 5,64,64,.agg [.int .u8 0,.int .u8 0,.int .u8 0,.int .u8 0,.int .u8 0,.int .u8 0,.int .u8 0,.int .u8 0,.int .u8 0,.int .u8 0,.int .u8 0,.int .u8 0,.int .u8 0,.int .u8 0,.int .u8 0,.int .u8 0,.int .u8 0,.int .u8 0,.int .u8 0,.int .u8 0,.int .u8 0,.int .u8 0,.int .u8 0,.int .u8 0,.int .u8 0,.int .u8 0,.int .u8 0,.int .u8 0,.int .u8 0,.int .u8 0,.int .u8 0,.int .u8 0,.int .u8 0,.int .u8 0,.int .u8 0,.int .u8 0,.int .u8 0,.int .u8 0,.int .u8 0,.int .u8 0,.int .u8 0,.int .u8 0,.int .u8 0,.int .u8 0,.int .u8 0,.int .u8 0,.int .u8 0,.int .u8 0,.int .u8 0,.int .u8 0,.int .u8 0,.int .u8 0,.int .u8 0,.int .u8 0,.int .u8 0,.int .u8 0,.int .u8 0,.int .u8 0,.int .u8 0,.int .u8 0,.int .u8 0,.int .u8 0,.int .u8 0,.int .u8 0],[]⟩
def LJ:Option TY:=some ⟨.struct,4,40,.agg [.nil 2,.nil 2,.nil 2,.str []],[(0,false,1),(1,false,1),(2,false,1),(3,false,1)]⟩
def Wy:Option TY:=some ⟨.array 0 16,0,0,.agg [],[]⟩
def LI:Option TY:=some ⟨.struct,0,0,.agg [],[(0,true,0)]⟩
def LH:Option TY:=some ⟨.struct,11,48,.agg [.int .u64 0,.int .u64 0,.int .u32 0,.int .u8 0,.int .u8 0,.int .u8 0,.int .u8 0,.nil 1,.nil 2,.int .i32 0,.int .i32 0],[(0,false,1),(1,false,1),(2,false,1),(3,false,1),(4,false,1),(5,false,1),(6,false,1),(7,false,1),(8,false,1),(9,false,1),(10,false,1)]⟩
def oN:Option TY:=none
def Ww:Tr:=.node 32 (.node 16 (.node 8 (.leaf 0 [oN,o0,(some Wo),(some u7),o2,o3,o3,o4]) (.leaf 8 [o4,o5,o5,o5,o6,o7,o7,o8])) (.node 24 (.leaf 16 [o8,o8,o9,o9,ve,vd,DO,WS]) (.leaf 24 [o0,o0,o0,WQ,(some VU),LV,LV,oN]))) (.node 48 (.node 40 (.leaf 32 [o0,(some yz),WP,oN,o0,o1,oN,o0]) (.leaf 40 [oN,o0,WO,LU,LU,LT,LT,WN])) (.node 56 (.leaf 48 [(some Di),oN,o0,o0,o0,o0,(some Dh),LS]) (.leaf 56 [LS,LR,LR,o0,o0,o0,o0,o0])))
def Wv:Tr:=.node 96 (.node 80 (.node 72 (.leaf 64 [o0,o0,LQ,LQ,LP,LP,o0,WM]) (.leaf 72 [WL,WK,yY,yY,o0,DN,(some yy),o0])) (.node 88 (.leaf 80 [yY,yY,oN,o0,o0,oN,o0,o0]) (.leaf 88 [o0,oN,o0,LO,LO,o0,o0,o0]))) (.node 112 (.node 104 (.leaf 96 [o0,o0,o0,o0,o0,o0,o0,o0]) (.leaf 104 [o0,o0,o0,o0,WJ,oN,o0,o0])) (.node 120 (.leaf 112 [o0,LN,LN,WI,o0,o0,o0,o0]) (.leaf 120 [o0,o0,oN,o0,o0,o0,o0,o0])))
def Wu:Tr:=.node 160 (.node 144 (.node 136 (.leaf 128 [o0,o0,LM,LM,o0,o0,o0,o0]) (.leaf 136 [o0,o0,o0,o0,o0,o0,o0,o0])) (.node 152 (.leaf 144 [o0,o0,o0,o0,o0,o0,o0,o0]) (.leaf 152 [o0,o0,o0,o0,o0,oN,o0,o0]))) (.node 176 (.node 168 (.leaf 160 [o0,o0,o0,o0,o0,o0,o0,o0]) (.leaf 168 [o0,o0,o0,o0,o0,o0,o0,o8])) (.node 184 (.leaf 176 [WH,LL,LL,o0,o0,o0,WG,o0]) (.leaf 184 [ve,ve,oN,o0,o0,o0,o6,o0])))
def Wt:Tr:=.node 224 (.node 208 (.node 200 (.leaf 192 [o0,o0,oN,oN,o0,o0,o0,o6]) (.leaf 200 [o0,o0,o0,oN,o0,o0,oN,o0])) (.node 216 (.leaf 208 [o0,o0,o0,o0,o0,o0,o0,o0]) (.leaf 216 [WF,oN,oN,o0,o0,o8,LK,LK]))) (.node 240 (.node 232 (.leaf 224 [o0,WE,DN,DN,o0,o0,o0,o0]) (.leaf 232 [o0,o0,o0,o0,o0,o0,o0,o0])) (.node 248 (.leaf 240 [o0,oN,o0,o0,o0,o8,o0,o0]) (.leaf 248 [o1,oN,o0,o0,o0,o0,o0,o0])))
def Ws:Tr:=.node 288 (.node 272 (.node 264 (.leaf 256 [o0,o0,o0,o0,oN,o0,o0,o0]) (.leaf 264 [o0,o0,o0,oN,o0,o0,o0,o0])) (.node 280 (.leaf 272 [o0,o0,o0,o8,o0,oN,o0,oN]) (.leaf 280 [o0,o6,o0,o0,o8,o0,o0,o0]))) (.node 304 (.node 296 (.leaf 288 [o0,o0,o0,o0,o0,o0,o0,o0]) (.leaf 296 [o0,o0,o0,o0,WD,o0,oN,o0])) (.node 312 (.leaf 304 [o0,o8,oN,o0,o0,o0,o0,o0]) (.leaf 312 [o0,o0,WC,WB,o0,o0,WA,Wz])))
def Wq:Tr:=.node 328 (.leaf 320 [LJ,LJ,Wy,LI,LI,o3,o3,o0]) (.leaf 328 [vd,vd,LH,LH])
def Vs:Tr:=.node 192 (.node 64 Ww (.node 128 Wv Wu)) (.node 256 Wt (.node 320 Ws Wq))
noncomputable def TT(t:TypeId):Option TY:=Vs.get t
theorem T6:(List.range 332).map TT=(List.range 332).map (uP Tryz.prog):=by kernel_rfl
theorem uN:bZ Tryz.prog TT:=fun t ty h=>by
 rcases eS t 332 with hl|hl
 . have:=congrArg (fun l=>l[t]?) T6;simp only[dw,D4 hl,eU,ae] at this;rw[<-this];exact h
 . have:TT t=none:=F4 hl (by kernel_rfl);rw[this] at h;cases h
def W9(w:World)(l:Nat)(fn:FuncId)(tmps:Array Value)(ps:Array Tmp)(assign body:Code):Prop :=
 ∃D,w.heap[l]?=some (.loop { state:=.ready,pending:=none,fn,tmps,params:=ps,assign,body,defers:=D })
structure IterJ(X:Cx)(l:Nat)(ys:List (List IV))(J:(Nat->Prop)->Nat->ah->World->Prop):Prop where
 inv:∀own k H w w',J own k H w->BelowO own w w'->X.I w'
 step:∀own k H H' w w',J own k H w->BelowO own w w'->HeapHas w' H'->HExtO own H H'->J own k H' w'
 sub:∀own own' k H w,J own k H w->(∀b,own' b->own b)->J own' k H w
 round:∀own k H w args (hk:k<ys.length),J own k H w->HeapHas w H->(∀b,w.heap.size<=b->own b)->VRL H args ys[k]->
  YieldAt (FW none) 0 X.P l args.toArray w (fun e w'=>e=.returned (.bool true)/\∃H',HeapHas w' H'/\HLe H H'/\w.heap.size<=w'.heap.size/\w'.os=w.os/\w'.tape=w.tape/\w'.output=w.output/\
   (∀b,own b->b<w.heap.size->w'.heap[b]?=w.heap[b]?/\(H b=none->H' b=none))/\J (fun b=>own b/\(b<w.heap.size\/w'.heap.size<=b)) (k+1) H' w')
def jM(l:Nat):Value:=.func (.yield l) #[] #[]
def bt(X:Cx)(f:FuncId)(zs:List IV)(ys:List (List IV)):Prop :=
 (∃fn,X.P.funcs[f]?=some fn/\(fn.name == "runtime.NumGoroutine")=false/\fn.body.isNone=false)/\
 ∀(l:Nat) (J:(Nat->Prop)->Nat->ah->World->Prop) (own:Nat->Prop) (H:ah) (w:World) (bs:List Nat),IterJ X l ys J->J own 0 H w->HeapHas w H->(∀b,w.heap.size<=b->own b)->mq own w H bs zs->bs.Pairwise (· ≠ ·)->
  CallsIn (FW none) 0 X.P f (jM l::bs.map fun b=>Value.pointer (some ⟨b,0,none⟩)).toArray w (fun e w'=>∃v own' H',e=.returned v/\HeapHas w' H'/\J own' ys.length H' w')
theorem Sim.stand{E:Env}{H H':ah}{U:Nat->Nat×Nat}{tm:Nat->SV}{bx:Nat->Option Bx}{tmps:Array Value}{w w':World}{own:Nat->Prop}(h:Sim E H U tm bx tmps w)(hb:BelowO own w w')(hh:HeapHas w' H')(he:HExtO own H H')(hsub:∀b,own b->E.own b)
 (hbx:∀g b,bx g=some b->b.alive=true->¬own (U g).1) (hrw:∀g s R,bx g=some (.bld s)->RowAt s w (U g).1 R->¬own R) (hm:∀D,({ target:=.collected D,args := #[] }:Deferred)∈E.mrk->¬own D):Sim E H' U tm bx tmps w' where
 has:=hh
 below:=h.below.trans (hb.mono hsub)
 lo k hk:=h.lo k (aP hb.size hk)
 ext:=h.ext.step he hsub
 slot t:=(h.slot t).mono he.1 (fun g b hg=>⟨b,hg,shape.refl b,rfl⟩)
 box g b hg:=by
  by_cases ha:b.alive=true
  . refine(h.box g b hg).keep (hb.block _ (hbx g b hg ha)) he.1 (fun hn=>?_) (fun s R eb hR=>?_)
    . cases hx:H' (U g).1 with
      |none=>rfl
      |some arr=>
       rcases he.2 _ _ hx with h1|h1
       . rw[hn] at h1;cases h1
       . exact absurd h1 (hbx g b hg ha)
    . subst eb;have hno:=hrw g s R hg hR;refine⟨hb.block _ hno,fun hn=>?_⟩;cases hx:H' R with
      |none=>rfl
      |some arr=>
       rcases he.2 _ _ hx with h1|h1
       . rw[hn] at h1;cases h1
       . exact absurd h1 hno
  . cases b<;>first|trivial|simp[Bx.alive] at ha
 inj:=h.inj
 pin:=h.pin
 marks:=⟨h.marks.1,fun d hd=>by
  obtain⟨D,e,ho,hD⟩:=h.marks.2 d hd;exact⟨D,e,ho,(hb.block D (hm D (e▸hd))).trans hD⟩⟩
 hid g s g' b R h1 h2 ha hR:=h.hid g s g' b R h1 h2 ha (hR.same (hb.block _ (hbx g _ h1 rfl)))
theorem Sim.rebase{E:Env}{H:ah}{U:Nat->Nat×Nat}{tm:Nat->SV}{bx:Nat->Option Bx}{tmps:Array Value}{w:World}(h:Sim E H U tm bx tmps w){own:Nat->Prop}{pin:Nat->Option (Nat×Nat)}{M:List Deferred}(hbx:∀g b,bx g=some b->b.alive=true->own (U g).1)(hrw:∀g s R,bx g=some (.bld s)->RowAt s w (U g).1 R->own R)
 (hlo:∀k,w.heap.size<=k->own k) (hpin:∀g k,pin g=some k->U g=k/\bx g≠none/\g<aJ+8/\aJ<=g) (hm:MarksOk own M w):Sim ⟨own,w,H,pin,M⟩ H U tm bx tmps w where
 has:=h.has
 below:=BelowO.refl _ _
 lo:=hlo
 ext:=HExtO.refl _ _
 slot:=h.slot
 box g b hg:=by
  by_cases ha:b.alive=true
  . have:=h.box g b hg;have ho:=hbx g b hg ha;cases b with
    |var x=>exact⟨ho,this.2⟩
    |arr=>exact⟨ho,this.2⟩
    |bld s=>exact⟨ho,this.2.1,this.2.2.1,fun R hR=>⟨hrw g s R hg hR,(this.2.2.2 R hR).2⟩⟩
    |arrN=>exact⟨this.1,ho,this.2.2⟩
    |dead=>trivial
  . cases b<;>first|trivial|simp[Bx.alive] at ha
 inj:=h.inj
 pin:=hpin
 marks:=hm
 hid:=h.hid
def okP(bx:Nat->Option Bx):SV->Prop
 | .unk=>True
 | .und=>True
 | .iv _=>True
 | .nilS=>True
 | .ptr g _=>bx g≠none
 | .cv _ _ gs=>∀g∈gs,bx g≠none
 |_=>False
theorem SR.okP{H H':ah}{U:Nat->Nat×Nat}{bx bx':Nat->Option Bx}{v:Value}(hh:HLe H H'):∀{s:SV},okP bx' s->SR H U bx v s->SR H' U bx' v s
 | .unk,_,_=>trivial
 | .und,_,h=>h
 | .iv _,_,h=>VR.mono hh h
 | .nilS,_,h=>h
 | .ptr _ _,ho,h=>⟨ho,h.2⟩
 | .cv _ _ _,ho,h=>⟨h.1,ho,h.2.2⟩
def lZ(tm:Nat->SV):List Nat->List IV->Nat->SV
 |p::ps,y::ys=>lZ (aD tm p (.iv y)) ps ys
 |_,_=>tm
theorem Sim.puts{E:Env}{H:ah}{U:Nat->Nat×Nat}{bx:Nat->Option Bx}{w:World}{nt:Nat}:∀{ps:List Nat} {ys:List IV} {vs:List Value} {tm:Nat->SV} {tmps:Array Value},Sim E H U tm bx tmps w->tmps.size=nt->(∀p∈ps,p<nt)->VRL H vs ys->
 Sim E H U (lZ tm ps ys) bx ((ps.zip vs).foldl (fun tmps p=>tmps.setIfInBounds p.1 p.2) tmps) w/\((ps.zip vs).foldl (fun tmps p=>tmps.setIfInBounds p.1 p.2) tmps).size=nt
 | [],_,_,_,_,h,hs,_,_=>⟨by simpa[lZ] using h,by simpa using hs⟩
 |p::ps,[],_,_,_,h,hs,_,.nil=>⟨by simpa[lZ] using h,by simpa using hs⟩
 |p::ps,y::ys,_,tm,tmps,h,hs,hp,.cons v _ vs _ hv t=>by
  simp only[lZ,List.zip_cons_cons,iw];exact Sim.puts (h.put (d:=p) (by rw[hs];exact hp p (by simp)) (r:=.iv y) hv) (by rw[D5];exact hs) (fun q hq=>hp q (by simp[hq])) t
def Cx.any(X:Cx):Cx:={ X with ro:=fun _=>True,r0:=trivial }
def sH(bx:Nat->Option Bx):List Nat->List IV->Prop
 | [],[]=>True
 |g::gs,z::zs=>bx g=some (.var z)/\sH bx gs zs
 |_,_=>False
theorem Bo{E:Env}{H:ah}{U:Nat->Nat×Nat}{tm:Nat->SV}{bx:Nat->Option Bx}{tmps:Array Value}{w:World}(h:Sim E H U tm bx tmps w){own:Nat->Prop}:∀{gs:List Nat} {zs:List IV},sH bx gs zs->(∀g∈gs,own (U g).1)->mq own w H (gs.map fun g=>(U g).1) zs
 | [],[],_,_=>trivial
 | [],_::_,h,_=>h.elim
 |_::_,[],h,_=>h.elim
 |g::gs,z::zs,hc,ho=>by
  refine⟨?_,Bo h hc.2 (fun g hg=>ho g (by simp[hg]))⟩;have:=h.box g _ hc.1;exact⟨ho g (by simp),this.2⟩
theorem lF{bx:Nat->Option Bx}:∀{gs:List Nat} {zs:List IV},sH bx gs zs->∀g∈gs,∃z,bx g=some (.var z)
 | [],_,_,g,hg=>by cases hg
 |_::_,[],h,_,_=>h.elim
 |g::gs,z::zs,hc,g',hg=>by
  rcases List.mem_cons.1 hg with rfl|hg
  . exact⟨z,hc.1⟩
  . exact lF hc.2 g' hg
def JX(X:Cx)(nt:Nat)(body:Code)(bx':Nat->Option Bx):Exit->AS->Prop
 | .normal,Y=>CW X.any nt body Y fun e Y'=>e=.normal/\∀id b,bx' id=some b->Y'.bx id=some b
 |_,_=>False
structure RJ(X:Cx)(E:Env)(nt:Nat)(U:Nat->Nat×Nat)(tm:Nat->SV)(inv:Nat->Nat->Option Bx)(l:Nat)(fn:FuncId)(tmps:Array Value)(ps:Array Tmp)(assign body:Code)(own:Nat->Prop)(k:Nat)(H:ah)(w:World):Prop where
 sim:Sim E H U tm (inv k) tmps w
 rec':W9 w l fn tmps ps assign body
 sub:∀b,own b->E.own b
 nl:¬own l
 el:E.own l
 bxs:∀g b,inv k g=some b->¬own (U g).1
 rws:∀g s R,inv k g=some (.bld s)->RowAt s w (U g).1 R->¬own R
 mks:∀D,({ target:=.collected D,args := #[] }:Deferred)∈E.mrk->¬own D
theorem RJ.iter{X:Cx}{E:Env}{nt:Nat}{U:Nat->Nat×Nat}{tm:Nat->SV}{inv:Nat->Nat->Option Bx}{l:Nat}{fn:FuncId}{tmps:Array Value}{ps:Array Tmp}{assign body:Code}{ys:List (List IV)}{nx:Nat}
 (hI:∀w,BelowO E.own E.w0 w->X.I w) (hnt:tmps.size=nt) (hps:∀p∈ps.toList,p<nt) (hys:∀y∈ys,y.length=ps.size)
 (htm:∀k t,okP (inv k) (tm t)) (hal:∀k g b,inv k g=some b->b.alive=true/\aJ<=g/\g<aJ+8) (hdom:∀k g,inv k g≠none->inv (k+1) g≠none) (hdom':∀k g,inv (k+1) g≠none->inv k g≠none)
 (hround:∀k (hk:k<ys.length),CW X.any nt assign ⟨lZ tm ps.toList ys[k],inv k,nx⟩ (JX X nt body (inv (k+1)))):IterJ X l ys (RJ X E nt U tm inv l fn tmps ps assign body) where
 inv own k H w w' h hb:=hI _ (h.sim.below.trans (hb.mono h.sub))
 step own k H H' w w' h hb hh he:=by
  refine⟨h.sim.stand hb hh he h.sub (fun g b hg _=>h.bxs g b hg) h.rws h.mks,?_,h.sub,h.nl,h.el,h.bxs,fun g s R hg hR=>h.rws g s R hg (hR.same (hb.block _ (h.bxs g _ hg))),h.mks⟩;obtain⟨D,hD⟩:=h.rec';exact⟨D,(hb.block l h.nl).trans hD⟩
 sub own own' k H w h hs:=⟨h.sim,h.rec',fun b hb=>h.sub b (hs b hb),fun e=>h.nl (hs _ e),h.el,fun g b hg e=>h.bxs g b hg (hs _ e),fun g s R hg hR e=>h.rws g s R hg hR (hs _ e),fun D hD e=>h.mks D hD (hs _ e)⟩
 round own k H w args hk h hh hlo hargs:=by
  obtain⟨D,hD⟩:=h.rec';have hlen:=hargs.length;have hlt:l<w.heap.size:=(Array.getElem?_eq_some_iff.1 hD).1;have hsz:args.toArray.size=ps.size:=by
   simp only[ko,hlen];exact hys _ (bV hk)
  refine⟨fn,_,assign,body,run_yield hD hsz,?_⟩;refine roundIn_of_wpIn trivial ?_
  -- the blocks that the round may write
  let ow:Nat->Prop:=fun b=>E.own b/\¬(own b/\b<w.heap.size)/\b≠l/\¬({ target:=.collected b,args := #[] }:Deferred)∈E.mrk
  let pn:Nat->Option (Nat×Nat):=fun g=>match inv k g with|some _=>some (U g)|none=>none
  have mklt:∀D,({ target:=.collected D,args := #[] }:Deferred)∈E.mrk->w.heap[D]?=some (.deferred (some [])):=fun D hD=>by
   obtain⟨D',e,_,hb⟩:=h.sim.marks.2 _ hD;cases e;exact hb
  have olo:∀b,w.heap.size<=b->ow b:=fun b hb=>⟨h.sim.lo b hb,fun⟨_,h2⟩=>by omega,by omega,fun hm=>by
   have:=(Array.getElem?_eq_some_iff.1 (mklt b hm)).1;omega⟩
  have obx:∀g b,inv k g=some b->b.alive=true->ow (U g).1:=fun g b hg ha=>by
   obtain⟨arr,e',hc⟩:=(h.sim.box g b hg).cells ha;exact⟨(h.sim.box g b hg).lo ha,fun⟨h1,_⟩=>h.bxs g b hg h1,fun e=>(by rw[e,hD] at hc;cases hc),fun hm=>(by rw[mklt _ hm] at hc;cases hc)⟩
  have opn:∀g q,pn g=some q->U g=q/\inv k g≠none/\g<aJ+8/\aJ<=g:=fun g q hq=>by
   have hq':(match inv k g with|some _=>some (U g)|none=>none)=some q:=hq;cases hg:inv k g with
   |none=>rw[hg] at hq';cases hq'
   |some b=>
    rw[hg] at hq';have:=hal k g b hg;exact⟨by simpa using hq',by simp,this.2.2,this.2.1⟩
  have orw:∀g s R,inv k g=some (.bld s)->RowAt s w (U g).1 R->ow R:=fun g s R hg hR=>by
   have hb:=h.sim.box g _ hg;obtain⟨_,_,arr,_,fz,hx⟩:=jL hb.2.2.1 hR;exact⟨(hb.2.2.2 R hR).1,fun⟨h1,_⟩=>h.rws g s R hg hR h1,fun e=>(by rw[e,hD] at hx;cases hx),fun hm=>(by rw[mklt _ hm] at hx;cases hx)⟩
  have S1:=(h.sim.rebase (own:=ow) (pin:=pn) (M:=[]) obx orw olo opn (MarksOk.nil _ _));obtain⟨S2,hs2⟩:=S1.puts (ps:=ps.toList) (ys:=ys[k]) (vs:=args) hnt hps hargs;have hI1:∀w',BelowO ow w w'->X.I w':=fun w' hb=>hI _ (h.sim.below.trans (hb.mono fun b hb=>hb.1));have etm:(ps.zip args.toArray).foldl (fun tmps (t,a)=>tmps.setIfInBounds t a) tmps=(ps.toList.zip args).foldl (fun tmps p=>tmps.setIfInBounds p.1 p.2) tmps:=by
   rw[<-Xg,Array.toList_zip]
  have r1:=hround k hk ⟨some l,ab⟩ ⟨ow,w,H,pn,[]⟩ (Exit.then (fun a₁ w₁=>∃w₂,(Instr.beginRound l).run X.P w₁=.ok () w₂/\body.wpIn ((FW none).inRound l) 0 X.P (roundPost X.P l (fun e w'=>e=.returned (.bool true)/\∃H',HeapHas w' H'/\HLe H H'/\w.heap.size<=w'.heap.size/\w'.os=w.os/\w'.tape=w.tape/\w'.output=w.output/\
   (∀b,own b->b<w.heap.size->w'.heap[b]?=w.heap[b]?/\(H b=none->H' b=none))/\RJ X E nt U tm inv l fn tmps ps assign body (fun b=>own b/\(b<w.heap.size\/w'.heap.size<=b)) (k+1) H' w')) a₁ w₂) (fun _ _ _=>False)) hI1 ?_ [] H U
   { tmps:=(ps.zip args.toArray).foldl (fun tmps (t,a)=>tmps.setIfInBounds t a) tmps,defers:=[] } w ⟨by rw[etm];exact S2,rfl,by rw[etm];exact hs2⟩
  . exact r1
  intro e Y' M1 H1 β1 a1 w1 hk1 hS1;cases e with
  |normal=>?_
  |_=>exact hk1.elim
  have hw1:w1.heap[l]?=w.heap[l]?:=hS1.sim.below.block l (fun ho=>ho.2.2.1 rfl);have hD1:=hw1.trans hD;refine⟨_,run_beginRound hD1 rfl,?_⟩
  -- the body
  have T1:Sim ⟨ow,w1,H1,pn,M1⟩ H1 β1 Y'.tm Y'.bx a1.tmps w1:=hS1.sim.rebase (fun g b hg ha=>(hS1.sim.box g b hg).lo ha) (fun g s R hg hR=>((hS1.sim.box g _ hg).2.2.2 R hR).1) hS1.sim.lo hS1.sim.pin hS1.sim.marks
  let w2:=w1.putObj l (.loop { state:=.busy,pending:=none,fn,tmps,params:=ps,assign,body,defers:=D })
  have T2:Sim ⟨fun b=>ow b\/b=l,w1,H1,pn,M1⟩ H1 β1 Y'.tm Y'.bx a1.tmps w1:=hS1.sim.rebase (fun g b hg ha=>.inl ((hS1.sim.box g b hg).lo ha)) (fun g s R hg hR=>.inl ((hS1.sim.box g _ hg).2.2.2 R hR).1) (fun k hk=>.inl (hS1.sim.lo k hk)) hS1.sim.pin
   ⟨hS1.sim.marks.1,fun d hd=>by obtain⟨D',e,ho,hb⟩:=hS1.sim.marks.2 d hd;exact⟨D',e,.inl ho,hb⟩⟩
  have T3:Sim ⟨fun b=>ow b\/b=l,w1,H1,pn,M1⟩ H1 β1 Y'.tm Y'.bx a1.tmps w2:=T2.poke _ hD1 rfl (.inr rfl) (fun d hd e=>by
   obtain⟨D',e',ho,hb⟩:=hS1.sim.marks.2 d hd;rw[e] at e';cases e';rw[hD1] at hb;cases hb)
  have hne1:∀g b,Y'.bx g=some b->b.alive=true->(β1 g).1≠l:=fun g b hg ha e=>by
   obtain⟨arr,e',hc⟩:=(hS1.sim.box g b hg).cells ha;rw[e,hD1] at hc;cases hc
  have T4:Sim ⟨ow,w2,H1,pn,M1⟩ H1 β1 Y'.tm Y'.bx a1.tmps w2:=T3.rebase (fun g b hg ha=>(hS1.sim.box g b hg).lo ha) (fun g s R hg hR=>((hS1.sim.box g _ hg).2.2.2 R (hR.same (cl (hne1 g _ hg rfl)))).1) (fun k hk=>hS1.sim.lo k (by simpa[w2] using hk)) T3.pin
   ⟨T3.marks.1,fun d hd=>by
    obtain⟨D',e,ho,hb⟩:=T3.marks.2 d hd;refine⟨D',e,ho.resolve_right (fun e'=>?_),hb⟩;obtain⟨D2,e2,ho2,hb2⟩:=hS1.sim.marks.2 d hd;rw[e] at e2;cases e2;rw[e',hD1] at hb2;cases hb2⟩
  have hI2:∀w',BelowO ow w2 w'->X.I w':=fun w' hb=>by
   refine hI _ (h.sim.below.trans ?_);have b1:BelowO E.own w w1:=hS1.sim.below.mono (fun b hb=>hb.1);have b2:BelowO E.own w1 w2:=⟨rfl,rfl,rfl,by simp[w2],fun b hb=>cl (fun e=>hb (by rw[e];exact h.el))⟩;exact b1.trans (b2.trans (hb.mono (fun b hb=>hb.1)))
  refine hk1 ⟨some l,ab⟩ ⟨ow,w2,H1,pn,[]⟩ _ hI2 ?_ M1 H1 β1 a1 w2 ⟨T4,hS1.defers,hS1.size⟩;intro e3 σ3 M3 H3 β3 a3 w3 hk3 hS3;obtain⟨rfl,hk3⟩:=hk3;have hD3:w3.heap[l]?=some (.loop { state:=.busy,pending:=none,fn,tmps,params:=ps,assign,body,defers:=D }):=by
   rw[hS3.sim.below.block l (fun ho=>ho.2.2.1 rfl)];exact vF (Array.getElem?_eq_some_iff.1 hD1).1
  refine⟨_,_,run_endRound none hD3,rfl,H3,?_⟩;have nl3:∀b arr,H3 b=some arr->b≠l:=fun b arr hb e=>by
   obtain⟨t,fr,ht⟩:=hS3.sim.has b arr hb;rw[e,hD3] at ht;cases ht
  have hle:HLe H H3:=hS1.sim.ext.1.trans hS3.sim.ext.1;have hsz2:w2.heap.size=w1.heap.size:=by simp[w2]
  have hsz3:w.heap.size<=w3.heap.size:=aP hS1.sim.below.size (by have:w2.heap.size<=w3.heap.size:=hS3.sim.below.size;omega);have hout:∀b,¬ow b->b≠l->w3.heap[b]?=w.heap[b]?:=fun b hb hbl=>by
   rw[hS3.sim.below.block b hb,show w2.heap[b]?=w1.heap[b]? from cl hbl,hS1.sim.below.block b hb]
  have hext:∀b arr,H3 b=some arr->H b=some arr\/ow b:=fun b arr hb=>by
   rcases hS3.sim.ext.2 b arr hb with h1|h1
   . exact hS1.sim.ext.2 b arr h1
   . exact .inr h1
  have hβ:∀g b,inv k g=some b->β3 g=U g:=fun g b hg=>(hS3.sim.pin g (U g) (by show(match inv k g with|some _=>some (U g)|none=>none)=_;rw[hg])).1;have hinv:∀g b,inv (k+1) g=some b->∃b0,inv k g=some b0:=fun g b hg=>by
   cases hx:inv k g with
   |none=>exact absurd hx (hdom' k g (by rw[hg];simp))
   |some b0=>exact⟨b0,rfl⟩
  have hb4:BelowO E.own w (w3.putObj l (.loop { state:=.ready,pending:=none,fn,tmps,params:=ps,assign,body,defers:=D })):=by
   have b1:BelowO E.own w w1:=hS1.sim.below.mono (fun b hb=>hb.1);have b2:BelowO E.own w1 w2:=⟨rfl,rfl,rfl,by simp[w2],fun b hb=>cl (fun e=>hb (by rw[e];exact h.el))⟩;have b3:BelowO E.own w2 w3:=hS3.sim.below.mono (fun b hb=>hb.1);have b4:BelowO E.own w3 (w3.putObj l (.loop { state:=.ready,pending:=none,fn,tmps,params:=ps,assign,body,defers:=D })):=⟨rfl,rfl,rfl,by simp,fun b hb=>cl (fun e=>hb (by rw[e];exact h.el))⟩;exact b1.trans (b2.trans (b3.trans b4))
  refine⟨fun b arr hb=>?_,hle,by simpa using hsz3,hb4.os,hb4.tape,hb4.output,fun b hb hbw=>⟨?_,fun hn=>?_⟩,?_⟩
  . obtain⟨t,fr,ht⟩:=hS3.sim.has b arr hb;exact⟨t,fr,(cl (nl3 b arr hb)).trans ht⟩
  . have hbl:b≠l:=fun e=>h.nl (by rw[<-e];exact hb);exact(cl hbl).trans (hout b (fun ho=>ho.2.1 ⟨hb,hbw⟩) hbl)
  . cases hx:H3 b with
    |none=>rfl
    |some arr=>
     rcases hext b arr hx with h1|h1
     . rw[hn] at h1;cases h1
     . exact absurd ⟨hb,hbw⟩ h1.2.1
  . refine⟨?_,⟨D,vF (Array.getElem?_eq_some_iff.1 hD3).1⟩,fun b hb=>h.sub b hb.1,fun hb=>h.nl hb.1,h.el,fun g b hg hb=>?_,fun g s R hg hR hb=>?_,fun D' hD' hb=>h.mks D' hD' hb.1⟩
    . refine⟨fun b arr hb=>?_,h.sim.below.trans hb4,fun b hb=>h.sim.lo b (aP hsz3 (by simpa using hb)),h.sim.ext.step (own':=ow) ⟨hle,hext⟩ (fun b hb=>hb.1),fun t=>(h.sim.slot t).okP hle (htm (k+1) t),fun g b hg=>?_,fun g g' b b' hg hg' ha ha' e=>?_,fun g q hq=>?_,⟨h.sim.marks.1,fun d hd=>?_⟩,fun g s g' b R hg hg' ha hR=>?_⟩
      . obtain⟨t,fr,ht⟩:=hS3.sim.has b arr hb;exact⟨t,fr,(cl (nl3 b arr hb)).trans ht⟩
      . obtain⟨b0,hb0⟩:=hinv g b hg;have ha:=(hal (k+1) g b hg).1;have hbr:=hS3.sim.box g b (hk3 g b hg);have hcell:=hbr.cells ha;rw[hβ g b0 hb0] at hbr hcell;refine(hbr.own_mono (fun b hb=>hb.1)).keep (cl fun e=>?_) (HLe.refl _) id (fun s R eb hR=>⟨cl fun e=>?_,id⟩)
        . obtain⟨arr,e',hc⟩:=hcell;rw[e,hD3] at hc;cases hc
        . subst eb;obtain⟨_,_,arr,_,fz,hx⟩:=jL hbr.2.2.1 hR;rw[e,hD3] at hx;cases hx
      . obtain⟨b0,hb0⟩:=hinv g b hg;obtain⟨b0',hb0'⟩:=hinv g' b' hg';rw[<-hβ g b0 hb0,<-hβ g' b0' hb0'] at e;exact hS3.sim.inj g g' b b' (hk3 g b hg) (hk3 g' b' hg') ha ha' e
      . obtain⟨p1,p2,p3⟩:=h.sim.pin g q hq;exact⟨p1,hdom k g p2,p3⟩
      . obtain⟨D',e,ho,hb⟩:=h.sim.marks.2 d hd;have hDl:D'≠l:=fun e'=>by rw[e',hD] at hb;cases hb
        refine⟨D',e,ho,(cl hDl).trans ((hout D' (fun ho'=>ho'.2.2.2 (e▸hd)) hDl).trans hb)⟩
      . obtain⟨b0,hb0⟩:=hinv g _ hg;obtain⟨b0',hb0'⟩:=hinv g' b hg';have hbr:=hS3.sim.box g _ (hk3 g _ hg);rw[<-hβ g b0 hb0] at hR;rw[<-hβ g' b0' hb0'];refine hS3.sim.hid g s g' b R (hk3 g _ hg) (hk3 g' b hg') ha (hR.same (cl fun e=>?_));obtain⟨arr,e',hc⟩:=hbr.cells rfl;rw[e,hD3] at hc;cases hc
    . obtain⟨b0,hb0⟩:=hinv g b hg;exact h.bxs g b0 hb0 hb.1
    . obtain⟨b0,hb0⟩:=hinv g _ hg;have hbr:=hS3.sim.box g _ (hk3 g _ hg);rw[<-hβ g b0 hb0] at hR;have hR3:RowAt s w3 (β3 g).1 R:=hR.same (cl fun e=>by
       obtain⟨arr,e',hc⟩:=hbr.cells rfl;rw[e,hD3] at hc;cases hc)
      have hlt:=(jL hbr.2.2.1 hR3).1;have how:=(hbr.2.2.2 R hR3).1;rcases hb.2 with h1|h1
      . exact how.2.1 ⟨hb.1,h1⟩
      . have h1:w3.heap.size<=R:=by simpa using h1
        omega
theorem CW.range{X:Cx}{nt:Nat}{Y:AS}{K:Exit->AS->Prop}(hro:∀r,X.ro r->r=none){g:Operand}{ps:Array Tmp}{assign body:Code}{f:FuncId}{gs:List Nat}{zs:List IV}{ys:List (List IV)}(hg:evS Y.tm g=.clo f gs)(hz:sH Y.bx gs zs)(hgs:gs.Pairwise (· ≠ ·))
 (hit:bt X f zs ys) (tm:Nat->SV) (inv:Nat->Nat->Option Bx) {nx:Nat} (hps:∀p∈ps.toList,p<nt) (hys:∀y∈ys,y.length=ps.size)
 (h0:∀t,tm t=.unk\/Y.tm t=tm t) (htm:∀k t,okP (inv k) (tm t)) (hb0:∀g b,inv 0 g=some b->Y.bx g=some b) (hdj:∀id∈gs,inv 0 id=none)
 (hal:∀k g b,inv k g=some b->b.alive=true/\aJ<=g/\g<aJ+8) (hdom:∀k g,inv k g≠none↔inv (k+1) g≠none) (hpinned:∀i,i<8->Y.bx (aJ+i)≠none->inv 0 (aJ+i)≠none)
 (hround:∀k (hk:k<ys.length),CW X.any nt assign ⟨lZ tm ps.toList ys[k],inv k,nx⟩ (JX X nt body (inv (k+1)))) (hend:K .normal ⟨tm,inv ys.length,nx⟩):CW X nt (.rangeFunc g ps assign body) Y K:=by
 intro ro E Q hI hQ M H U a w hS;have er:=hro ro.1 ro.2;rw[er];refine wpIn_rangeFunc fun fn _=>?_;obtain⟨⟨fn',hf1,hf2,hf3⟩,hcall⟩:=hit
 let w1:World:=(w.alloc (.deferred (some []))).alloc (.loop { state:=.ready,pending:=none,fn,tmps:=a.tmps,params:=ps,assign,body,defers:=w.heap.size })
 have hv:=aU hS.sim rfl g;rw[hg] at hv;obtain⟨hv1,hv2⟩:=hv
 let bs:=gs.map fun g=>(U g).1
 have hbel:Below w.heap.size w w1:=((mr _ _).alloc (ak _) _).alloc (by simp) _;have hw1l:w1.heap[w.heap.size+1]?=some (.loop { state:=.ready,pending:=none,fn,tmps:=a.tmps,params:=ps,assign,body,defers:=w.heap.size }):=by
  have:=Mj (w.alloc (.deferred (some []))) (.loop { state:=.ready,pending:=none,fn,tmps:=a.tmps,params:=ps,assign,body,defers:=w.heap.size });rwa[World.size_alloc] at this
 have hw1D:w1.heap[w.heap.size]?=some (.deferred (some [])) :=
  (Below.heap_alloc (w.alloc (.deferred (some []))) _ w.heap.size (by simp)).trans (Mj w _)
 have hsz1:w1.heap.size=w.heap.size+2:=by simp[w1]
 have G1:=hS.sim.grow hbel (fun b arr hb=>by
  obtain⟨t,fr,ht⟩:=hS.sim.has b arr hb;exact⟨t,fr,(hbel.block b (hS.sim.has.lt hb)).trans ht⟩) (HExt.refl _ _)
 let M':List Deferred:={ target:=.collected w.heap.size,args := #[] }::M
 have G2:Sim (E.mks M') H U tm (inv 0) a.tmps w1:=by
  refine⟨G1.has,G1.below,G1.lo,G1.ext,fun t=>?_,fun g b hb=>G1.box g b (hb0 g b hb),fun g g' b b' h1 h2=>G1.inj g g' b b' (hb0 g b h1) (hb0 g' b' h2),fun g q hq=>?_,?_,?_⟩
  . rcases h0 t with e|e
    . rw[e];trivial
    . have:=G1.slot t;rw[e] at this;exact this.okP (HLe.refl _) (htm 0 t)
  . obtain⟨p1,p2,p3,p4⟩:=G1.pin g q hq;have hh:=hpinned (g-aJ) (by omega);rw[show aJ+(g-aJ)=g by omega] at hh;exact⟨p1,hh p2,p3,p4⟩
  rotate_left
  . exact fun g s g' b R h1 h2 ha hR=>G1.hid g s g' b R (hb0 g _ h1) (hb0 g' b h2) ha hR
  . refine⟨List.pairwise_cons.2 ⟨fun d hd e=>?_,G1.marks.1⟩,fun d hd=>?_⟩
    . obtain⟨D,e',_,hb⟩:=hS.sim.marks.2 d hd;rw[<-e] at e';cases e';have:=(Array.getElem?_eq_some_iff.1 hb).1;omega
    . rcases List.mem_cons.1 hd with rfl|hd
      . exact⟨_,rfl,hS.sim.lo _ (ak _),hw1D⟩
      . exact G1.marks.2 d hd
 refine⟨w.heap.size+1,[{ target:=.collected w.heap.size,args := #[] }],w1,{ target:=.fn (.func f) (bs.map fun b=>Value.pointer (some ⟨b,0,none⟩)).toArray,args := #[jM (w.heap.size+1)] },w1,f,(jM (w.heap.size+1)::bs.map fun b=>Value.pointer (some ⟨b,0,none⟩)).toArray,w1,?_,?_,fun _ _=>trivial,?_,fun e=>(by cases e),?_⟩
 . exact run_enterLoop_outer fn a.tmps ps assign body
 . simp only[resolve,rangeCall,hv2,Deferred.ofValue,ay];simp[Act.eval,jM,bs]
 . simp only[invoke,callFunc,av,tf,au,hf1,hf2,hf3,cM,bE,ay];congr 2;apply dZ;simp
 . refine(hcall (w.heap.size+1) (RJ X (E.mks M') nt U tm inv (w.heap.size+1) fn a.tmps ps assign body) (fun b=>b∈bs\/w1.heap.size<=b) H w1 bs
    (RJ.iter hI hS.size hps hys htm hal (fun k g=>(hdom k g).1) (fun k g=>(hdom k g).2) hround) ?_ G2.has (fun b hb=>.inr hb) ?_ ?_).mono ?_
   . have hbs:∀b∈bs,b<w.heap.size/\E.own b:=fun b hb=>by
      obtain⟨g',hg',rfl⟩:=List.mem_map.1 hb;obtain⟨z,hz'⟩:=lF hz g' hg';exact⟨(hS.sim.box g' _ hz').lt rfl,(hS.sim.box g' _ hz').lo rfl⟩
     refine⟨G2,⟨_,hw1l⟩,fun b hb=>hb.elim (fun h=>(hbs b h).2) (fun h=>G1.lo b h),fun hb=>hb.elim (fun h=>by have:=(hbs _ h).1;omega) (fun h=>by omega),hS.sim.lo _ (by omega),fun g' b hg' hb=>?_,fun g' s R hg' hR hb=>?_,fun D hD hb=>?_⟩
     . have hbx:=hb0 g' b hg';have ha:=(hal 0 g' b hg').1;rcases hb with hb|hb
       . obtain⟨g2,hg2,e⟩:=List.mem_map.1 hb;obtain⟨z,hz'⟩:=lF hz g2 hg2;have:=hS.sim.inj g2 g' _ b hz' hbx rfl ha e;subst this;rw[hdj g2 hg2] at hg';cases hg'
       . have:=(G1.box g' b hbx).lt ha;omega
     . have hbx:=hb0 g' _ hg';rcases hb with hb|hb
       . obtain⟨g2,hg2,e⟩:=List.mem_map.1 hb;obtain⟨z,hz'⟩:=lF hz g2 hg2;exact G1.hid g' s g2 _ R hbx hz' rfl hR e
       . have:=(jL (G1.box g' _ hbx).2.2.1 hR).1;omega
     . obtain⟨D',e,_,hx⟩:=G2.marks.2 _ hD;cases e;have hlt:=(Array.getElem?_eq_some_iff.1 hx).1;rcases hb with hb|hb
       . obtain⟨g2,hg2,e⟩:=List.mem_map.1 hb;obtain⟨z,hz'⟩:=lF hz g2 hg2;obtain⟨arr,e',hc⟩:=(G1.box g2 _ hz').cells rfl;rw[e,hx] at hc;cases hc
       . omega
   . exact Bo G1 hz (fun g' hg'=>.inl (List.mem_map.2 ⟨g',hg',rfl⟩))
   . refine List.pairwise_map.2 (hgs.imp_of_mem fun{x y} hx hy hne e=>hne ?_);obtain⟨z1,hz1⟩:=lF hz x hx;obtain⟨z2,hz2⟩:=lF hz y hy;exact hS.sim.inj x y _ _ hz1 hz2 rfl rfl e
   . rintro e w3 ⟨v,own',H3,rfl,hh3,hJ⟩;obtain⟨D3,hD3⟩:=hJ.rec';refine⟨none,_,run_endLoop hD3 (by simp),?_⟩;refine hQ .normal ⟨tm,inv ys.length,nx⟩ M' H3 U _ _ hend ⟨hJ.sim.poke _ hD3 rfl hJ.el (fun d hd e=>?_),?_,hS.size⟩
     . obtain⟨D',e',_,hb⟩:=hJ.sim.marks.2 d hd;rw[e] at e';cases e';rw[hD3] at hb;cases hb
     . show _++a.defers=_;rw[hS.defers];rfl
structure Keep where
 I:World->Prop
 bel:∀n w w',I w->w.heap.size<=n->Below n w w'->I w'
 ro:Option Nat->Prop
 r0:ro none
def Keep.top(J:Keep):Keep:=⟨J.I,J.bel,fun r=>r=none,rfl⟩
def Keep.any(J:Keep):Keep:=⟨J.I,J.bel,fun _=>True,ab⟩
noncomputable def cx(J:Keep):Cx:=⟨Tryz.prog,J.I,TT,uN,by kernel_rfl,J.bel,fun f=>Nat.beq f 197||Nat.beq f 198,fun f=>Nat.beq f 119,J.ro,J.r0⟩
abbrev C(J:Keep):FuncId->List IV->IV->Prop:=aY Tryz.prog J.I
def pV(nt:Nat)(all:Array Oper)(draw:Bool):Bool:=cn nt all.toList&&(!draw||n7 all (jZ all.toList))
def W(J:Keep)(nt:Nat)(c:Code)(Y:AS)(K:Exit->AS->Prop):Prop:=CW (cx J) nt c Y K
def wK(J:Keep)(nt:Nat)(y:Code)(K:Exit->AS->Prop):Exit->AS->Prop
 | .normal,Y=>W J nt y Y K
 |e,Y=>K e Y
section
variable {J:Keep}{nt:Nat}{Y:AS}{K:Exit->AS->Prop}
theorem aI{f:FuncId}{fn:Func}{c:Code}(hf:Tryz.prog.funcs[f]?=some fn)(hb:fn.body=some c)(hn:(fn.name == "runtime.NumGoroutine")=false){xs:List IV}{r:IV}(hx:Nat.ble xs.length fn.ntmps=true)
 (h:W J fn.ntmps c ⟨argS xs,fun _=>none,0⟩ (Lj TT fn.results.toList r)):C J f xs r :=
 Sj (X:=cx J) hf hb hn (aB hx) h
theorem KT{f:FuncId}{fn:Func}{c:Code}(hf:Tryz.prog.funcs[f]?=some fn)(hb:fn.body=some c)(hn:(fn.name == "runtime.NumGoroutine")=false){e:TypeId}{sz off n:Nat}{es es' xs:List IV}{r:IV}(hx:Nat.ble (xs.length+1) fn.ntmps=true)
 (h:W J fn.ntmps c ⟨Lz off n xs,cP [(aJ,.arr e sz es false)],0⟩ (Li TT fn.results.toList (.arr e sz es' false) r)):be Tryz.prog J.I f e sz off n es xs es' r :=
 UW (X:=cx J) hf hb hn (aB hx) h
theorem W.R{id:Nat}{all:Array Oper}{draw:Bool}(h0:pV nt all draw=true)(h:qj (cx J) all draw Y (K .normal)):W J nt (.region id all draw) Y K:=by
 simp only[pV,aC,fO] at h0;exact CW.region h0.1 (fun e=>h0.2.resolve_left (by subst e;simp)) h
theorem W.S{x y:Code}(h:W J nt x Y (wK J nt y K)):W J nt (.seq x y) Y K:=CW.seq (CW.mono h fun e Y k=>by cases e<;>exact k)
theorem W.RS{id:Nat}{all:Array Oper}{draw:Bool}{y:Code}(h0:pV nt all draw=true)(h:qj (cx J) all draw Y fun Y'=>W J nt y Y' K):W J nt (.seq (.region id all draw) y) Y K :=
 W.S (W.R h0 h)
theorem W.skip(h:K .normal Y):W J nt .skip Y K:=CW.skip h
theorem W.ret(h:K .ret Y):W J nt .ret Y K:=CW.ret h
theorem W.exit{id:Nat}(h:K (.exit id) Y):W J nt (.exit id) Y K:=CW.exit h
theorem W.label{l:Nat}(h:K .normal Y):W J nt (.label l) Y K:=CW.label h
theorem W.cond{c:Operand}{x y:Code}{t:Bool}(hc:evS Y.tm c=.iv (.bool t))(h1:t=true->W J nt x Y K)(h2:t=false->W J nt y Y K):W J nt (.cond c x y) Y K:=CW.cond hc h1 h2
theorem W.block{id:Nat}{c:Code}(h:W J nt c Y (yc id K)):W J nt (.block id c) Y K:=CW.block h
theorem W.weak{c:Code}{Y':AS}(hw:Wk Y Y')(h:W J nt c Y' K):W J nt c Y K:=CW.weak hw h
theorem W.loop{G:Type}(inv:G->AS)(μ:G->Nat){c:Code}(g0:G)(h0:Wk Y (inv g0))(h:∀g,W J nt c (inv g) (KN inv μ g K)):W J nt (.loop c) Y K:=CW.loop inv μ g0 h0 h
theorem W.join{G:Type}(inv:G->AS){x y:Code}(h1:W J nt x Y (KP inv K))(h2:∀g,W J nt y (inv g) K):W J nt (.seq x y) Y K:=CW.join inv h1 h2
theorem W.condT{c:Operand}{x y:Code}(hc:evS Y.tm c=.iv (.bool true))(h:W J nt x Y K):W J nt (.cond c x y) Y K:=W.cond hc (fun _=>h) (fun e=>by cases e)
theorem W.condF{c:Operand}{x y:Code}(hc:evS Y.tm c=.iv (.bool false))(h:W J nt y Y K):W J nt (.cond c x y) Y K:=W.cond hc (fun e=>by cases e) (fun _=>h)
def Lw(J:Keep)(nt:Nat)(Y:AS)(K:Exit->AS->Prop):Code->Option Prop
 | .seq x y=>some (W J nt x Y (wK J nt y K))
 | .block id c=>some (W J nt c Y (yc id K))
 | .skip=>some (K .normal Y)
 | .label _=>some (K .normal Y)
 | .ret=>some (K .ret Y)
 | .exit id=>some (K (.exit id) Y)
 | .cond c x y=>match evS Y.tm c with
  | .iv (.bool true)=>some (W J nt x Y K)
  | .iv (.bool false)=>some (W J nt y Y K)
  |_=>none
 |_=>none
theorem W.c{c:Code}{P:Prop}(e:Lw J nt Y K c=some P)(h:P):W J nt c Y K:=by
 unfold Lw at e;split at e
 . cases e;exact W.S h
 . cases e;exact W.block h
 . cases e;exact W.skip h
 . cases e;exact W.label h
 . cases e;exact W.ret h
 . cases e;exact W.exit h
 . split at e
   . rename_i hc;cases e;exact W.condT hc h
   . rename_i hc;cases e;exact W.condF hc h
   . cases e
 . cases e
end
attribute [irreducible] W
theorem xT{p:Prop}[Decidable p]{K:Bool->Prop}(h:p)(k:K true):∃b,decide p=b/\K b:=⟨true,bu h,k⟩
theorem xF{p:Prop}[Decidable p]{K:Bool->Prop}(h:¬p)(k:K false):∃b,decide p=b/\K b:=⟨false,bz h,k⟩
theorem xe{α:Sort _}{a:α}{K:α->Prop}(k:K a):∃b,a=b/\K b:=⟨a,rfl,k⟩
theorem xr{α:Sort _}{a:α}{p:Prop}(k:p):a=a/\p:=⟨rfl,k⟩
theorem xA{α:Sort _}{a b:α}{K:α->Prop}(k:K b):∃r,(false=true->a=r)/\(false=false->b=r)/\K r:=⟨b,fun h=>absurd h Xh,fun _=>rfl,k⟩
theorem xB{α:Sort _}{a b:α}{K:α->Prop}(k:K a):∃r,(true=true->a=r)/\(true=false->b=r)/\K r:=⟨a,fun _=>rfl,fun h=>absurd h.symm Xh,k⟩
theorem b7{a:Int}(h : -9223372036854775808<=a/\a<=9223372036854775807):IntKind.wrap .i64 a=a:=by
 show(let m:=a%(18446744073709551616:Int);if true&&decide (m>=(9223372036854775808:Int)) then m-(18446744073709551616:Int) else m)=a;by_cases h0:a%(18446744073709551616:Int)>=9223372036854775808
 . simp[h0];omega
 . simp[h0];omega
theorem dM{a:Int}(h:0<=a/\a<=4294967295):IntKind.wrap .u32 a=a:=by
 show(let m:=a%(4294967296:Int);if false&&decide (m>=(2147483648:Int)) then m-(4294967296:Int) else m)=a;simp;omega
theorem dU{a:Int}(h:0<=a/\a<=18446744073709551615):IntKind.wrap .u64 a=a:=by
 show(let m:=a%(18446744073709551616:Int);if false&&decide (m>=(9223372036854775808:Int)) then m-(18446744073709551616:Int) else m)=a;simp;omega
theorem ap{α:Sort _}{a:α}{x:Int}{K:Int->Prop}(h : -9223372036854775808<=x/\x<=9223372036854775807)(k:K x):a=a/\∃r,IntKind.wrap .i64 x=r/\K r:=⟨rfl,x,b7 h,k⟩
end Go.Proofs.Fl
namespace Go.Proofs.Fl
open Go.RowKit
attribute [local irreducible] IntKind.wrap aY be bm bt
theorem rP(J:Keep)(ds:List IV):C J 57 [.agg [.sl ds]] (.bool ((ds.length:Int)==0)):=by
 refine aI Tryz.func57 rfl rfl rfl ?_;repeat (((first|refine W.RS (by kernel_rfl) ?_|refine W.ret ?_|refine⟨_,rfl,?_⟩|refine xr ?_);conv=>whnf))
 rfl
theorem Th(J:Keep)(a:Int):C J 194 [.int .i64 a] (.bool false):=by
 refine aI Tryz.func194 rfl rfl rfl ?_;repeat (((first|refine W.RS (by kernel_rfl) ?_|refine W.ret ?_|refine⟨false,bne_eq_false_iff_eq.2 (by omega),?_⟩|refine xr ?_);conv=>whnf))
 simp[gP]
theorem Tg(J:Keep)(a:Int):C J 247 [.int .u32 a] (.bool false):=by
 refine aI Tryz.func247 rfl rfl rfl ?_;repeat (((first|refine W.RS (by kernel_rfl) ?_|refine W.ret ?_|refine⟨false,bne_eq_false_iff_eq.2 (by omega),?_⟩|refine xr ?_);conv=>whnf))
 simp[gP]
def aL(a b:Int):Int:=if a<b then -1 else if b<a then 1 else 0
theorem B7(J:Keep)(a b:Int):C J 134 [.int .i64 a,.int .i64 b] (.int .i64 (aL a b)):=by
 refine aI Tryz.func134 rfl rfl rfl ?_;repeat (((first|refine W.R (by kernel_rfl) ?_|refine W.c rfl ?_|refine⟨_,Th _ _,?_⟩|refine⟨_,rfl,?_⟩|refine xr ?_);conv=>whnf))
 refine W.cond rfl (fun h=>?_) (fun h=>?_)
 . have h:=mB h;repeat (((first|refine W.RS (by kernel_rfl) ?_|refine W.ret ?_);conv=>whnf))
   simp[gP,aL,h]
 . have h:=oW h;repeat (((first|refine W.R (by kernel_rfl) ?_|refine W.c rfl ?_|refine⟨_,rfl,?_⟩|refine xr ?_);conv=>whnf))
   refine W.cond rfl (fun h=>?_) (fun h=>?_)
   . have h2:=mB h;repeat (((first|refine W.RS (by kernel_rfl) ?_|refine W.ret ?_);conv=>whnf))
     simp[gP,aL];omega
   . have h2:=oW h;repeat (((first|refine W.RS (by kernel_rfl) ?_|refine W.ret ?_|refine W.skip ?_);conv=>whnf))
     simp[gP,aL];omega
end Go.Proofs.Fl
namespace Go.Proofs.Dig
def nv(B:Nat):List Nat->Nat
 | []=>0
 |d::ds=>d+B*nv B ds
theorem UT(B:Nat):nv B []=0:=rfl
theorem ic(B d:Nat)(ds:List Nat):nv B (d::ds)=d+B*nv B ds:=rfl
theorem mM(B:Nat)(a b:List Nat):nv B (a++b)=nv B a+B^a.length*nv B b:=by
 induction a with
 |nil=>simp[nv]
 |cons d a ih=>simp only[g8,nv,ih,bf,bQ];rw[bR];rw[cz (B^a.length) B];rw[dI];omega
theorem lH(B d:Nat)(a:List Nat):nv B (a ++ [d])=nv B a+B^a.length*d:=by
 rw[mM];simp[nv]
theorem vW(B n:Nat):nv B (List.replicate n 0)=0:=by
 induction n with
 |zero=>rfl
 |succ n ih=>simp[qN,nv,ih]
def Dg(B:Nat)(ds:List Nat):Prop:=∀d∈ds,d<B
theorem Dg.nil(B:Nat):Dg B []:=by intro d h;simp at h
theorem Dg.append{B:Nat}{a b:List Nat}(ha:Dg B a)(hb:Dg B b):Dg B (a++b):=by
 intro d h;rcases List.mem_append.1 h with h|h
 . exact ha d h
 . exact hb d h
theorem nR{B d:Nat}(h:d<B):Dg B [d]:=by intro x hx;simp at hx;omega
theorem Dg.left{B:Nat}{a b:List Nat}(h:Dg B (a++b)):Dg B a:=fun d hd=>h d (by simp[hd])
theorem Dg.take{B:Nat}{a:List Nat}(h:Dg B a)(n:Nat):Dg B (a.take n):=fun d hd=>h d (dH hd)
theorem Dg.drop{B:Nat}{a:List Nat}(h:Dg B a)(n:Nat):Dg B (a.drop n):=fun d hd=>h d (iu hd)
theorem Dg.get{B:Nat}{a:List Nat}(h:Dg B a){i:Nat}(hi:i<a.length):a[i]<B:=h _ (bV hi)
theorem Dg.getD{B:Nat}{a:List Nat}(h:Dg B a)(hB:0<B)(i:Nat):a.getD i 0<B:=by
 rw[aV];by_cases hi:i<a.length
 . rw[aQ hi];exact h.get hi
 . rw[qQ (by omega)];exact hB
theorem Dg.replicate{B:Nat}(hB:0<B)(n:Nat):Dg B (List.replicate n 0):=by
 intro d h;have:=vp h;omega
theorem Dg.set{B:Nat}{a:List Nat}(h:Dg B a){i x:Nat}(hx:x<B):Dg B (a.set i x):=by
 intro d hd;rcases DZ hd with h1|h1
 . exact h d h1
 . omega
theorem eJ{B:Nat}{ds:List Nat}(h:Dg B ds):nv B ds<B^ds.length:=by
 induction ds with
 |nil=>simp[nv]
 |cons d ds ih=>
  have h1:=ih (fun x hx=>h x (by simp[hx]));have h2:=h d (by simp);simp only[nv,bf,bQ];have:B*(nv B ds+1)<=B*B^ds.length:=fG B h1;rw[bR] at this;rw[cz (B^ds.length) B];omega
def Nm(ds:List Nat):Prop:=∀d,ds.getLast?=some d->d≠0
theorem Nm.nil:Nm []:=by intro d h;simp at h
theorem JK{a:List Nat}{d:Nat}(h:d≠0):Nm (a ++ [d]):=by intro x hx;simp at hx;omega
theorem Nm.cons{a:List Nat}{d:Nat}(h:Nm (d::a)):Nm a:=by
 intro x hx;cases a with
 |nil=>simp at hx
 |cons y a=>exact h x (by rw[Mk];exact hx)
theorem Nm.drop{a:List Nat}(h:Nm a)(n:Nat):Nm (a.drop n):=by
 intro x hx;rw[List.getLast?_drop] at hx;split at hx
 . simp at hx
 . exact h x hx
theorem Fu{a:List Nat}(h:a≠[]):∃b d,a=b ++ [d]:=⟨a.dropLast,a.getLast h,(List.dropLast_concat_getLast h).symm⟩
structure Ok(B:Nat)(ds:List Nat):Prop where
 dg:Dg B ds
 nm:Nm ds
theorem Ok.nil(B:Nat):Ok B []:=⟨Dg.nil B,Nm.nil⟩
theorem pY{B:Nat}{ds:List Nat}(h:Nm ds)(hne:ds≠[]):B^(ds.length-1)<=nv B ds:=by
 obtain⟨a,d,rfl⟩:=Fu hne;have hd:d≠0:=h d (by simp);rw[lH];simp only[ce,bf,zg,aX,vG];have:B^a.length*1<=B^a.length*d:=fG _ (by omega);omega
theorem J8{B:Nat}(hB:0<B){ds:List Nat}(h:Nm ds)(hne:ds≠[]):0<nv B ds :=
 gK (fH hB) (pY h hne)
theorem Fg{B:Nat}(hB:0<B){ds:List Nat}(h:Nm ds):nv B ds=0↔ds=[]:=by
 constructor
 . intro h0;by_cases hne:ds=[]
   . exact hne
   . have:=J8 hB h hne;omega
 . rintro rfl;rfl
theorem z7{B:Nat}(hB:0<B){a b:List Nat}(ha:Dg B a)(hb:Nm b)(h:a.length<b.length):nv B a<nv B b:=by
 have h1:=eJ ha;have h2:B^(b.length-1)<=nv B b:=pY hb (by intro e;subst e;simp at h);have h3:B^a.length<=B^(b.length-1):=cB hB (by omega);omega
theorem Q7{B x y d e:Nat}(hx:x<B)(h:d<e):x+B*d<y+B*e:=by
 have:B*(d+1)<=B*e:=fG _ (by omega);rw[bR] at this;omega
theorem AC{B:Nat}{a b c:List Nat}{d e:Nat}(ha:Dg B a)(hl:a.length=b.length)(h:d<e) :
 nv B (a++d::c)<nv B (b++e::c):=by
 rw[mM,mM,ic,ic,hl,bR,bR];have h1:=eJ ha;rw[hl] at h1;have h2:=Q7 (y:=nv B b) h1 h;omega
theorem CE{B:Nat}(hB:1<B):∀{a b:List Nat},Ok B a->Ok B b->nv B a=nv B b->a=b
 | [],b,_,hb,h=>((Fg (by omega) hb.nm).1 h.symm).symm
 |d::a,[],ha,_,h=>(Fg (by omega) ha.nm).1 h
 |d::a,e::b,ha,hb,h=>by
  simp only[nv] at h;have h1:=ha.dg d (by simp);have h2:=hb.dg e (by simp);have h3:d=e:=by
   have:=congrArg (· % B) h;simpa[zx,fF h1,fF h2] using this
  subst h3;have h4:nv B a=nv B b:=by
   have:B*nv B a=B*nv B b:=by omega
   exact Xi (by omega) this
  rw[CE hB ⟨fun x hx=>ha.dg x (by simp[hx]),ha.nm.cons⟩ ⟨fun x hx=>hb.dg x (by simp[hx]),hb.nm.cons⟩ h4]
def strip(ds:List Nat):List Nat:=(ds.reverse.dropWhile (· == 0)).reverse
theorem EJ(a:List Nat):strip (a ++ [0])=strip a:=by simp[strip]
theorem Fr{a:List Nat}{d:Nat}(h:d≠0):strip (a ++ [d])=a ++ [d]:=by simp[strip,h]
theorem Ah(ds:List Nat):Nm (strip ds)/\∃n,ds=strip ds++List.replicate n 0:=by
 induction hn:ds.length generalizing ds with
 |zero=>have:ds=[]:=vv hn;subst this;exact⟨Nm.nil,0,rfl⟩
 |succ n ih=>
  obtain⟨a,d,rfl⟩:=Fu (a:=ds) (by intro e;subst e;simp at hn);by_cases hd:d=0
  . subst hd;rw[EJ];obtain⟨h1,k,h2⟩:=ih a (by simpa using hn);refine⟨h1,k+1,?_⟩;rw[Xj,<-dj,<-h2]
  . rw[Fr hd];exact⟨JK hd,0,by simp⟩
theorem Hd(B:Nat)(ds:List Nat):nv B (strip ds)=nv B ds:=by
 obtain⟨_,n,h⟩:=Ah ds;conv=>rhs;rw[h]
 rw[mM,vW];simp
theorem Dg.strip{B:Nat}{ds:List Nat}(h:Dg B ds):Dg B (strip ds):=by
 obtain⟨_,n,e⟩:=Ah ds;rw[e] at h;exact h.left
theorem Ok.strip{B:Nat}{ds:List Nat}(h:Dg B ds):Ok B (strip ds):=⟨h.strip,(Ah ds).1⟩
theorem tA{B:Nat}(hB:1<B){a:List Nat}(ha:Ok B a){k:Nat}(h:nv B a<B^k):a.length<=k:=by
 by_cases hne:a=[]
 . subst hne;simp
 . have h1:=pY (B:=B) ha.nm hne;have h2:B^(a.length-1)<B^k:=by omega
   have:=(Nat.pow_lt_pow_iff_right hB).1 h2;omega
theorem tD(B:Nat)(a:List Nat)(n:Nat)(h:n<=a.length):nv B a=nv B (a.take n)+B^n*nv B (a.drop n):=by
 conv=>lhs;rw[<-ks n a]
 rw[mM,b9,cg h]
theorem tx{a:List Nat}{i:Nat}(h:i<a.length):a.take (i+1)=a.take i ++ [a[i]]:=by
 rw[je h]
theorem z6(B:Nat)(a:List Nat)(i:Nat)(h:i<a.length):nv B (a.take (i+1))=nv B (a.take i)+B^i*a[i]:=by
 rw[tx h,lH,b9,cg (by omega)]
theorem SK(B:Nat)(a:List Nat)(i:Nat)(h:i<a.length):nv B (a.drop i)=a[i]+B*nv B (a.drop (i+1)):=by
 rw[dY h,ic]
theorem oZ{o:List Nat}{i x:Nat}(h:i<o.length):(o.set i x).take (i+1)=o.take i ++ [x]:=by
 rw[tx (by simpa using h),Ml,List.set_eq_of_length_le (by simp;omega)];simp
theorem EQ(o:List Nat)(i x:Nat):(o.set i x).drop (i+1)=o.drop (i+1):=by
 rw[List.drop_set,ar (by omega)]
theorem ER{o:List Nat}{i x:Nat}(h:i<o.length):(o.set i x).drop i=x::o.drop (i+1):=by
 rw[dY (by simpa using h),EQ];simp
theorem OK{B i c c' x x' s X:Nat}{A:List Nat}(hA:A.length=i)(h:nv B A+B^i*c=X)(hx:x=x'+B*c')(hs:x=s+c) :
 nv B (A ++ [x'])+B^(i+1)*c'=X+B^i*s:=by
 rw[lH,hA,bQ,<-h,dI];have:B^i*x=B^i*x'+B^i*(B*c'):=by rw[hx,bR]
 have h2:B^i*x=B^i*s+B^i*c:=by rw[hs,bR]
 omega
theorem Fo{B i c c' x s y X Yz9:Nat}{A:List Nat}(hA:A.length=i)(h:nv B A+Yz9=X+B^i*c)(hx:x+s+c=y+B*c') :
 nv B (A ++ [x])+(Yz9+B^i*s)=(X+B^i*y)+B^(i+1)*c':=by
 rw[lH,hA,bQ,dI];have h2:B^i*(x+s+c)=B^i*(y+B*c'):=by rw[hx]
 rw[bR,bR,bR] at h2;omega
end Go.Proofs.Dig
namespace Go.Proofs.Fl
open Go.RowKit Go.Proofs.Dig
attribute [local irreducible] IntKind.wrap aY be bm bt
theorem Tq(J:Keep)(a b:Int):C J 216 [.int .u32 a,.int .u32 b] (.int .i64 (aL a b)):=by
 refine aI Tryz.func216 rfl rfl rfl ?_;repeat (((first|refine W.R (by kernel_rfl) ?_|refine W.c rfl ?_|refine⟨_,Tg _ _,?_⟩|refine⟨_,rfl,?_⟩|refine xr ?_);conv=>whnf))
 refine W.cond rfl (fun h=>?_) (fun h=>?_)
 . have h:=mB h;repeat (((first|refine W.RS (by kernel_rfl) ?_|refine W.ret ?_);conv=>whnf))
   simp[gP,aL,h]
 . have h:=oW h;repeat (((first|refine W.R (by kernel_rfl) ?_|refine W.c rfl ?_|refine⟨_,rfl,?_⟩|refine xr ?_);conv=>whnf))
   refine W.cond rfl (fun h=>?_) (fun h=>?_)
   . have h2:=mB h;repeat (((first|refine W.RS (by kernel_rfl) ?_|refine W.ret ?_);conv=>whnf))
     simp[gP,aL];omega
   . have h2:=oW h;repeat (((first|refine W.RS (by kernel_rfl) ?_|refine W.ret ?_|refine W.skip ?_);conv=>whnf))
     simp[gP,aL];omega
abbrev B9:Nat:=1000000000
def u32(d:Nat):IV:=.int .u32 d
abbrev bF(l:List Nat):IV:=.agg [.sl (l.map u32)]
def oy(a b:List Nat):Int:=aL (nv B9 a) (nv B9 b)
theorem cu{k:IntKind}{a b:Int}(h:a=b):SV.iv (.int k a)=SV.iv (.int k b):=by rw[h]
theorem BZ{l:List Nat}{j:Nat}(h:j<l.length):(l.map u32)[j]?=some (u32 l[j]):=by simp[h]
theorem rA{x y:Int}(h:aL x y=0):x=y:=by
 unfold aL at h;split at h
 . cases h
 . split at h
   . cases h
   . omega
theorem GJ{x y:Int}(h:(x != y)=false):x=y:=by simpa using h
theorem H7{x y:Int}(h:(x != y)=true):x≠y:=by simpa using h
theorem Rd{a b:List Nat}(ha:Ok B9 a)(hb:Ok B9 b)(h:a.length≠b.length):oy a b=aL a.length b.length:=by
 unfold oy aL;rcases Mm h with h|h
 . have:=z7 (by decide) ha.dg hb.nm h;rw[ar (by omega),ar (by omega)]
 . have:=z7 (by decide) hb.dg ha.nm h;rw[al (by omega),ar (by omega),al (by omega),ar (by omega)]
theorem Rc{a b:List Nat}(ha:Ok B9 a)(hb:Ok B9 b)(hl:a.length=b.length){k:Nat}(hk:k<a.length)(hd:a.drop (k+1)=b.drop (k+1))(hne:a[k]≠b[k]'(by omega)) :
 oy a b=aL (a[k]:Nat) (b[k]'(by omega):Nat):=by
 have ea:a=a.take k++a[k]::a.drop (k+1):=by simp
 have eb:b=b.take k++b[k]'(by omega)::a.drop (k+1):=by rw[hd];simp
 have hlt:(a.take k).length=(b.take k).length:=by simp;omega
 unfold oy aL;rcases Mm hne with h|h
 . have:=AC (B:=B9) (c:=a.drop (k+1)) (ha.dg.take k) hlt h;rw[<-ea,<-eb] at this;rw[ar (by omega),ar (by omega)]
 . have:=AC (B:=B9) (c:=a.drop (k+1)) (hb.dg.take k) hlt.symm h;rw[<-ea,<-eb] at this;rw[al (by omega),ar (by omega),al (by omega),ar (by omega)]
theorem xq(J:Keep){a b:List Nat}(ha:Ok B9 a)(hb:Ok B9 b)(hl:a.length<2^60):C J 175 [bF a,bF b] (.int .i64 (oy a b)):=by
 have la:(a.map u32).length=a.length:=by simp
 have lb:(b.map u32).length=b.length:=by simp
 refine aI Tryz.func175 rfl rfl rfl ?_;repeat (((first|refine W.R (by kernel_rfl) ?_|refine W.c rfl ?_|refine⟨_,B7 _ _ _,?_⟩|refine⟨_,rfl,?_⟩|refine xr ?_);conv=>whnf))
 refine W.cond rfl (fun h=>?_) (fun h=>?_)
 . have h:=H7 h;rw[la,lb] at h;repeat (((first|refine W.RS (by kernel_rfl) ?_|refine W.ret ?_);conv=>whnf))
   rw[Rd ha hb (fun e=>h (by rw[e];simp[aL])),la,lb];rfl
 . have h:=rA (GJ h);have hab:a.length=b.length:=by omega
   repeat (((first|refine W.R (by kernel_rfl) ?_|refine W.c rfl ?_|refine ap (by omega) ?_|refine⟨_,rfl,?_⟩);conv=>whnf))
   refine W.loop (G:={ k:Nat // k<=a.length/\a.drop k=b.drop k }) (fun k=>am [(2,.ptr 0 0),(3,.ptr 1 0),(6,.iv (.int .i64 ((k.1:Int)-1)))] [(0,.var (bF a)),(1,.var (bF b))] 2) (fun k=>k.1) ⟨a.length,ak _,by simp[hab]⟩
    (Wk.tab [] ⟨aa,aa,⟨?_,rfl⟩,ab⟩ ⟨rfl,rfl,ab⟩ rfl) ?_
   . show SV.iv (.int .i64 _)=SV.iv (.int .i64 _);rw[la]
   . rintro⟨k,hk,hd⟩;dsimp only;repeat (((first|refine W.R (by kernel_rfl) ?_|refine W.c rfl ?_|refine⟨_,rfl,?_⟩|refine xr ?_);conv=>whnf))
     refine W.cond rfl (fun h=>?_) (fun h=>?_)
     . have h:=mB h;obtain⟨k,rfl⟩:∃j,k=j+1:=⟨k-1,by omega⟩;have hk1:k<a.length:=by omega
       repeat (((first|refine W.R (by kernel_rfl) ?_|refine W.c rfl ?_);conv=>whnf))
       refine⟨k,_,by omega,BZ hk1,rfl,?_⟩;conv=>whnf
       refine⟨k,_,by omega,BZ (show k<b.length by omega),rfl,?_⟩;conv=>whnf
       repeat (((first|refine W.RS (by kernel_rfl) ?_|refine⟨_,Tq _ _ _,?_⟩|refine⟨_,rfl,?_⟩|refine xr ?_);conv=>whnf))
       refine W.cond rfl (fun h=>?_) (fun h=>?_)
       . have h2:=H7 h;repeat (((first|refine W.RS (by kernel_rfl) ?_|refine W.ret ?_);conv=>whnf))
         have hne:a[k]≠b[k]:=fun e=>h2 (by rw[e];simp[aL]);rw[Rc ha hb hab hk1 hd hne];rfl
       . have h2:=rA (GJ h);repeat (((first|refine W.R (by kernel_rfl) ?_|refine W.skip ?_|refine ap (by omega) ?_);conv=>whnf))
         refine⟨⟨k,by omega,?_⟩,Wk.tab [] ⟨aa,aa,⟨cu (by dsimp only;omega),rfl⟩,ab⟩ ⟨rfl,rfl,ab⟩ rfl,?_⟩
         . rw[dY hk1,dY (show k<b.length by omega),hd,show a[k]=b[k] by omega]
         . show k<k+1;omega
     . have h:=oW h;have hk0:k=0:=by omega
       subst hk0;repeat (((first|refine W.RS (by kernel_rfl) ?_|refine W.ret ?_|refine W.exit ?_);conv=>whnf))
       have e:a=b:=by simpa using hd
       subst e;simp[gP,oy,aL]
theorem Nd{l:List Nat}{n:Nat}(hn:n<l.length)(h0:l[n]=0):strip (l.take (n+1))=strip (l.take n):=by
 rw[tx hn,h0,EJ]
theorem Nt{l:List Nat}{n:Nat}(hn:n<l.length)(h0:l[n]≠0):strip (l.take (n+1))=l.take (n+1):=by
 rw[tx hn,Fr h0]
theorem Dw{a:List IV}{l:List Nat}(h:a=l.map u32):IV.agg [.sl a]=bF l:=by rw[h]
theorem Ts(J:Keep){l:List Nat}(hl:l.length<2^60):C J 143 [.sl (l.map u32)] (bF (strip l)):=by
 have la:(l.map u32).length=l.length:=by simp
 refine aI Tryz.func143 rfl rfl rfl ?_;repeat (((first|refine W.R (by kernel_rfl) ?_|refine W.c rfl ?_|refine⟨_,rfl,?_⟩);conv=>whnf))
 refine W.loop (G:={ n:Nat // n<=l.length/\strip l=strip (l.take n) }) (fun n=>am [(0,.iv (.sl (l.map u32))),(2,.ptr 0 0),(3,.iv (.int .i64 (n.1:Int)))] [(0,.var (.agg [.sl []]))] 1) (fun n=>n.1) ⟨l.length,ak _,by simp⟩
  (Wk.tab [] ⟨aa,aa,⟨cu (by dsimp only;omega),rfl⟩,ab⟩ ⟨rfl,ab⟩ rfl) ?_
 rintro⟨n,hn,hs⟩;dsimp only;by_cases h:n=0
 . subst h;repeat (((first|refine W.R (by kernel_rfl) ?_|refine W.c rfl ?_|refine xF (by omega) ?_|refine⟨_,rfl,?_⟩|refine xr ?_|refine⟨by omega,by omega,by omega,.inr (by simp),.inl rfl,?_⟩|refine xA ?_);conv=>whnf))
   refine Dw ?_;rw[hs];rfl
 . obtain⟨n,rfl⟩:∃m,n=m+1:=⟨n-1,by omega⟩;repeat (((first|refine W.R (by kernel_rfl) ?_|refine W.c rfl ?_|refine ap (by omega) ?_|refine xT (by omega) ?_|refine xr ?_);conv=>whnf))
   refine⟨n,_,by omega,BZ (show n<l.length by omega),rfl,?_⟩;conv=>whnf
   by_cases h0:l[n]=0
   . repeat (first|((first|refine W.R (by kernel_rfl) ?_|refine W.skip ?_|refine ap (by omega) ?_|refine xT (by omega) ?_|refine xr ?_|refine xB ?_);conv=>whnf)|(refine W.block ?_)|(refine W.condT rfl ?_))
     refine⟨⟨n,by omega,by rw[hs,Nd (by omega) h0]⟩,Wk.tab [] ⟨aa,aa,⟨cu (by dsimp only;omega),rfl⟩,ab⟩ ⟨rfl,ab⟩ rfl,?_⟩;dsimp only;omega
   . repeat (first|((first|refine W.RS (by kernel_rfl) ?_|refine W.ret ?_|refine W.exit ?_|refine xF (by omega) ?_|refine⟨_,rfl,?_⟩|refine xr ?_|refine⟨by omega,by omega,by omega,.inr (by simp),.inl rfl,?_⟩|refine xB ?_);conv=>whnf)|(refine W.condF rfl ?_))
     rw[Nt (by omega) h0] at hs;refine Dw ?_;rw[hs];simp
theorem De(n:Nat):∃l,Ok B9 l/\nv B9 l=n:=by
 induction n using Nat.strongRecOn with
 |_ n ih=>
  by_cases h:n=0
  . exact⟨[],Ok.nil _,by rw[h];rfl⟩
  . obtain⟨l,h1,h2⟩:=ih (n/B9) (Eg (by omega) (by decide));refine⟨n%B9::l,⟨?_,?_⟩,?_⟩
    . intro d hd;rcases List.mem_cons.1 hd with rfl|hd
      . exact gh _ (by decide)
      . exact h1.dg d hd
    . intro d hd;cases l with
      |nil=>
       simp at hd;subst hd;have:n/B9=0:=h2.symm;have h5:=nF n B9;rw[this] at h5;omega
      |cons x l=>exact h1.nm d (by rwa[Mk] at hd)
    . rw[ic,h2,Nat.mod_add_div]
noncomputable def dg(n:Nat):List Nat:=(De n).choose
theorem ct(n:Nat):Ok B9 (dg n):=(De n).choose_spec.1
theorem dq(n:Nat):nv B9 (dg n)=n:=(De n).choose_spec.2
theorem uK{l:List Nat}(h:Ok B9 l){n:Nat}(e:nv B9 l=n):l=dg n:=CE (by decide) h (ct n) (by rw[e,dq])
theorem rE{l:List Nat}(h:Dg B9 l){n:Nat}(e:nv B9 l=n):strip l=dg n:=uK (Ok.strip h) (by rw[Hd,e])
theorem pI:dg 0=[]:=(uK (Ok.nil _) rfl).symm
theorem OH{n:Nat}:dg n=[]↔n=0:=by
 constructor
 . intro h;have:=dq n;rw[h] at this;exact this.symm
 . rintro rfl;exact pI
noncomputable def ln(n:Nat):Nat:=(dg n).length
theorem kN{n k:Nat}(h:n<B9^k):ln n<=k:=tA (by decide) (ct n) (by rw[dq];exact h)
theorem mW(n:Nat):n<B9^ln n:=by have:=eJ (ct n).dg;rwa[dq] at this
noncomputable abbrev aK(n:Nat):IV:=.agg [.sl ((dg n).map u32)]
theorem uD(a:Nat):(a:Int).tmod 1000000000=((a%1000000000:Nat):Int):=by
 rw[Xk (by omega)];omega
theorem yh(a:Nat):(a:Int).tdiv 1000000000=((a/1000000000:Nat):Int):=by
 rw[Xl (by omega)];omega
theorem LC{a:Nat}(h:a<=18446744073709551615):IntKind.wrap .u64 ((a:Int).tdiv 1000000000)=((a/1000000000:Nat):Int):=by
 rw[yh];exact dU (by omega)
theorem mV{z:IV}{k:IntKind}{n:Int}:∀y∈List.take 1 (List.drop 0 ((List.replicate 1 z).set 0 (IV.int k n))),y.cells.length=1/\y.isTup=false:=by
 intro y hy;simp at hy;subst hy;exact⟨rfl,rfl⟩
theorem im{a b:Nat}(h:Nat.beq a b=false):¬a∈[b]:=fun e=>zq h (List.mem_singleton.1 e)
def Vw(p:List Nat×Nat):AS :=
 match p.1 with
 | []=>am [(0,.iv (.int .u64 (p.2:Int))),(2,.ptr 0 0),(3,.nilS)] [(0,.var (.agg [.sl []]))] 10
 |x::o=>am [(0,.iv (.int .u64 (p.2:Int))),(2,.ptr 0 0),(3,.ref 1 0 (x::o).length true)] [(0,.var (.agg [.sl []])),(1,.arr 182 1 ((x::o).map u32) false)] 10
theorem kF(J:Keep){n:Nat}(hn:n<2^64):C J 125 [.int .u64 n] (aK n):=by
 refine aI Tryz.func125 rfl rfl rfl ?_;repeat (((first|refine W.R (by kernel_rfl) ?_|refine W.c rfl ?_);conv=>whnf))
 refine W.loop (G:={ p:List Nat×Nat // Dg B9 p.1/\nv B9 p.1+B9^p.1.length*p.2=n/\(p.2=0->Nm p.1)/\p.2<2^64/\p.1.length<=3 }) (fun p=>Vw p.1) (fun p=>p.1.2) ⟨([],n),Dg.nil _,by simp[nv],fun _=>Nm.nil,hn,by simp⟩
  (Wk.tab [] ⟨aa,aa,aa,ab⟩ ⟨rfl,ab⟩ rfl) ?_
 rintro⟨⟨o,m⟩,hd,hv,hnm,hm,hl⟩;dsimp only at hd hv hnm hm hl;cases o with
 |nil=>
  show W J _ _ (am [(0,.iv (.int .u64 (m:Int))),(2,.ptr 0 0),(3,.nilS)] [(0,.var (.agg [.sl []]))] 10) _;by_cases h:m=0
  . subst h;repeat (((first|refine W.R (by kernel_rfl) ?_|refine W.c rfl ?_|refine xF (by omega) ?_|refine xr ?_);conv=>whnf))
    have hn0:n=0:=by rw[<-hv];rfl
    subst hn0;refine congrArg (fun x=>IV.agg [IV.sl x]) ?_;rw[pI];rfl
  . repeat (((first|refine W.R (by kernel_rfl) ?_|refine W.c rfl ?_|refine⟨by decide,_,uD _,?_⟩|refine⟨by decide,_,LC (by omega),?_⟩|refine⟨mV,aB rfl,aB rfl,?_⟩|refine⟨_,dM (by omega),?_⟩|refine xT (by omega) ?_|refine⟨_,rfl,?_⟩|refine xr ?_);conv=>whnf))
    refine⟨⟨([m%1000000000],m/1000000000),nR (gh _ (by decide)),?_,?_,by dsimp only;omega,by simp⟩,
     Wk.tab [(1,17)] ⟨aa,aa,aa,ab⟩ ⟨rfl,rfl,ab⟩ rfl,?_⟩
    . simp[nv,B9] at hv ⊢;omega
    . intro h0;dsimp only at h0;intro d hd;simp at hd;omega
    . dsimp only;omega
 |cons x o=>
  show W J _ _ (am [(0,.iv (.int .u64 (m:Int))),(2,.ptr 0 0),(3,.ref 1 0 (x::o).length true)] [(0,.var (.agg [.sl []])),(1,.arr 182 1 ((x::o).map u32) false)] 10) _;by_cases h:m=0
  . subst h;repeat (((first|refine W.R (by kernel_rfl) ?_|refine W.c rfl ?_|refine xF (by omega) ?_|refine xr ?_);conv=>whnf))
    refine Dw ?_;have e:x::o=dg n:=uK ⟨hd,hnm rfl⟩ (by rw[<-hv,jf,eG]);rw[<-e,bJ,aH (by simp)]
  . repeat (((first|refine W.R (by kernel_rfl) ?_|refine W.c rfl ?_|refine⟨by decide,_,uD _,?_⟩|refine⟨_,dM (by omega),?_⟩|refine xT (by omega) ?_|refine xr ?_);conv=>whnf))
    refine⟨im rfl,rfl,rfl,by simp,mV,?_,?_,?_⟩
    . show((x::o).length+1)*4<=140737488355328;omega
    . show(x::o).length+1<=maxLen;unfold maxLen;omega
    . repeat (((first|refine W.R (by kernel_rfl) ?_|refine⟨by decide,_,LC (by omega),?_⟩|refine xr ?_);conv=>whnf))
      refine⟨⟨(x::o ++ [m%1000000000],m/1000000000),hd.append (nR (gh _ (by decide))),?_,?_,by dsimp only;omega,?_⟩,
       Wk.tab [(1,17)] ⟨aa,aa,⟨?_,rfl⟩,ab⟩ ⟨rfl,?_,ab⟩ rfl,?_⟩
      . dsimp only;rw[lH,<-hv,ce,nG,bQ,kX,dI,<-bR];congr 2;simp only[B9];omega
      . intro h0;dsimp only at h0;exact JK (by omega)
      . have h3:(x::o).length<=2:=by
         apply fP;intro h3;have e3:(x::o).length=3:=by omega
         rw[e3] at hv;simp only[B9] at hv;omega
        simp at h3 ⊢;omega
      . refine congrArg (fun k=>SV.ref 17 0 k true) ?_;show(x::o).length+1=_;simp
      . refine congrArg (fun l=>some (Bx.arr 182 1 l false)) ?_;simp;rfl
      . dsimp only;omega
theorem bh{l:List Nat}{j:Nat}(h:j<l.length):(l.map u32)[j]?=some (u32 (l.getD j 0)):=by simp[h]
theorem w9{l:List Nat}{i d:Nat}{x:Int}(h:x=(d:Int)):(l.map u32).set i (IV.int .u32 x)=(l.set i d).map u32:=by
 rw[h,Mn];rfl
theorem pW{g off n n':Nat}{f:Bool}(h:n=n'):SV.ref g off n f=SV.ref g off n' f:=by rw[h]
theorem jr(n:Nat):(n:Int)+1=((n+1:Nat):Int):=rfl
theorem KX(n:Nat):((n+1:Nat):Int)-1=(n:Int):=by omega
theorem yv(n m:Nat):(n:Int)+(m:Int)=((n+m:Nat):Int):=rfl
theorem sr{a:List IV}{l:List Nat}(h:a=l.map u32):some (Bx.arr 182 1 a false)=some (Bx.arr 182 1 (l.map u32) false):=by rw[h]
theorem fS{l:List Nat}(h:Dg B9 l)(i:Nat):l.getD i 0<1000000000:=h.getD (by decide) i
theorem kI{o:List Nat}{i j d:Nat}{x:Int}(hj:j=i)(h:x=(d:Int)):some (Bx.arr 182 1 ((o.map u32).set j (.int .u32 x)) false)=some (Bx.arr 182 1 ((o.set i d).map u32) false):=by
 rw[hj,w9 h]
theorem jG(l:List Nat)(i:Nat):nv B9 (l.take (i+1))=nv B9 (l.take i)+B9^i*l.getD i 0:=by
 by_cases h:i<l.length
 . rw[z6 B9 l i h,aV,aQ h];rfl
 . have e:l.getD i 0=0:=by simp[Nat.not_lt.1 h]
   rw[e,aH (show l.length<=i+1 by omega),aH (Nat.not_lt.1 h)];exact(eG _).symm
theorem n5{l m o:List Nat}{i c d c':Nat}(hi:i<o.length)(hs:nv B9 (o.take i)+B9^i*c=nv B9 (l.take i)+nv B9 (m.take i))(he:l.getD i 0+c+m.getD i 0=d+1000000000*c') :
 nv B9 ((o.set i d).take (i+1))+B9^(i+1)*c'=nv B9 (l.take (i+1))+nv B9 (m.take (i+1)):=by
 rw[oZ hi,jG l,jG m];have:=OK (B:=B9) (A:=o.take i) (s:=l.getD i 0+m.getD i 0) (x:=l.getD i 0+c+m.getD i 0) (x':=d) (c':=c') (by simp;omega) hs he (by omega);rw[this,bR];omega
theorem rN(J:Keep){l:List Nat}{es:List IV}(h:es=l.map u32)(hl:l.length<2^60):C J 143 [.sl es] (bF (strip l)):=by
 rw[h];exact Ts J hl
theorem Tt(J:Keep)(n:Nat):C J 141 [aK n] (.bool (decide (n=1))):=by
 have la:((dg n).map u32).length=(dg n).length:=by simp
 refine aI Tryz.func141 rfl rfl rfl ?_;have hv:=dq n;by_cases h:(dg n).length=1
 . repeat (((first|refine W.RS (by kernel_rfl) ?_|refine W.ret ?_|refine⟨0,_,rfl,bh (by omega),rfl,?_⟩|refine xT (by omega) ?_|refine⟨_,rfl,?_⟩|refine xr ?_|refine xB ?_);conv=>whnf))
   obtain⟨d,hd⟩:∃d,dg n=[d]:=List.length_eq_one_iff.1 h;have hn:n=d:=by rw[<-hv,hd];rfl
   rw[hd,hn];simp only[gP];congr 1;rw[Bool.eq_iff_iff];simp;omega
 . repeat (((first|refine W.RS (by kernel_rfl) ?_|refine W.ret ?_|refine xF (by omega) ?_|refine⟨_,rfl,?_⟩|refine xr ?_|refine xA ?_);conv=>whnf))
   have:¬n=1:=fun e=>h (by
    subst e;have:=uK (l:=[1]) ⟨nR (by decide),by intro d hd;simp at hd;omega⟩ (n:=1) rfl;rw[<-this];rfl)
   simp[gP,this]
def VA(l m:List Nat)(p:Nat×Nat×List Nat):AS :=
 am [(2,.ptr 0 0),(3,.ptr 1 0),(4,.ptr 2 0),(5,.ref 3 0 (l.length+1) true),(6,.iv (.int .u32 (p.2.1:Int))),(24,.iv (.sl (l.map u32))),(25,.iv (.int .i64 (l.length:Int))),(26,.iv (.int .i64 (p.1:Int)))]
  [(0,.var (bF l)),(1,.var (bF m)),(2,.var (.agg [.sl []])),(3,.arr 182 1 (p.2.2.map u32) false)] 10
theorem Jg(J:Keep){a b:Nat}(ha:ln a<2^44)(hb:ln b<2^44):C J 124 [aK a,aK b] (aK (a+b)):=by
 unfold ln at ha hb;have la:((dg a).map u32).length=(dg a).length:=by simp
 have lb:((dg b).map u32).length=(dg b).length:=by simp
 refine aI Tryz.func124 rfl rfl rfl ?_;refine W.RS (by kernel_rfl) ?_;conv=>whnf
 refine W.join (G:={ p:List Nat×List Nat // p.2.length<=p.1.length/\Ok B9 p.1/\Ok B9 p.2/\nv B9 p.1+nv B9 p.2=a+b/\p.1.length<2^44 }) (fun p=>am [(2,.ptr 0 0),(3,.ptr 1 0),(4,.ptr 2 0)] [(0,.var (bF p.1.1)),(1,.var (bF p.1.2)),(2,.var (.agg [.sl []]))] 10) ?_ ?_
 . by_cases h:(dg a).length<(dg b).length
   . repeat (first|((first|refine W.RS (by kernel_rfl) ?_|refine W.R (by kernel_rfl) ?_|refine xT (by omega) ?_|refine⟨_,rfl,?_⟩|refine xr ?_);conv=>whnf)|(refine W.condT rfl ?_))
     exact⟨⟨(dg b,dg a),kt h,ct b,ct a,by rw[dq,dq,vm],hb⟩,Wk.tab [] ⟨aa,aa,aa,ab⟩ ⟨rfl,rfl,rfl,ab⟩ rfl⟩
   . repeat (first|((first|refine W.RS (by kernel_rfl) ?_|refine W.skip ?_|refine xF (by omega) ?_|refine⟨_,rfl,?_⟩|refine xr ?_);conv=>whnf)|(refine W.condF rfl ?_))
     exact⟨⟨(dg a,dg b),Nat.not_lt.1 h,ct a,ct b,by rw[dq,dq],ha⟩,Wk.tab [] ⟨aa,aa,aa,ab⟩ ⟨rfl,rfl,rfl,ab⟩ rfl⟩
 . rintro⟨⟨l,m⟩,hml,hol,hom,hv,hl⟩;dsimp only at hml hol hom hv hl ⊢;clear la lb ha hb;have la:(l.map u32).length=l.length:=by simp
   have lb:(m.map u32).length=m.length:=by simp
   repeat (first|((first|refine W.R (by kernel_rfl) ?_|refine W.c rfl ?_|refine ap (by omega) ?_|refine⟨rfl,_,jr _,?_⟩);conv=>whnf)|(refine⟨by show 4*_<=(281474976710656:Nat);omega,by unfold maxLen;omega,?_⟩;conv=>whnf)|(refine⟨_,rfl,?_⟩;conv=>whnf))
   refine W.loop (G:={ p:Nat×Nat×List Nat // p.1<=l.length/\p.2.1<=1/\p.2.2.length=l.length+1/\Dg B9 p.2.2/\nv B9 (p.2.2.take p.1)+B9^p.1*p.2.1=nv B9 (l.take p.1)+nv B9 (m.take p.1) }) (fun p=>VA l m p.1) (fun p=>l.length-p.1.1)
    ⟨(0,0,List.replicate (l.length+1) 0),by simp,by simp,by simp,Dg.replicate (by decide) _,by simp[nv]⟩
    (Wk.tab [(3,14)] ⟨aa,aa,aa,⟨pW (by omega),rfl⟩,aa,aa,⟨cu (by simp),rfl⟩,aa,ab⟩ ⟨rfl,rfl,rfl,sr (by simp;rfl),ab⟩ rfl) ?_
   rintro⟨⟨i,c,o⟩,hi,hc,ho,hd,hs⟩;dsimp only at hi hc ho hd hs;show W J _ _ (am [(2,.ptr 0 0),(3,.ptr 1 0),(4,.ptr 2 0),(5,.ref 3 0 (l.length+1) true),(6,.iv (.int .u32 (c:Int))),(24,.iv (.sl (l.map u32))),(25,.iv (.int .i64 (l.length:Int))),(26,.iv (.int .i64 (i:Int)))]
    [(0,.var (bF l)),(1,.var (bF m)),(2,.var (.agg [.sl []])),(3,.arr 182 1 (o.map u32) false)] 10) _
   have lo:(o.map u32).length=o.length:=by simp
   by_cases h:i<l.length
   . have hx:=fS hol.dg i;by_cases h2:i<m.length
     . have hy:=fS hom.dg i;by_cases h3:1000000000<=l.getD i 0+c+m.getD i 0
       . repeat (((first|refine W.R (by kernel_rfl) ?_|refine W.c rfl ?_|refine ap (by omega) ?_|refine⟨rfl,_,dM (by omega),?_⟩|refine⟨_,_,rfl,bh (by omega),rfl,?_⟩|refine⟨(rfl:(_:Nat)=_),_,rfl,by omega,?_⟩|refine⟨bv,_,bh (by omega),?_⟩|refine xT (by omega) ?_|refine⟨_,rfl,?_⟩|refine xr ?_);conv=>whnf))
         have hp:=n5 (d:=l.getD i 0+c+m.getD i 0-1000000000) (c':=1) (show i<o.length by omega) hs (by omega);exact⟨⟨(i+1,1,o.set i (l.getD i 0+c+m.getD i 0-1000000000)),by dsimp only;omega,by dsimp only;omega,by dsimp only;rw[cy];exact ho,hd.set (by simp only[B9];omega),hp⟩,
          Wk.tab [] ⟨aa,aa,aa,aa,aa,aa,aa,aa,ab⟩ ⟨rfl,rfl,rfl,kI (by omega) (by omega),ab⟩ rfl,by dsimp only;omega⟩
       . repeat (((first|refine W.R (by kernel_rfl) ?_|refine W.c rfl ?_|refine ap (by omega) ?_|refine⟨rfl,_,dM (by omega),?_⟩|refine⟨_,_,rfl,bh (by omega),rfl,?_⟩|refine⟨(rfl:(_:Nat)=_),_,rfl,by omega,?_⟩|refine⟨bv,_,bh (by omega),?_⟩|refine xT (by omega) ?_|refine xF (by omega) ?_|refine⟨_,rfl,?_⟩|refine xr ?_);conv=>whnf))
         have hp:=n5 (d:=l.getD i 0+c+m.getD i 0) (c':=0) (show i<o.length by omega) hs (by omega);exact⟨⟨(i+1,0,o.set i (l.getD i 0+c+m.getD i 0)),by dsimp only;omega,by dsimp only;omega,by dsimp only;rw[cy];exact ho,hd.set (by simp only[B9];omega),hp⟩,
          Wk.tab [] ⟨aa,aa,aa,aa,aa,aa,aa,aa,ab⟩ ⟨rfl,rfl,rfl,kI (by omega) (by omega),ab⟩ rfl,by dsimp only;omega⟩
     . have hy:m.getD i 0=0:=by simp[Nat.not_lt.1 h2]
       by_cases h3:1000000000<=l.getD i 0+c
       . repeat (((first|refine W.R (by kernel_rfl) ?_|refine W.c rfl ?_|refine ap (by omega) ?_|refine⟨rfl,_,dM (by omega),?_⟩|refine⟨_,_,rfl,bh (by omega),rfl,?_⟩|refine⟨(rfl:(_:Nat)=_),_,rfl,by omega,?_⟩|refine⟨bv,_,bh (by omega),?_⟩|refine xT (by omega) ?_|refine xF (by omega) ?_|refine⟨_,rfl,?_⟩|refine xr ?_);conv=>whnf))
         have hp:=n5 (d:=l.getD i 0+c-1000000000) (c':=1) (show i<o.length by omega) hs (by omega);exact⟨⟨(i+1,1,o.set i (l.getD i 0+c-1000000000)),by dsimp only;omega,by dsimp only;omega,by dsimp only;rw[cy];exact ho,hd.set (by simp only[B9];omega),hp⟩,
          Wk.tab [] ⟨aa,aa,aa,aa,aa,aa,aa,aa,ab⟩ ⟨rfl,rfl,rfl,kI (by omega) (by omega),ab⟩ rfl,by dsimp only;omega⟩
       . repeat (((first|refine W.R (by kernel_rfl) ?_|refine W.c rfl ?_|refine ap (by omega) ?_|refine⟨rfl,_,dM (by omega),?_⟩|refine⟨_,_,rfl,bh (by omega),rfl,?_⟩|refine⟨(rfl:(_:Nat)=_),_,rfl,by omega,?_⟩|refine⟨bv,_,bh (by omega),?_⟩|refine xT (by omega) ?_|refine xF (by omega) ?_|refine⟨_,rfl,?_⟩|refine xr ?_);conv=>whnf))
         have hp:=n5 (d:=l.getD i 0+c) (c':=0) (show i<o.length by omega) hs (by omega);exact⟨⟨(i+1,0,o.set i (l.getD i 0+c)),by dsimp only;omega,by dsimp only;omega,by dsimp only;rw[cy];exact ho,hd.set (by simp only[B9];omega),hp⟩,
          Wk.tab [] ⟨aa,aa,aa,aa,aa,aa,aa,aa,ab⟩ ⟨rfl,rfl,rfl,kI (by omega) (by omega),ab⟩ rfl,by dsimp only;omega⟩
   . have hil:i=l.length:=by omega
     subst hil;have hv2:nv B9 (o.set l.length c)=a+b:=by
      have e:o.set l.length c=o.take l.length ++ [c]:=by
       have:=oZ (x:=c) (show l.length<o.length by omega);rw[aH (by rw[cy];omega)] at this;exact this
      have hlt:(o.take l.length).length=l.length:=by rw[b9];omega
      rw[e,lH,hlt,hs,aH (ak _),aH (by omega),hv]
     repeat (((first|refine W.R (by kernel_rfl) ?_|refine W.c rfl ?_|refine⟨(rfl:(_:Nat)=_),_,rfl,by omega,?_⟩|refine⟨bv,_,bh (by omega),?_⟩|refine xF (by omega) ?_|refine⟨_,rfl,?_⟩|refine xr ?_);conv=>whnf))
     refine⟨_,rN J (l:=o.set l.length c) ?_ ?_,?_⟩
     . rw[bJ,aH (by simp;omega),aX,la,w9 rfl]
     . rw[cy];omega
     repeat ((refine W.ret ?_;conv=>whnf))
     exact congrArg bF (rE (hd.set (by simp only[B9];omega)) hv2)
theorem xU{es:List IV}{i:Nat}{v:IV}(h:i<es.length):(es.set i v)[i]?=some v:=by simp[h]
theorem JE{o:List Nat}{i j d:Nat}{x y:Int}(hj:j=i)(h:y=(d:Int)):some (Bx.arr 182 1 (((o.map u32).set j (.int .u32 x)).set j (.int .u32 y)) false)=some (Bx.arr 182 1 ((o.set i d).map u32) false):=by
 rw[hj,List.set_set,w9 h]
theorem xR{l m o:List Nat}{i c d c':Nat}(hi:i<o.length)(hs:nv B9 (o.take i)+nv B9 (m.take i)=nv B9 (l.take i)+B9^i*c)(he:d+m.getD i 0+c=l.getD i 0+1000000000*c') :
 nv B9 ((o.set i d).take (i+1))+nv B9 (m.take (i+1))=nv B9 (l.take (i+1))+B9^(i+1)*c':=by
 rw[oZ hi,jG l,jG m];have:=Fo (B:=B9) (A:=o.take i) (by simp;omega) hs he;omega
theorem K1{l:List Nat}:∀y∈l.map u32,y.cells.length=1/\y.isTup=false:=by
 intro y hy;obtain⟨d,_,rfl⟩:=List.mem_map.1 hy;exact⟨rfl,rfl⟩
theorem drop_getD{o l:List Nat}{i:Nat}(h:o.drop i=l.drop i):o.getD i 0=l.getD i 0:=by
 have:=congrArg (fun x=>x.getD 0 0) h;simpa[aV] using this
theorem drop_set{o l:List Nat}{i d:Nat}(h:o.drop i=l.drop i):(o.set i d).drop (i+1)=l.drop (i+1):=by
 rw[EQ];have:=congrArg (List.drop 1) h;simpa[nC,vm 1 i] using this
theorem TW{l:List Nat}{z:IV}{n k:Nat}(hn:n=l.length)(hk:k=l.length):splice (List.replicate n z) 0 (List.take k (l.map u32))=l.map u32:=by
 subst hn;subst hk;unfold splice;rw[th,ku,aH (by simp),aX,kW (by simp),jb]
theorem rO(J:Keep){a b:Nat}(hab:b<=a)(ha:ln a<2^44):C J 139 [aK a,aK b] (aK (a-b)):=by
 unfold ln at ha;obtain⟨l,hl0⟩:∃l,l=dg a:=⟨_,rfl⟩;obtain⟨m,hm0⟩:∃m,m=dg b:=⟨_,rfl⟩;have hol:Ok B9 l:=by rw[hl0];exact ct a
 have hom:Ok B9 m:=by rw[hm0];exact ct b
 have hvl:nv B9 l=a:=by rw[hl0];exact dq a
 have hvm:nv B9 m=b:=by rw[hm0];exact dq b
 show C J 139 [bF (dg a),bF (dg b)] _;rw[<-hl0,<-hm0];rw[<-hl0] at ha;have la:(l.map u32).length=l.length:=by simp
 have lb:(m.map u32).length=m.length:=by simp
 have hml:m.length<=l.length:=tA (by decide) hom (by have:=eJ hol.dg;omega);refine aI Tryz.func139 rfl rfl rfl ?_;repeat (first|((first|refine W.R (by kernel_rfl) ?_|refine W.c rfl ?_|refine⟨bv,rfl,K1,by simp,_,rfl,?_⟩);conv=>whnf)|(refine⟨by show 4*_<=(281474976710656:Nat);omega,by unfold maxLen;omega,?_⟩;conv=>whnf)|((first|refine⟨_,rfl,?_⟩|refine xr ?_);conv=>whnf))
 refine W.loop (G:={ p:Nat×Nat×List Nat // p.1<=l.length/\p.2.1<=1/\p.2.2.length=l.length/\Dg B9 p.2.2/\nv B9 (p.2.2.take p.1)+nv B9 (m.take p.1)=nv B9 (l.take p.1)+B9^p.1*p.2.1/\p.2.2.drop p.1=l.drop p.1 })
  (fun p=>am [(2,.ptr 0 0),(3,.ptr 1 0),(4,.ptr 2 0),(5,.ref 3 0 l.length true),(6,.iv (.int .u32 (p.1.2.1:Int))),(18,.iv (.int .i64 (l.length:Int))),(19,.iv (.int .i64 (p.1.1:Int)))]
    [(0,.var (bF l)),(1,.var (bF m)),(2,.var (.agg [.sl []])),(3,.arr 182 1 (p.1.2.2.map u32) false)] 20) (fun p=>l.length-p.1.1)
  ⟨(0,0,l),by simp,by simp,rfl,hol.dg,by simp[nv],rfl⟩
  (Wk.tab [(3,6)] ⟨aa,aa,aa,⟨pW (by omega),rfl⟩,aa,⟨cu (by omega),rfl⟩,aa,ab⟩ ⟨rfl,rfl,rfl,sr ?_,ab⟩ rfl) ?_
 . exact TW (by omega) (by rw[la];exact Nat.min_self _)
 rintro⟨⟨i,c,o⟩,hi,hc,ho,hd,hs,hdr⟩;dsimp only at hi hc ho hd hs hdr;show W J _ _ (am [(2,.ptr 0 0),(3,.ptr 1 0),(4,.ptr 2 0),(5,.ref 3 0 l.length true),(6,.iv (.int .u32 (c:Int))),(18,.iv (.int .i64 (l.length:Int))),(19,.iv (.int .i64 (i:Int)))]
  [(0,.var (bF l)),(1,.var (bF m)),(2,.var (.agg [.sl []])),(3,.arr 182 1 (o.map u32) false)] 20) _
 have lo:(o.map u32).length=o.length:=by simp
 have hox:o.getD (0+i) 0=l.getD i 0:=by rw[aX];exact drop_getD hdr
 have hx:=fS hol.dg i;by_cases h:i<l.length
 . by_cases h2:i<m.length
   . have hy:=fS hom.dg i;by_cases h3:l.getD i 0<c+m.getD i 0
     . by_cases hdum:True
       . have hp:=xR (d:=l.getD i 0+1000000000-(c+m.getD i 0)) (c':=1) (show i<o.length by omega) hs (by omega);have hq:=drop_set (d:=l.getD i 0+1000000000-(c+m.getD i 0)) hdr;repeat (((first|refine W.R (by kernel_rfl) ?_|refine W.c rfl ?_|refine ap (by omega) ?_|refine⟨rfl,_,dM (by omega),?_⟩|refine⟨_,_,rfl,bh (by omega),rfl,?_⟩|refine⟨(rfl:(_:Nat)=_),_,rfl,by omega,?_⟩|refine⟨_,bh (by omega),?_⟩|refine⟨_,xU (by omega),?_⟩|refine⟨bv,_,xU (by omega),?_⟩|refine⟨bv,_,bh (by omega),?_⟩|refine xT (by omega) ?_|refine⟨_,rfl,?_⟩|refine xr ?_);conv=>whnf))
         exact⟨⟨(i+1,1,o.set i (l.getD i 0+1000000000-(c+m.getD i 0))),by dsimp only;omega,by dsimp only;omega,by dsimp only;rw[cy];exact ho,hd.set (by simp only[B9];omega),hp,hq⟩,
          Wk.tab [] ⟨aa,aa,aa,aa,aa,aa,aa,ab⟩ ⟨rfl,rfl,rfl,JE (by omega) (by omega),ab⟩ rfl,by dsimp only;omega⟩
       . exact absurd trivial hdum
     . by_cases hdum:True
       . have hp:=xR (d:=l.getD i 0-(c+m.getD i 0)) (c':=0) (show i<o.length by omega) hs (by omega);have hq:=drop_set (d:=l.getD i 0-(c+m.getD i 0)) hdr;repeat (((first|refine W.R (by kernel_rfl) ?_|refine W.c rfl ?_|refine ap (by omega) ?_|refine⟨rfl,_,dM (by omega),?_⟩|refine⟨_,_,rfl,bh (by omega),rfl,?_⟩|refine⟨(rfl:(_:Nat)=_),_,rfl,by omega,?_⟩|refine⟨_,bh (by omega),?_⟩|refine⟨bv,_,bh (by omega),?_⟩|refine xT (by omega) ?_|refine xF (by omega) ?_|refine⟨_,rfl,?_⟩|refine xr ?_);conv=>whnf))
         exact⟨⟨(i+1,0,o.set i (l.getD i 0-(c+m.getD i 0))),by dsimp only;omega,by dsimp only;omega,by dsimp only;rw[cy];exact ho,hd.set (by simp only[B9];omega),hp,hq⟩,
          Wk.tab [] ⟨aa,aa,aa,aa,aa,aa,aa,ab⟩ ⟨rfl,rfl,rfl,kI (by omega) (by omega),ab⟩ rfl,by dsimp only;omega⟩
       . exact absurd trivial hdum
   . have hy:m.getD i 0=0:=by simp[Nat.not_lt.1 h2]
     by_cases h4:c=0
     . subst h4;have hfin:nv B9 o=a-b:=by
        have e1:=tD B9 o i (by omega);have e2:=tD B9 l i (by omega);rw[hdr] at e1;rw[aH (show m.length<=i by omega),jf] at hs;omega
       repeat (((first|refine W.R (by kernel_rfl) ?_|refine W.c rfl ?_|refine xT (by omega) ?_|refine xF (by omega) ?_|refine⟨_,rfl,?_⟩|refine xr ?_);conv=>whnf))
       refine⟨_,rN J (l:=o) ?_ ?_,?_⟩
       . rw[bJ,aH (by simp;omega)]
       . omega
       repeat ((refine W.ret ?_;conv=>whnf))
       exact congrArg bF (rE hd hfin)
     . have h5:c=1:=by omega
       by_cases h3:l.getD i 0<c
       . have hp:=xR (d:=l.getD i 0+1000000000-c) (c':=1) (show i<o.length by omega) hs (by omega);have hq:=drop_set (d:=l.getD i 0+1000000000-c) hdr;repeat (((first|refine W.R (by kernel_rfl) ?_|refine W.c rfl ?_|refine ap (by omega) ?_|refine⟨rfl,_,dM (by omega),?_⟩|refine⟨(rfl:(_:Nat)=_),_,rfl,by omega,?_⟩|refine⟨_,bh (by omega),?_⟩|refine⟨_,xU (by omega),?_⟩|refine⟨bv,_,xU (by omega),?_⟩|refine⟨bv,_,bh (by omega),?_⟩|refine xT (by omega) ?_|refine xF (by omega) ?_|refine⟨_,rfl,?_⟩|refine xr ?_);conv=>whnf))
         exact⟨⟨(i+1,1,o.set i (l.getD i 0+1000000000-c)),by dsimp only;omega,by dsimp only;omega,by dsimp only;rw[cy];exact ho,hd.set (by simp only[B9];omega),hp,hq⟩,
          Wk.tab [] ⟨aa,aa,aa,aa,aa,aa,aa,ab⟩ ⟨rfl,rfl,rfl,JE (by omega) (by omega),ab⟩ rfl,by dsimp only;omega⟩
       . have hp:=xR (d:=l.getD i 0-c) (c':=0) (show i<o.length by omega) hs (by omega);have hq:=drop_set (d:=l.getD i 0-c) hdr;repeat (((first|refine W.R (by kernel_rfl) ?_|refine W.c rfl ?_|refine ap (by omega) ?_|refine⟨rfl,_,dM (by omega),?_⟩|refine⟨(rfl:(_:Nat)=_),_,rfl,by omega,?_⟩|refine⟨_,bh (by omega),?_⟩|refine⟨bv,_,bh (by omega),?_⟩|refine xT (by omega) ?_|refine xF (by omega) ?_|refine⟨_,rfl,?_⟩|refine xr ?_);conv=>whnf))
         exact⟨⟨(i+1,0,o.set i (l.getD i 0-c)),by dsimp only;omega,by dsimp only;omega,by dsimp only;rw[cy];exact ho,hd.set (by simp only[B9];omega),hp,hq⟩,
          Wk.tab [] ⟨aa,aa,aa,aa,aa,aa,aa,ab⟩ ⟨rfl,rfl,rfl,kI (by omega) (by omega),ab⟩ rfl,by dsimp only;omega⟩
 . have hil:i=l.length:=by omega
   have hfin:nv B9 o=a-b:=by
    have hlt:=eJ hd;rw[hil,aH (by omega),aH (ak _),aH (by omega)] at hs;have hc0:c=0:=by
     apply fP;intro hc1;have e1:c=1:=by omega
     rw[e1,jc] at hs;rw[ho] at hlt;omega
    rw[hc0,jf] at hs;omega
   by_cases hdum:True
   . by_cases hdum2:True
     . repeat (((first|refine W.R (by kernel_rfl) ?_|refine W.c rfl ?_|refine xF (by omega) ?_|refine xr ?_);conv=>whnf))
       refine⟨_,rN J (l:=o) ?_ ?_,?_⟩
       . rw[bJ,aH (by simp;omega)]
       . omega
       repeat ((refine W.ret ?_;conv=>whnf))
       exact congrArg bF (rE hd hfin)
     . exact absurd trivial hdum2
   . exact absurd trivial hdum
theorem lX(a b:Nat):(a:Int).tdiv (b:Int)=((a/b:Nat):Int):=by
 rw[Xl (by omega)];rfl
theorem kK(a b:Nat):(a:Int).tmod (b:Int)=((a%b:Nat):Int):=by
 rw[Xk (by omega)];rfl
theorem Ug{l o:List Nat}{k d r:Nat}(hd0:0<d)(hk:k<l.length)(ho:o.length=l.length)(hs:nv B9 (l.drop (k+1))=nv B9 (o.drop (k+1))*d+r)(hr:r<d)(hx:l.getD k 0<1000000000) :
 nv B9 (l.drop k)=nv B9 ((o.set k ((r*1000000000+l.getD k 0)/d)).drop k)*d+(r*1000000000+l.getD k 0)%d/\(r*1000000000+l.getD k 0)%d<d/\(r*1000000000+l.getD k 0)/d<1000000000:=by
 have e1:l.drop k=l.getD k 0::l.drop (k+1):=by
  rw[dY hk,aV,aQ hk];rfl
 have e2:=ER (x:=(r*1000000000+l.getD k 0)/d) (show k<o.length by omega);rw[e1,e2,ic,ic,hs];have hm:=nF (r*1000000000+l.getD k 0) d;refine⟨?_,gh _ hd0,?_⟩
 . generalize (r*1000000000+l.getD k 0)/d=q at *;generalize (r*1000000000+l.getD k 0)%d=r' at *;generalize nv B9 (o.drop (k+1))=N at *;generalize l.getD k 0=x at *;simp only[B9];rw[bP,bR,dI,cz q d];omega
 . rw[mC hd0];have:(r+1)*1000000000<=d*1000000000:=bW _ hr;rw[cz 1000000000 d];omega
theorem Tk(J:Keep){a d:Nat}(hd0:0<d)(hd1:d<1000000000)(ha:ln a<2^44):C J 196 [aK a,.int .u32 d] (.tup [aK (a/d),aK (a%d)]):=by
 unfold ln at ha;obtain⟨l,hl0⟩:∃l,l=dg a:=⟨_,rfl⟩;have hol:Ok B9 l:=by rw[hl0];exact ct a
 have hvl:nv B9 l=a:=by rw[hl0];exact dq a
 show C J 196 [bF (dg a),_] _;rw[<-hl0] at ha ⊢;have la:(l.map u32).length=l.length:=by simp
 refine aI Tryz.func196 rfl rfl rfl ?_;repeat (first|((first|refine W.R (by kernel_rfl) ?_|refine W.c rfl ?_|refine ap (by omega) ?_);conv=>whnf)|(refine⟨by show 4*_<=(281474976710656:Nat);omega,by unfold maxLen;omega,?_⟩;conv=>whnf)|((first|refine⟨_,rfl,?_⟩|refine xr ?_);conv=>whnf))
 refine W.loop (G:={ p:Nat×Nat×List Nat // p.1<=l.length/\p.2.1<d/\p.2.2.length=l.length/\Dg B9 p.2.2/\nv B9 (l.drop p.1)=nv B9 (p.2.2.drop p.1)*d+p.2.1 })
  (fun p=>am [(1,.iv (.int .u32 (d:Int))),(2,.ptr 0 0),(4,.ptr 1 0),(5,.ptr 2 0),(6,.ref 3 0 l.length true),(7,.iv (.int .u64 (p.1.2.1:Int))),(8,.iv (.int .i64 ((p.1.1:Int)-1)))]
    [(0,.var (bF l)),(1,.var (.agg [.sl []])),(2,.var (.agg [.sl []])),(3,.arr 182 1 (p.1.2.2.map u32) false)] 20) (fun p=>p.1.1)
  ⟨(l.length,0,List.replicate l.length 0),by simp,by dsimp only;omega,by simp,Dg.replicate (by decide) _,by simp[nv]⟩
  (Wk.tab [(3,6)] ⟨aa,aa,aa,aa,⟨pW (by omega),rfl⟩,aa,⟨cu (by dsimp only;omega),rfl⟩,ab⟩ ⟨rfl,rfl,rfl,sr ?_,ab⟩ rfl) ?_
 . rw[la,vH];rfl
 rintro⟨⟨k,r,o⟩,hk,hr,ho,hd,hs⟩;dsimp only at hk hr ho hd hs;show W J _ _ (am [(1,.iv (.int .u32 (d:Int))),(2,.ptr 0 0),(4,.ptr 1 0),(5,.ptr 2 0),(6,.ref 3 0 l.length true),(7,.iv (.int .u64 (r:Int))),(8,.iv (.int .i64 ((k:Int)-1)))]
  [(0,.var (bF l)),(1,.var (.agg [.sl []])),(2,.var (.agg [.sl []])),(3,.arr 182 1 (o.map u32) false)] 20) _
 have lo:(o.map u32).length=o.length:=by simp
 by_cases h:k=0
 . subst h;have e1:nv B9 o=a/d:=by
    simp only[bJ,hvl] at hs;rw[hs,cz,Eh hd0,lc hr,eG]
   have e2:r=a%d:=by
    simp only[bJ,hvl] at hs;rw[hs,cz,Mo,fF hr]
   repeat (first|((first|refine W.R (by kernel_rfl) ?_|refine W.c rfl ?_);conv=>whnf)|(refine⟨_,rN J (l:=o) (by rw[bJ,aH (by simp;omega)]) (by omega),?_⟩;conv=>whnf)|((first|refine⟨_,kF J (n:=r) (by omega),?_⟩|refine xF (by omega) ?_|refine xr ?_);conv=>whnf))
   rw[rE hd e1,e2];rfl
 . obtain⟨k,rfl⟩:∃j,k=j+1:=⟨k-1,by omega⟩;have hx:=fS hol.dg k;obtain⟨s1,s2,s3⟩:=Ug hd0 (show k<l.length by omega) ho hs hr hx;obtain⟨q,hQ⟩:∃q,(r*1000000000+l.getD k 0)/d=q:=⟨_,rfl⟩;obtain⟨r',hR⟩:∃q,(r*1000000000+l.getD k 0)%d=q:=⟨_,rfl⟩;rw[hQ] at s1 s3;rw[hR] at s1 s2;have hq:IntKind.wrap .u64 (((r:Int)*1000000000+(l.getD k 0:Int)).tdiv (d:Int))=((q:Nat):Int):=by
    rw[show(r:Int)*1000000000+(l.getD k 0:Int)=((r*1000000000+l.getD k 0:Nat):Int) by omega,lX,hQ];exact dU (by omega)
   have hm:((r:Int)*1000000000+(l.getD k 0:Int)).tmod (d:Int)=((r':Nat):Int):=by
    rw[show(r:Int)*1000000000+(l.getD k 0:Int)=((r*1000000000+l.getD k 0:Nat):Int) by omega,kK,hR]
   repeat (((first|refine W.R (by kernel_rfl) ?_|refine W.c rfl ?_|refine⟨by omega,_,hq,?_⟩|refine⟨by omega,_,hm,?_⟩|refine ap (by omega) ?_|refine⟨rfl,_,dU (by omega),?_⟩|refine⟨_,_,KX _,bh (by omega),rfl,?_⟩|refine⟨(rfl:(_:Nat)=_),_,KX _,by omega,?_⟩|refine⟨bv,_,bh (by omega),?_⟩|refine⟨_,dM (by omega),?_⟩|refine⟨_,dU (by omega),?_⟩|refine xT (by omega) ?_|refine xr ?_);conv=>whnf))
   exact⟨⟨(k,r',o.set k q),by dsimp only;omega,s2,by dsimp only;rw[cy];exact ho,hd.set (by simp only[B9];omega),s1⟩,
    Wk.tab [] ⟨aa,aa,aa,aa,aa,aa,⟨cu (by dsimp only;omega),rfl⟩,ab⟩ ⟨rfl,rfl,rfl,kI (by omega) (by omega),ab⟩ rfl,by dsimp only;omega⟩
theorem US{l:List Nat}{j d:Nat}(h:j<l.length):nv B9 (l.set j d)+B9^j*l.getD j 0=nv B9 l+B9^j*d:=by
 induction l generalizing j with
 |nil=>simp at h
 |cons x l ih=>
  cases j with
  |zero=>simp[nv];omega
  |succ j=>
   have:=ih (j:=j) (by simpa using h);simp only[Ei,ic,vI,bQ];have e1:B9*(nv B9 (l.set j d)+B9^j*l.getD j 0)=B9*(nv B9 l+B9^j*d):=by rw[this]
   rw[bR,bR] at e1;rw[cz (B9^j) B9,dI,dI];omega
theorem Ud{o m:List Nat}{i k n x c r c' P:Nat}(hj:i+k<n)(hn:n<=o.length)(hs:nv B9 (o.take n)+B9^(i+k)*c=P+B9^i*(x*nv B9 (m.take k)))(he:c+(x*m.getD k 0+o.getD (i+k) 0)=r+1000000000*c') :
 nv B9 ((o.set (i+k) r).take n)+B9^(i+(k+1))*c'=P+B9^i*(x*nv B9 (m.take (k+1))):=by
 have e0:(o.set (i+k) r).take n=(o.take n).set (i+k) r:=by rw[Ml]
 have e1:=US (l:=o.take n) (d:=r) (show i+k<(o.take n).length by rw[b9];omega);have e2:(o.take n).getD (i+k) 0=o.getD (i+k) 0:=by
  rw[aV,aV,cL,ar hj]
 rw[e2] at e1;rw[e0,jG,<-kX,bQ,dI];have e3:B9^(i+k)*(c+(x*m.getD k 0+o.getD (i+k) 0))=B9^(i+k)*(r+B9*c'):=by rw[he]
 rw[bR,bR,bR] at e3;have e4:B9^i*(x*(nv B9 (m.take k)+B9^k*m.getD k 0))=B9^i*(x*nv B9 (m.take k))+B9^(i+k)*(x*m.getD k 0):=by
  rw[bR,bR,hG];congr 1;rw[dI,vJ x]
 rw[e4];omega
theorem Gn{x y:Nat}(hx:x<1000000000)(hy:y<1000000000):x*y<=999999998000000001 :=
 aP (ff (Ej hx) (Ej hy)) (by decide)
theorem lJ(J:Keep){a b:Nat}(ha:ln a+ln b<2^44):C J 79 [aK a,aK b] (aK (a*b)):=by
 unfold ln at ha;obtain⟨l,hl0⟩:∃l,l=dg a:=⟨_,rfl⟩;obtain⟨m,hm0⟩:∃m,m=dg b:=⟨_,rfl⟩;have hol:Ok B9 l:=by rw[hl0];exact ct a
 have hom:Ok B9 m:=by rw[hm0];exact ct b
 have hvl:nv B9 l=a:=by rw[hl0];exact dq a
 have hvm:nv B9 m=b:=by rw[hm0];exact dq b
 show C J 79 [bF (dg a),bF (dg b)] _;rw[<-hl0,<-hm0] at ha ⊢;have la:(l.map u32).length=l.length:=by simp
 have lb:(m.map u32).length=m.length:=by simp
 refine aI Tryz.func79 rfl rfl rfl ?_;repeat (first|((first|refine W.R (by kernel_rfl) ?_|refine W.c rfl ?_|refine ap (by omega) ?_|refine⟨rfl,_,yv _ _,?_⟩);conv=>whnf)|(refine⟨by show 4*_<=(281474976710656:Nat);omega,by unfold maxLen;omega,?_⟩;conv=>whnf)|(refine⟨_,rfl,?_⟩;conv=>whnf))
 refine W.loop (G:={ p:Nat×List Nat // p.1<=l.length/\p.2.length=l.length+m.length/\Dg B9 p.2/\nv B9 (p.2.take (p.1+m.length))=nv B9 (l.take p.1)*nv B9 m })
  (fun p=>am [(2,.ptr 0 0),(3,.ptr 1 0),(4,.ptr 2 0),(5,.ref 3 0 (l.length+m.length) true),(20,.iv (.sl (l.map u32))),(21,.iv (.int .i64 (l.length:Int))),(22,.iv (.int .i64 (p.1.1:Int)))]
    [(0,.var (bF l)),(1,.var (bF m)),(2,.var (.agg [.sl []])),(3,.arr 182 1 (p.1.2.map u32) false)] 20) (fun p=>l.length-p.1.1)
  ⟨(0,List.replicate (l.length+m.length) 0),by simp,by simp,Dg.replicate (by decide) _,by simp[nv,vW]⟩
  (Wk.tab [(3,10)] ⟨aa,aa,aa,⟨pW (by omega),rfl⟩,aa,⟨cu (by omega),rfl⟩,aa,ab⟩ ⟨rfl,rfl,rfl,sr ?_,ab⟩ rfl) ?_
 . rw[la,lb,vH];rfl
 rintro⟨⟨i,o⟩,hi,ho,hd,hs⟩;dsimp only at hi ho hd hs;show W J _ _ (am [(2,.ptr 0 0),(3,.ptr 1 0),(4,.ptr 2 0),(5,.ref 3 0 (l.length+m.length) true),(20,.iv (.sl (l.map u32))),(21,.iv (.int .i64 (l.length:Int))),(22,.iv (.int .i64 (i:Int)))]
  [(0,.var (bF l)),(1,.var (bF m)),(2,.var (.agg [.sl []])),(3,.arr 182 1 (o.map u32) false)] 20) _
 have lo:(o.map u32).length=o.length:=by simp
 by_cases h:i<l.length
 . have hx:=fS hol.dg i;repeat (((first|refine W.R (by kernel_rfl) ?_|refine W.c rfl ?_|refine⟨_,_,rfl,bh (by omega),rfl,?_⟩|refine xT (by omega) ?_|refine⟨_,rfl,?_⟩|refine xr ?_);conv=>whnf))
   refine W.loop (G:={ p:Nat×Nat×List Nat // p.1<=m.length/\p.2.1<1000000000/\p.2.2.length=l.length+m.length/\Dg B9 p.2.2/\nv B9 (p.2.2.take (i+m.length))+B9^(i+p.1)*p.2.1=nv B9 (l.take i)*nv B9 m+B9^i*(l.getD i 0*nv B9 (m.take p.1)) })
    (fun p=>am [(2,.ptr 0 0),(3,.ptr 1 0),(4,.ptr 2 0),(5,.ref 3 0 (l.length+m.length) true),(6,.iv (.int .i64 (i:Int))),(7,.iv (.int .u32 (l.getD i 0:Int))),(8,.iv (.int .u64 (p.1.2.1:Int))),(20,.iv (.sl (l.map u32))),(21,.iv (.int .i64 (l.length:Int))),(22,.iv (.int .i64 (i:Int))),
      (28,.iv (.sl (m.map u32))),(29,.iv (.int .i64 (m.length:Int))),(30,.iv (.int .i64 (p.1.1:Int)))]
      [(0,.var (bF l)),(1,.var (bF m)),(2,.var (.agg [.sl []])),(3,.arr 182 1 (p.1.2.2.map u32) false)] 40) (fun p=>m.length-p.1.1)
    ⟨(0,0,o),by simp,by simp,ho,hd,by simp[nv,hs]⟩
    (Wk.tab [] ⟨aa,aa,aa,aa,aa,aa,aa,aa,aa,aa,aa,⟨cu (by omega),rfl⟩,aa,ab⟩ ⟨rfl,rfl,rfl,rfl,ab⟩ rfl) ?_
   clear lo;rintro⟨⟨k,c,o2⟩,hk,hc,ho2,hd2,hs2⟩;dsimp only at hk hc ho2 hd2 hs2;show W J _ _ (am [(2,.ptr 0 0),(3,.ptr 1 0),(4,.ptr 2 0),(5,.ref 3 0 (l.length+m.length) true),(6,.iv (.int .i64 (i:Int))),(7,.iv (.int .u32 (l.getD i 0:Int))),(8,.iv (.int .u64 (c:Int))),(20,.iv (.sl (l.map u32))),(21,.iv (.int .i64 (l.length:Int))),(22,.iv (.int .i64 (i:Int))),
    (28,.iv (.sl (m.map u32))),(29,.iv (.int .i64 (m.length:Int))),(30,.iv (.int .i64 (k:Int)))]
    [(0,.var (bF l)),(1,.var (bF m)),(2,.var (.agg [.sl []])),(3,.arr 182 1 (o2.map u32) false)] 40) _
   have lo:(o2.map u32).length=o2.length:=by simp
   by_cases h2:k<m.length
   . have hy:=fS hom.dg k;have hov:=fS hd2 (0+(i+k));have hxy:=Gn hx hy;have hxyi:(l.getD i 0:Int)*(m.getD k 0:Int)=((l.getD i 0*m.getD k 0:Nat):Int):=rfl;obtain⟨q,hQ⟩:∃q,(c+(l.getD i 0*m.getD k 0+o2.getD (0+(i+k)) 0))/1000000000=q:=⟨_,rfl⟩;obtain⟨r,hR⟩:∃q,(c+(l.getD i 0*m.getD k 0+o2.getD (0+(i+k)) 0))%1000000000=q:=⟨_,rfl⟩;have hq:IntKind.wrap .u64 (((c:Int)+((l.getD i 0:Int)*(m.getD k 0:Int)+(o2.getD (0+(i+k)) 0:Int))).tdiv 1000000000)=((q:Nat):Int):=by
      rw[hxyi,show(c:Int)+(((l.getD i 0*m.getD k 0:Nat):Int)+(o2.getD (0+(i+k)) 0:Int))=((c+(l.getD i 0*m.getD k 0+o2.getD (0+(i+k)) 0):Nat):Int) by omega,yh,hQ];exact dU (by omega)
     have hm:((c:Int)+((l.getD i 0:Int)*(m.getD k 0:Int)+(o2.getD (0+(i+k)) 0:Int))).tmod 1000000000=((r:Nat):Int):=by
      rw[hxyi,show(c:Int)+(((l.getD i 0*m.getD k 0:Nat):Int)+(o2.getD (0+(i+k)) 0:Int))=((c+(l.getD i 0*m.getD k 0+o2.getD (0+(i+k)) 0):Nat):Int) by omega,uD,hR]
     have hz:o2.getD (0+(i+k)) 0=o2.getD (i+k) 0:=by rw[aX]
     have hp:=Ud (n:=i+m.length) (r:=r) (c':=q) (show i+k<i+m.length by omega) (by omega) hs2 (by omega);repeat (((first|refine W.R (by kernel_rfl) ?_|refine W.c rfl ?_|refine⟨by omega,_,hq,?_⟩|refine⟨by omega,_,hm,?_⟩|refine ap (by omega) ?_|refine⟨rfl,_,dU (by omega),?_⟩|refine⟨rfl,_,yv _ _,?_⟩|refine⟨_,_,rfl,bh (by omega),rfl,?_⟩|refine⟨_,bh (by omega),?_⟩|refine⟨bv,_,bh (by omega),?_⟩|refine⟨_,dM (by omega),?_⟩|refine⟨_,dU (by omega),?_⟩|refine xT (by omega) ?_|refine xr ?_|refine And.intro (by omega) ?_);conv=>whnf))
     exact⟨⟨(k+1,q,o2.set (i+k) r),by dsimp only;omega,by dsimp only;omega,by dsimp only;rw[cy];exact ho2,hd2.set (by simp only[B9];omega),hp⟩,
      Wk.tab [] ⟨aa,aa,aa,aa,aa,aa,aa,aa,aa,aa,aa,aa,aa,ab⟩ ⟨rfl,rfl,rfl,kI (by omega) (by omega),ab⟩ rfl,by dsimp only;omega⟩
   . have hkm:k=m.length:=by omega
     have hp:nv B9 ((o2.set (i+m.length) c).take (i+1+m.length))=nv B9 (l.take (i+1))*nv B9 m:=by
      rw[show i+1+m.length=(i+m.length)+1 by omega,oZ (by omega),lH];have e:(o2.take (i+m.length)).length=i+m.length:=by rw[b9];omega
      rw[e];rw[hkm,aH (ak m.length)] at hs2;rw[hs2,jG l i,bP,dI]
     repeat (((first|refine W.R (by kernel_rfl) ?_|refine W.c rfl ?_|refine ap (by omega) ?_|refine⟨rfl,_,yv _ _,?_⟩|refine⟨bv,_,bh (by omega),?_⟩|refine⟨_,dM (by omega),?_⟩|refine xF (by omega) ?_|refine⟨_,rfl,?_⟩|refine xr ?_|refine And.intro (by omega) ?_);conv=>whnf))
     exact⟨⟨(i+1,o2.set (i+m.length) c),by dsimp only;omega,by dsimp only;rw[cy];exact ho2,hd2.set (by simp only[B9];omega),hp⟩,
      Wk.tab [] ⟨aa,aa,aa,aa,aa,aa,aa,ab⟩ ⟨rfl,rfl,rfl,kI (by omega) (by omega),ab⟩ rfl,by dsimp only;omega⟩
 . have hil:i=l.length:=by omega
   have hfin:nv B9 o=a*b:=by
    rw[hil,aH (by omega),aH (ak _),hvl,hvm] at hs;exact hs
   repeat (first|((first|refine W.R (by kernel_rfl) ?_|refine W.c rfl ?_);conv=>whnf)|(refine⟨_,rN J (l:=o) (by rw[bJ,aH (by simp;omega)]) (by omega),?_⟩;conv=>whnf)|((first|refine xF (by omega) ?_|refine xr ?_);conv=>whnf))
   exact congrArg bF (rE hd hfin)
theorem FB:∀{a b:List Nat},Dg B9 a->Dg B9 b->a.length=b.length->nv B9 a=nv B9 b->a=b
 | [],[],_,_,_,_=>rfl
 | [],_::_,_,_,hl,_=>by simp at hl
 |_::_,[],_,_,hl,_=>by simp at hl
 |d::a,e::b,ha,hb,hl,h=>by
  simp only[ic] at h;have h1:=ha d (by simp);have h2:=hb e (by simp);have h3:d=e:=by
   have:=congrArg (· % B9) h;simpa[zx,fF h1,fF h2] using this
  subst h3;have h4:nv B9 a=nv B9 b:=by
   have:B9*nv B9 a=B9*nv B9 b:=by omega
   exact Xi (by decide) this
  rw[FB (fun x hx=>ha x (by simp[hx])) (fun x hx=>hb x (by simp[hx])) (by simpa using hl) h4]
theorem xL(n x:Nat):∃l:List Nat,l.length=n/\Dg B9 l/\nv B9 l=x%B9^n:=by
 induction n generalizing x with
 |zero=>exact⟨[],rfl,Dg.nil _,by simp[nv,Nat.mod_one]⟩
 |succ n ih=>
  obtain⟨l,h1,h2,h3⟩:=ih (x/B9);refine⟨x%B9::l,by simp[h1],?_,?_⟩
  . intro d hd;rcases List.mem_cons.1 hd with rfl|hd
    . exact gh _ (by decide)
    . exact h2 d hd
  . rw[ic,h3,bQ,cz (B9^n) B9,Nat.mod_mul]
noncomputable def e7(n x:Nat):List Nat:=(xL n x).choose
theorem nU(n x:Nat):(e7 n x).length=n:=(xL n x).choose_spec.1
theorem uq(n x:Nat):Dg B9 (e7 n x):=(xL n x).choose_spec.2.1
theorem uo(n x:Nat):nv B9 (e7 n x)=x%B9^n:=(xL n x).choose_spec.2.2
theorem CC{l:List Nat}{n x:Nat}(h:Dg B9 l)(hl:l.length=n)(hv:nv B9 l=x%B9^n):l=e7 n x :=
 FB h (uq n x) (by rw[hl,nU]) (by rw[hv,uo])
theorem IX{pre o post:List Nat}{i:Nat}(h:i<o.length):(pre++o++post).getD (pre.length+i) 0=o.getD i 0:=by
 rw[aV,aV,dj,Mp (by omega),Ek,List.getElem?_append_left h]
theorem SO{pre o post:List Nat}{i d:Nat}(h:i<o.length):(pre++o++post).set (pre.length+i) d=pre++o.set i d++post:=by
 simp[h]
theorem ob{pre o post:List Nat}{i d:Nat}{x:Int}(h:i<o.length)(hx:x=(d:Int)):some (Bx.arr 182 1 (((pre++o++post).map u32).set (pre.length+i) (.int .u32 x)) false)=some (Bx.arr 182 1 ((pre++o.set i d++post).map u32) false):=by
 rw[w9 hx,SO h]
theorem Ti(J:Keep){pre mid post v:List Nat}(hm:Dg B9 mid)(hv:Dg B9 v)(hl:v.length<=mid.length)(hs0:(pre++mid++post).length<2^50) :
 be Tryz.prog J.I 198 182 1 pre.length mid.length ((pre++mid++post).map u32) [.sl (v.map u32)] ((pre++e7 mid.length (nv B9 mid+nv B9 v)++post).map u32) (.bool (decide (B9^mid.length<=nv B9 mid+nv B9 v))):=by
 have lb:(v.map u32).length=v.length:=by simp
 have hs1:mid.length<2^50:=by simp at hs0;omega
 refine KT Tryz.func198 rfl rfl rfl ?_;repeat (((first|refine W.R (by kernel_rfl) ?_|refine W.c rfl ?_|refine⟨_,rfl,?_⟩);conv=>whnf))
 refine W.loop (G:={ p:Nat×Nat×List Nat // p.1<=mid.length/\p.2.1<=1/\p.2.2.length=mid.length/\Dg B9 p.2.2/\nv B9 (p.2.2.take p.1)+B9^p.1*p.2.1=nv B9 (mid.take p.1)+nv B9 (v.take p.1)/\p.2.2.drop p.1=mid.drop p.1 })
  (fun p=>am [(0,.ref aJ pre.length mid.length false),(1,.iv (.sl (v.map u32))),(5,.iv (.int .u32 (p.1.2.1:Int))),(9,.iv (.int .i64 (mid.length:Int))),(10,.iv (.int .i64 (p.1.1:Int)))]
    [(aJ,.arr 182 1 ((pre++p.1.2.2++post).map u32) false)] 10) (fun p=>mid.length-p.1.1)
  ⟨(0,0,mid),by simp,by simp,rfl,hm,by simp[nv],rfl⟩
  (Wk.tab [] ⟨aa,aa,aa,aa,aa,ab⟩ ⟨rfl,ab⟩ rfl) ?_
 rintro⟨⟨i,c,o⟩,hi,hc,ho,hd,hs,hdr⟩;dsimp only at hi hc ho hd hs hdr;show W J _ _ (am [(0,.ref aJ pre.length mid.length false),(1,.iv (.sl (v.map u32))),(5,.iv (.int .u32 (c:Int))),(9,.iv (.int .i64 (mid.length:Int))),(10,.iv (.int .i64 (i:Int)))]
  [(aJ,.arr 182 1 ((pre++o++post).map u32) false)] 10) _
 have lo:((pre++o++post).map u32).length=pre.length+o.length+post.length:=by simp;omega
 have lo2:(pre++o++post).length=pre.length+o.length+post.length:=by simp;omega
 by_cases h:i<mid.length
 . have hx:=fS hm i;have hox:(pre++o++post).getD (pre.length+i) 0=mid.getD i 0:=by rw[IX (by omega)];exact drop_getD hdr
   by_cases h2:i<v.length
   . have hy:=fS hv i;by_cases h3:1000000000<=mid.getD i 0+c+v.getD i 0
     . have hp:=n5 (d:=mid.getD i 0+c+v.getD i 0-1000000000) (c':=1) (show i<o.length by omega) hs (by omega);have hq:=drop_set (d:=mid.getD i 0+c+v.getD i 0-1000000000) hdr;repeat (((first|refine W.R (by kernel_rfl) ?_|refine W.c rfl ?_|refine ap (by omega) ?_|refine⟨rfl,_,dM (by omega),?_⟩|refine⟨_,_,rfl,bh (by omega),rfl,?_⟩|refine⟨(rfl:(_:Nat)=_),_,rfl,by omega,?_⟩|refine⟨_,bh (by omega),?_⟩|refine⟨bv,_,bh (by omega),?_⟩|refine xT (by omega) ?_|refine⟨_,rfl,?_⟩|refine xr ?_);conv=>whnf))
       exact⟨⟨(i+1,1,o.set i (mid.getD i 0+c+v.getD i 0-1000000000)),by dsimp only;omega,by dsimp only;omega,by dsimp only;rw[cy];exact ho,hd.set (by simp only[B9];omega),hp,hq⟩,
        Wk.tab [] ⟨aa,aa,aa,aa,aa,ab⟩ ⟨ob (by omega) (by omega),ab⟩ rfl,by dsimp only;omega⟩
     . have hp:=n5 (d:=mid.getD i 0+c+v.getD i 0) (c':=0) (show i<o.length by omega) hs (by omega);have hq:=drop_set (d:=mid.getD i 0+c+v.getD i 0) hdr;repeat (((first|refine W.R (by kernel_rfl) ?_|refine W.c rfl ?_|refine ap (by omega) ?_|refine⟨rfl,_,dM (by omega),?_⟩|refine⟨_,_,rfl,bh (by omega),rfl,?_⟩|refine⟨(rfl:(_:Nat)=_),_,rfl,by omega,?_⟩|refine⟨_,bh (by omega),?_⟩|refine⟨bv,_,bh (by omega),?_⟩|refine xT (by omega) ?_|refine xF (by omega) ?_|refine⟨_,rfl,?_⟩|refine xr ?_);conv=>whnf))
       exact⟨⟨(i+1,0,o.set i (mid.getD i 0+c+v.getD i 0)),by dsimp only;omega,by dsimp only;omega,by dsimp only;rw[cy];exact ho,hd.set (by simp only[B9];omega),hp,hq⟩,
        Wk.tab [] ⟨aa,aa,aa,aa,aa,ab⟩ ⟨ob (by omega) (by omega),ab⟩ rfl,by dsimp only;omega⟩
   . have hy:v.getD i 0=0:=by simp[Nat.not_lt.1 h2]
     by_cases h3:1000000000<=mid.getD i 0+c
     . have hp:=n5 (d:=mid.getD i 0+c-1000000000) (c':=1) (show i<o.length by omega) hs (by omega);have hq:=drop_set (d:=mid.getD i 0+c-1000000000) hdr;repeat (((first|refine W.R (by kernel_rfl) ?_|refine W.c rfl ?_|refine ap (by omega) ?_|refine⟨rfl,_,dM (by omega),?_⟩|refine⟨(rfl:(_:Nat)=_),_,rfl,by omega,?_⟩|refine⟨_,bh (by omega),?_⟩|refine⟨bv,_,bh (by omega),?_⟩|refine xT (by omega) ?_|refine xF (by omega) ?_|refine⟨_,rfl,?_⟩|refine xr ?_);conv=>whnf))
       exact⟨⟨(i+1,1,o.set i (mid.getD i 0+c-1000000000)),by dsimp only;omega,by dsimp only;omega,by dsimp only;rw[cy];exact ho,hd.set (by simp only[B9];omega),hp,hq⟩,
        Wk.tab [] ⟨aa,aa,aa,aa,aa,ab⟩ ⟨ob (by omega) (by omega),ab⟩ rfl,by dsimp only;omega⟩
     . have hp:=n5 (d:=mid.getD i 0+c) (c':=0) (show i<o.length by omega) hs (by omega);have hq:=drop_set (d:=mid.getD i 0+c) hdr;repeat (((first|refine W.R (by kernel_rfl) ?_|refine W.c rfl ?_|refine ap (by omega) ?_|refine⟨rfl,_,dM (by omega),?_⟩|refine⟨(rfl:(_:Nat)=_),_,rfl,by omega,?_⟩|refine⟨_,bh (by omega),?_⟩|refine⟨bv,_,bh (by omega),?_⟩|refine xT (by omega) ?_|refine xF (by omega) ?_|refine⟨_,rfl,?_⟩|refine xr ?_);conv=>whnf))
       exact⟨⟨(i+1,0,o.set i (mid.getD i 0+c)),by dsimp only;omega,by dsimp only;omega,by dsimp only;rw[cy];exact ho,hd.set (by simp only[B9];omega),hp,hq⟩,
        Wk.tab [] ⟨aa,aa,aa,aa,aa,ab⟩ ⟨ob (by omega) (by omega),ab⟩ rfl,by dsimp only;omega⟩
 . have hil:i=mid.length:=by omega
   have hlt:=eJ hd;rw[ho] at hlt;rw[hil,aH (by omega),aH (ak _),aH (by omega)] at hs;have hpad:o=e7 mid.length (nv B9 mid+nv B9 v):=CC hd ho (by rw[<-hs,zx,fF hlt]);by_cases hc0:c=0
   . subst hc0;repeat (((first|refine W.R (by kernel_rfl) ?_|refine W.c rfl ?_|refine xF (by omega) ?_|refine⟨false,bne_eq_false_iff_eq.2 (by omega),?_⟩|refine xr ?_);conv=>whnf))
     refine⟨?_,?_,rfl⟩
     . refine congrArg IV.bool (bz ?_).symm;omega
     . rw[<-hpad];rfl
   . have hc1:c=1:=by omega
     subst hc1;repeat (((first|refine W.R (by kernel_rfl) ?_|refine W.c rfl ?_|refine xF (by omega) ?_|refine⟨true,bne_iff_ne.2 (by omega),?_⟩|refine xr ?_);conv=>whnf))
     refine⟨?_,?_,rfl⟩
     . refine congrArg IV.bool (bu ?_).symm;omega
     . rw[<-hpad];rfl
theorem xD{mid v o:List Nat}{i c w x q r w' t:Nat}(hi:i<o.length)(hs:nv B9 (o.take i)+t*nv B9 (v.take i)=nv B9 (mid.take i)+B9^i*(c+w))(hC:c+t*v.getD i 0=r+1000000000*q)(hx:x+r+w=mid.getD i 0+1000000000*w') :
 nv B9 ((o.set i x).take (i+1))+t*nv B9 (v.take (i+1))=nv B9 (mid.take (i+1))+B9^(i+1)*(q+w'):=by
 rw[oZ hi,jG v,jG mid,bR,vJ t];have:=Fo (B:=B9) (A:=o.take i) (x:=x) (s:=t*v.getD i 0) (y:=mid.getD i 0) (c':=q+w') (by simp;omega) hs (by simp only[B9];omega);omega
theorem w8{v:List Nat}{i c q r t:Nat}(hs:B9^i*c<=t*nv B9 (v.take i))(hC:c+t*v.getD i 0=r+1000000000*q):B9^(i+1)*q<=t*nv B9 (v.take (i+1)):=by
 rw[jG v,bR,vJ t,bQ,dI];have e:B9^i*(c+t*v.getD i 0)=B9^i*(r+B9*q):=by rw[hC]
 rw[bR,bR] at e;omega
theorem Tj(J:Keep){pre mid post v:List Nat}{t:Nat}(ht:t<1000000000)(hm:Dg B9 mid)(hv:Dg B9 v)(hl:v.length+1<=mid.length)(hs0:(pre++mid++post).length<2^50) :
 be Tryz.prog J.I 197 182 1 pre.length mid.length ((pre++mid++post).map u32) [.sl (v.map u32),.int .u64 t] ((pre++e7 mid.length (nv B9 mid+B9^mid.length-t*nv B9 v)++post).map u32) (.bool (decide (nv B9 mid<t*nv B9 v))):=by
 have lb:(v.map u32).length=v.length:=by simp
 have hs1:mid.length<2^50:=by simp at hs0;omega
 refine KT Tryz.func197 rfl rfl rfl ?_;repeat (((first|refine W.R (by kernel_rfl) ?_|refine W.c rfl ?_|refine⟨_,rfl,?_⟩);conv=>whnf))
 refine W.loop (G:={ p:Nat×Nat×Nat×List Nat // p.1<=mid.length/\p.2.1<1000000000/\p.2.2.1<=1/\p.2.2.2.length=mid.length/\Dg B9 p.2.2.2/\nv B9 (p.2.2.2.take p.1)+t*nv B9 (v.take p.1)=nv B9 (mid.take p.1)+B9^p.1*(p.2.1+p.2.2.1)/\B9^p.1*p.2.1<=t*nv B9 (v.take p.1)/\p.2.2.2.drop p.1=mid.drop p.1 })
  (fun p=>am [(0,.ref aJ pre.length mid.length false),(1,.iv (.sl (v.map u32))),(2,.iv (.int .u64 (t:Int))),(7,.iv (.int .u64 (p.1.2.1:Int))),(8,.iv (.int .i64 (p.1.2.2.1:Int))),(12,.iv (.int .i64 (mid.length:Int))),(13,.iv (.int .i64 (p.1.1:Int)))]
    [(aJ,.arr 182 1 ((pre++p.1.2.2.2++post).map u32) false)] 10) (fun p=>mid.length-p.1.1)
  ⟨(0,0,0,mid),by simp,by simp,by simp,rfl,hm,by simp[nv],by simp,rfl⟩
  (Wk.tab [] ⟨aa,aa,aa,aa,aa,aa,aa,ab⟩ ⟨rfl,ab⟩ rfl) ?_
 rintro⟨⟨i,c,w,o⟩,hi,hc,hw,ho,hd,hs,hcs,hdr⟩;dsimp only at hi hc hw ho hd hs hcs hdr;show W J _ _ (am [(0,.ref aJ pre.length mid.length false),(1,.iv (.sl (v.map u32))),(2,.iv (.int .u64 (t:Int))),(7,.iv (.int .u64 (c:Int))),(8,.iv (.int .i64 (w:Int))),(12,.iv (.int .i64 (mid.length:Int))),(13,.iv (.int .i64 (i:Int)))]
  [(aJ,.arr 182 1 ((pre++o++post).map u32) false)] 10) _
 have lo:((pre++o++post).map u32).length=pre.length+o.length+post.length:=by simp;omega
 have lo2:(pre++o++post).length=pre.length+o.length+post.length:=by simp;omega
 by_cases h:i<mid.length
 . have hx:=fS hm i;have hox:(pre++o++post).getD (pre.length+i) 0=mid.getD i 0:=by rw[IX (by omega)];exact drop_getD hdr
   have hy:=fS hv i;have hxy:=Gn ht hy;have hxyi:(t:Int)*(v.getD i 0:Int)=((t*v.getD i 0:Nat):Int):=rfl;obtain⟨q,hQ⟩:∃q,(c+t*v.getD i 0)/1000000000=q:=⟨_,rfl⟩;obtain⟨r,hR⟩:∃q,(c+t*v.getD i 0)%1000000000=q:=⟨_,rfl⟩;have hCC:c+t*v.getD i 0=r+1000000000*q:=by omega
   by_cases h2:i<v.length
   . have hq:IntKind.wrap .u64 (((c:Int)+(t:Int)*(v.getD i 0:Int)).tdiv 1000000000)=((q:Nat):Int):=by
      rw[hxyi,show(c:Int)+((t*v.getD i 0:Nat):Int)=((c+t*v.getD i 0:Nat):Int) by omega,yh,hQ];exact dU (by omega)
     have hm':((c:Int)+(t:Int)*(v.getD i 0:Int)).tmod 1000000000=((r:Nat):Int):=by
      rw[hxyi,show(c:Int)+((t*v.getD i 0:Nat):Int)=((c+t*v.getD i 0:Nat):Int) by omega,uD,hR]
     by_cases h3:mid.getD i 0<r+w
     . have hp:=xD (x:=mid.getD i 0+1000000000-r-w) (w':=1) (show i<o.length by omega) hs hCC (by omega);have hcq:=w8 hcs hCC;have hdq:=drop_set (d:=mid.getD i 0+1000000000-r-w) hdr;repeat (((first|refine W.R (by kernel_rfl) ?_|refine W.c rfl ?_|refine⟨by omega,_,hq,?_⟩|refine⟨by omega,_,hm',?_⟩|refine ap (by omega) ?_|refine⟨rfl,_,dU (by omega),?_⟩|refine⟨_,_,rfl,bh (by omega),rfl,?_⟩|refine⟨(rfl:(_:Nat)=_),_,rfl,by omega,?_⟩|refine⟨_,bh (by omega),?_⟩|refine⟨bv,_,bh (by omega),?_⟩|refine⟨_,b7 (by omega),?_⟩|refine⟨_,dM (by omega),?_⟩|refine⟨_,dU (by omega),?_⟩|refine xT (by omega) ?_|refine⟨_,rfl,?_⟩|refine xr ?_);conv=>whnf))
       exact⟨⟨(i+1,q,1,o.set i (mid.getD i 0+1000000000-r-w)),by dsimp only;omega,by dsimp only;omega,by dsimp only;omega,by dsimp only;rw[cy];exact ho,hd.set (by simp only[B9];omega),hp,hcq,hdq⟩,
        Wk.tab [] ⟨aa,aa,aa,aa,aa,aa,aa,ab⟩ ⟨ob (by omega) (by omega),ab⟩ rfl,by dsimp only;omega⟩
     . have hp:=xD (x:=mid.getD i 0-r-w) (w':=0) (show i<o.length by omega) hs hCC (by omega);have hcq:=w8 hcs hCC;have hdq:=drop_set (d:=mid.getD i 0-r-w) hdr;repeat (((first|refine W.R (by kernel_rfl) ?_|refine W.c rfl ?_|refine⟨by omega,_,hq,?_⟩|refine⟨by omega,_,hm',?_⟩|refine ap (by omega) ?_|refine⟨rfl,_,dU (by omega),?_⟩|refine⟨_,_,rfl,bh (by omega),rfl,?_⟩|refine⟨(rfl:(_:Nat)=_),_,rfl,by omega,?_⟩|refine⟨_,bh (by omega),?_⟩|refine⟨bv,_,bh (by omega),?_⟩|refine⟨_,b7 (by omega),?_⟩|refine⟨_,dM (by omega),?_⟩|refine⟨_,dU (by omega),?_⟩|refine xT (by omega) ?_|refine xF (by omega) ?_|refine⟨_,rfl,?_⟩|refine xr ?_);conv=>whnf))
       exact⟨⟨(i+1,q,0,o.set i (mid.getD i 0-r-w)),by dsimp only;omega,by dsimp only;omega,by dsimp only;omega,by dsimp only;rw[cy];exact ho,hd.set (by simp only[B9];omega),hp,hcq,hdq⟩,
        Wk.tab [] ⟨aa,aa,aa,aa,aa,aa,aa,ab⟩ ⟨ob (by omega) (by omega),ab⟩ rfl,by dsimp only;omega⟩
   . have hy0:v.getD i 0=0:=by simp[Nat.not_lt.1 h2]
     rw[hy0,jf,eG] at hQ hR;have hq:IntKind.wrap .u64 ((c:Int).tdiv 1000000000)=((q:Nat):Int):=by
      rw[yh,hQ];exact dU (by omega)
     have hm':(c:Int).tmod 1000000000=((r:Nat):Int):=by
      rw[uD,hR]
     by_cases h3:mid.getD i 0<r+w
     . have hp:=xD (x:=mid.getD i 0+1000000000-r-w) (w':=1) (show i<o.length by omega) hs hCC (by omega);have hcq:=w8 hcs hCC;have hdq:=drop_set (d:=mid.getD i 0+1000000000-r-w) hdr;repeat (((first|refine W.R (by kernel_rfl) ?_|refine W.c rfl ?_|refine⟨by omega,_,hq,?_⟩|refine⟨by omega,_,hm',?_⟩|refine ap (by omega) ?_|refine⟨(rfl:(_:Nat)=_),_,rfl,by omega,?_⟩|refine⟨_,bh (by omega),?_⟩|refine⟨bv,_,bh (by omega),?_⟩|refine⟨_,b7 (by omega),?_⟩|refine⟨_,dM (by omega),?_⟩|refine xT (by omega) ?_|refine xF (by omega) ?_|refine⟨_,rfl,?_⟩|refine xr ?_);conv=>whnf))
       exact⟨⟨(i+1,q,1,o.set i (mid.getD i 0+1000000000-r-w)),by dsimp only;omega,by dsimp only;omega,by dsimp only;omega,by dsimp only;rw[cy];exact ho,hd.set (by simp only[B9];omega),hp,hcq,hdq⟩,
        Wk.tab [] ⟨aa,aa,aa,aa,aa,aa,aa,ab⟩ ⟨ob (by omega) (by omega),ab⟩ rfl,by dsimp only;omega⟩
     . have hp:=xD (x:=mid.getD i 0-r-w) (w':=0) (show i<o.length by omega) hs hCC (by omega);have hcq:=w8 hcs hCC;have hdq:=drop_set (d:=mid.getD i 0-r-w) hdr;repeat (((first|refine W.R (by kernel_rfl) ?_|refine W.c rfl ?_|refine⟨by omega,_,hq,?_⟩|refine⟨by omega,_,hm',?_⟩|refine ap (by omega) ?_|refine⟨(rfl:(_:Nat)=_),_,rfl,by omega,?_⟩|refine⟨_,bh (by omega),?_⟩|refine⟨bv,_,bh (by omega),?_⟩|refine⟨_,b7 (by omega),?_⟩|refine⟨_,dM (by omega),?_⟩|refine xT (by omega) ?_|refine xF (by omega) ?_|refine⟨_,rfl,?_⟩|refine xr ?_);conv=>whnf))
       exact⟨⟨(i+1,q,0,o.set i (mid.getD i 0-r-w)),by dsimp only;omega,by dsimp only;omega,by dsimp only;omega,by dsimp only;rw[cy];exact ho,hd.set (by simp only[B9];omega),hp,hcq,hdq⟩,
        Wk.tab [] ⟨aa,aa,aa,aa,aa,aa,aa,ab⟩ ⟨ob (by omega) (by omega),ab⟩ rfl,by dsimp only;omega⟩
 . have hil:i=mid.length:=by omega
   have hlt:=eJ hd;rw[ho] at hlt;rw[hil,aH (by omega),aH (ak _),aH (by omega)] at hs;rw[hil,aH (by omega)] at hcs;have hvlt:=eJ hv;have htv:t*nv B9 v<B9^mid.length:=by
    have e1:t*nv B9 v<=B9*nv B9 v:=bW _ (kt ht);have e2:B9*nv B9 v<B9*B9^v.length:=El hvlt (by decide);have e3:B9*B9^v.length<=B9^mid.length:=by rw[cz,<-bQ];exact cB (by decide) hl
    omega
   have hc0:c=0:=by
    apply fP;intro hne;have:B9^mid.length*1<=B9^mid.length*c:=fG _ (by omega);omega
   rw[hc0,aX] at hs;by_cases hw0:w=0
   . rw[hw0,jf] at hs;have hpad:o=e7 mid.length (nv B9 mid+B9^mid.length-t*nv B9 v):=CC hd ho (by
      rw[show nv B9 mid+B9^mid.length-t*nv B9 v=nv B9 o+B9^mid.length by omega,D1,fF hlt])
     subst hw0;repeat (((first|refine W.R (by kernel_rfl) ?_|refine W.c rfl ?_|refine xF (by omega) ?_|refine⟨false,bne_eq_false_iff_eq.2 (by omega),?_⟩|refine xr ?_);conv=>whnf))
     refine⟨?_,?_,rfl⟩
     . refine congrArg IV.bool (bz ?_).symm;omega
     . rw[<-hpad];rfl
   . have hw1:w=1:=by omega
     rw[hw1,jc] at hs;have hpad:o=e7 mid.length (nv B9 mid+B9^mid.length-t*nv B9 v):=CC hd ho (by
      rw[<-hs,vG,fF hlt])
     subst hw1;repeat (((first|refine W.R (by kernel_rfl) ?_|refine W.c rfl ?_|refine xF (by omega) ?_|refine⟨true,bne_iff_ne.2 (by omega),?_⟩|refine xr ?_);conv=>whnf))
     refine⟨?_,?_,rfl⟩
     . refine congrArg IV.bool (bu ?_).symm;omega
     . rw[<-hpad];rfl
theorem Vc{x n:Nat}(h1:B9^n<=x)(h2:x<B9^(n+1)):(dg x).length=n+1:=by
 have e1:=tA (by decide) (ct x) (k:=n+1) (by rw[dq];exact h2);have e2:=eJ (ct x).dg;rw[dq] at e2;apply Nat.le_antisymm e1;apply fP;intro hn;have:B9^(dg x).length<=B9^n:=cB (by decide) (by omega);omega
theorem Au{m:List Nat}{n:Nat}(hl:m.length=n+1):nv B9 m=nv B9 (m.take n)+B9^n*m.getD n 0:=by
 have:=jG m n;rwa[aH (by omega)] at this
theorem Rt{m:List Nat}{n:Nat}(hm:Ok B9 m)(hl:m.length=n+1):1<=m.getD n 0:=by
 have h1:=pY hm.nm (by intro e;rw[e] at hl;cases hl) (B:=B9);rw[hl,vG,Au hl] at h1;have h2:=eJ (hm.dg.take n);rw[b9,hl,cg (by omega)] at h2;apply fP;intro h0;have e:m.getD n 0=0:=by omega
 rw[e,jf] at h1;omega
theorem VY{m:List Nat}{n s:Nat}(hm:Ok B9 m)(hl:m.length=n+1)(hs:s=1000000000/(m.getD n 0+1)) :
 1<=s/\s<1000000000/\B9^n<=nv B9 m*s/\nv B9 m*s<B9^(n+1):=by
 have ht:=Rt hm hl;have ht2:=fS hm.dg n;have h1:1<=s:=by rw[hs];exact(Em (by omega)).2 (by omega)
 have h2:s<1000000000:=by rw[hs];exact Eg (by omega) (by omega)
 have h3:=pY hm.nm (by intro e;rw[e] at hl;cases hl) (B:=B9);rw[hl,vG] at h3;refine⟨h1,h2,aP h3 (zy _ h1),?_⟩;have h4:=eJ (hm.dg.take n);rw[b9,hl,cg (by omega)] at h4;have h5:nv B9 m<B9^n*(m.getD n 0+1):=by rw[Au hl,bR,jc];omega
 have h6:s*(m.getD n 0+1)<=B9:=by rw[hs];exact tj _ _
 have h7:nv B9 m*s<B9^n*(m.getD n 0+1)*s:=Mq h5 h1;have h8:B9^n*(m.getD n 0+1)*s<=B9^(n+1):=by
  rw[dI,cz (m.getD n 0+1),bQ];exact fG _ h6
 omega
theorem WX{a s Vz9 la n:Nat}{R:List Nat}{b:Nat}(ha:a<B9^la)(hb:B9^n<=b)(hs:1<=s)(hV:Vz9=b*s)(hR:nv B9 R=a*s)(hRl:R.length=la+1)(hn:n<=la):nv B9 (R.drop (la-n))<Vz9:=by
 have h1:=tD B9 R (la-n) (by omega);have h2:a*s<B9^la*s:=Mq ha hs;have h3:B9^la=B9^(la-n)*B9^n:=by rw[<-hG];congr 1;omega
 have h4:B9^n*s<=Vz9:=by rw[hV];exact bW _ hb
 apply Nat.lt_of_mul_lt_mul_left (a:=B9^(la-n));have h5:B9^(la-n)*(B9^n*s)<=B9^(la-n)*Vz9:=fG _ h4;rw[<-dI,<-h3] at h5;omega
theorem Qt{R:List Nat}{k n Vz9:Nat}(hR:Dg B9 R)(hl:k+n+1<R.length)(hV:Vz9<B9^(n+1))(hlt:nv B9 (R.drop (k+1))<Vz9) :
 nv B9 (R.drop k)=nv B9 ((R.drop k).take (n+2))/\nv B9 (R.drop (k+(n+2)))=0/\nv B9 (R.drop k)<B9*Vz9/\
 R.getD (k+(n+1)) 0*1000000000+R.getD (k+n) 0=nv B9 (R.drop k)/B9^n:=by
 have e1:nv B9 (R.drop k)=R.getD k 0+B9*nv B9 (R.drop (k+1)):=by
  rw[SK B9 R k (by omega),aV,aQ (by omega)];rfl
 have hd:=fS hR k;have h3:nv B9 (R.drop k)<B9*Vz9:=by
  have:B9*(nv B9 (R.drop (k+1))+1)<=B9*Vz9:=fG _ hlt;rw[bR] at this;simp only[B9] at this e1 ⊢;omega
 have h4:=tD B9 (R.drop k) (n+2) (by rw[k8];omega);rw[nC] at h4;have h5:nv B9 (R.drop (k+(n+2)))=0:=by
  apply fP;intro hne;have e:B9^(n+2)*1<=B9^(n+2)*nv B9 (R.drop (k+(n+2))):=fG _ (by omega);have e2:B9*Vz9<B9*B9^(n+1):=El hV (by decide);have e3:B9*B9^(n+1)=B9^(n+2):=by rw[cz B9 (B9^(n+1)),<-bQ]
  omega
 rw[h5,jf,eG] at h4;refine⟨h4,h5,h3,?_⟩;have g1:(R.drop k).getD n 0=R.getD (k+n) 0:=by simp[aV]
 have g2:(R.drop k).getD (n+1) 0=R.getD (k+(n+1)) 0:=by simp[aV]
 have h6:=jG (R.drop k) (n+1);have h7:=jG (R.drop k) n;rw[g1] at h7;rw[g2,h7,<-h4,bQ,dI] at h6;have h8:=eJ ((hR.drop k).take n);rw[b9,k8,cg (by omega)] at h8;have h9:nv B9 (R.drop k)=B9^n*(R.getD (k+(n+1)) 0*1000000000+R.getD (k+n) 0)+nv B9 ((R.drop k).take n):=by
  rw[h6,bR,cz (R.getD (k+(n+1)) 0) 1000000000];simp only[B9];omega
 rw[h9,Eh (fH (by decide)),lc h8];exact(eG _).symm
theorem QT{P Vz9 n vt:Nat}(hV0:0<Vz9)(vi:vt=Vz9/B9^n)(hv1:1<=vt)(hlt:P<B9*Vz9):P/Vz9<=min (P/B9^n/vt) 999999999:=by
 apply Nat.le_min.2;constructor
 . rw[zA (by omega),zA (fH (by decide))];have h1:vt*B9^n<=Vz9:=by rw[vi];exact tj _ _
   have h2:P/Vz9*Vz9<=P:=tj _ _;have h3:P/Vz9*(vt*B9^n)<=P/Vz9*Vz9:=fG _ h1;rw[dI];omega
 . have:P/Vz9<B9:=(mC hV0).2 hlt;simp only[B9] at this;omega
theorem UJ{R O part':List Nat}{k N Vz9 A:Nat}(hkR:k<=R.length)(hkO:k<O.length)(h0:nv B9 (R.drop (k+N))=0)(hp:nv B9 part'=nv B9 (R.drop k)%Vz9)(hA:nv B9 R+B9^(k+1)*(Vz9*nv B9 (O.drop (k+1)))=A) :
 nv B9 (R.take k++part'++R.drop (k+N))+B9^k*(Vz9*nv B9 ((O.set k (nv B9 (R.drop k)/Vz9)).drop k))=A/\nv B9 ((R.take k++part'++R.drop (k+N)).drop k)=nv B9 (R.drop k)%Vz9:=by
 have hl:(R.take k).length=k:=by rw[b9,cg hkR]
 have e1:(R.take k++part'++R.drop (k+N)).drop k=part'++R.drop (k+N):=by
  rw[dj,Xm (by omega),kW (by omega),ku]
 have e2:nv B9 (part'++R.drop (k+N))=nv B9 (R.drop k)%Vz9:=by rw[mM,h0,jf,hp];exact eG _
 refine⟨?_,by rw[e1,e2]⟩;rw[dj,mM,hl,e2,ER hkO,ic];have h1:=tD B9 R k hkR;have h2:=nF (nv B9 (R.drop k)) Vz9;rw[<-hA,h1,bQ];generalize nv B9 (R.drop k)/Vz9=q at *;generalize nv B9 (R.drop k)%Vz9=r at *;rw[<-h2,bR,bR,bR,dI (B9^k) B9,vJ Vz9 B9];omega
theorem xw(a b:Nat):oy (dg a) (dg b)=aL a b:=by unfold oy;rw[dq,dq]
theorem Cf{a b:Nat}(h:a<b):aL a b = -1:=by unfold aL;rw[ar (by omega)]
theorem xy{a b:Nat}(h:b<=a):0<=aL a b:=by unfold aL;split<;>(try split)<;>omega
theorem HQ(J:Keep){l:List Nat}{es:List IV}{x:Nat}(h:es=l.map u32)(hl:l.length<2^60)(hd:Dg B9 l)(hv:nv B9 l=x):C J 143 [.sl es] (aK x):=by
 rw[show aK x=bF (strip l) by rw[rE hd hv]];exact rN J h hl
theorem FX(J:Keep){a b:Nat}(hb:0<b)(hab:a<b\/b<1000000000)(ha:ln a<2^44):C J 142 [aK a,aK b] (.tup [aK (a/b),aK (a%b)]):=by
 have ha':=ha;unfold ln at ha;have la:((dg a).map u32).length=(dg a).length:=by simp
 have lb:((dg b).map u32).length=(dg b).length:=by simp
 refine aI Tryz.func142 rfl rfl rfl ?_;by_cases h:a<b
 . have hc:=Cf h;rw[<-xw] at hc;repeat (((first|refine W.R (by kernel_rfl) ?_|refine W.c rfl ?_|refine⟨_,xq J (ct a) (ct b) (by omega),?_⟩|refine xT (by omega) ?_|refine xr ?_);conv=>whnf))
   rw[lc h,fF h];show IV.tup [.agg [.sl []],aK a]=_;rw[show aK 0=.agg [.sl []] by rw[show aK 0=bF (dg 0) from rfl,pI];rfl]
 . have hb1:b<1000000000:=by omega
   have hc:=xy (Nat.not_lt.1 h);rw[<-xw] at hc;have hd:dg b=[b]:=(uK ⟨nR hb1,by intro d hd;simp at hd;omega⟩ (by simp[nv])).symm;have hl:(dg b).length=1:=by rw[hd];rfl
   have he:(dg b).getD 0 0=b:=by rw[hd];rfl
   repeat (((first|refine W.R (by kernel_rfl) ?_|refine W.c rfl ?_|refine⟨_,xq J (ct a) (ct b) (by omega),?_⟩|refine⟨_,Tk J (a:=a) (d:=(dg b).getD 0 0) (by omega) (by omega) ha',?_⟩|refine⟨0,_,rfl,bh (by omega),rfl,?_⟩|refine xT (by omega) ?_|refine xF (by omega) ?_|refine⟨_,rfl,?_⟩|refine xr ?_);conv=>whnf))
   rw[he];rfl
theorem TV{x:List Nat}{N:Nat}(h:x.length<=N):splice (List.replicate N (u32 0)) 0 (List.take (Nat.min (x.map u32).length N) (x.map u32))=(x++List.replicate (N-x.length) 0).map u32:=by
 unfold splice;have e:Nat.min (x.map u32).length N=x.length:=by rw[cT];exact cg h
 rw[e,th,ku,aH (by simp),aX,cT,List.drop_replicate,ch,vH]
theorem Ru{x n:Nat}(hl:(dg x).length=n+1):(dg x).getD n 0=x/B9^n:=by
 have h1:=Au hl;rw[dq] at h1;have h2:=eJ ((ct x).dg.take n);rw[b9,hl,cg (by omega)] at h2;have h3:x/B9^n=(nv B9 ((dg x).take n)+B9^n*(dg x).getD n 0)/B9^n:=by rw[<-h1]
 rw[h3,Mr _ _ (fH (by decide)),lc h2];exact(aX _).symm
theorem Vh{a b:Nat}(h:a≠b):Nat.beq a b=false:=by
 cases hb:Nat.beq a b
 . rfl
 . exact absurd (aw hb) h
theorem hX(a s:Nat):ln (a*s)<=ln a+ln s:=kN (by
 rw[hG];exact Nat.mul_lt_mul'' (mW a) (mW s))
theorem QY(J:Keep){a b:Nat}(hab:b<=a)(hb:1000000000<=b)(ha:ln a<2^40):C J 142 [aK a,aK b] (.tup [aK (a/b),aK (a%b)]):=by
 have ha':=ha;unfold ln at ha;obtain⟨l,hl0⟩:∃l,l=dg a:=⟨_,rfl⟩;obtain⟨m,hm0⟩:∃m,m=dg b:=⟨_,rfl⟩;have hol:Ok B9 l:=by rw[hl0];exact ct a
 have hom:Ok B9 m:=by rw[hm0];exact ct b
 have hvl:nv B9 l=a:=by rw[hl0];exact dq a
 have hvm:nv B9 m=b:=by rw[hm0];exact dq b
 have hml:m.length<=l.length:=tA (by decide) hom (by have:=eJ hol.dg;omega);obtain⟨n,hn⟩:∃n,m.length=n+2:=by
  refine⟨m.length-2,?_⟩;have h9:=eJ hom.dg;have h2:2<=m.length:=by
   apply fP;intro hh;have h8:B9^m.length<=B9^1:=cB (by decide) (by omega);rw[qT] at h8;have h7:B9=1000000000:=rfl;omega
  omega
 have hc:=xy hab;rw[<-xw] at hc;have la:((dg a).map u32).length=l.length:=by rw[hl0];simp
 have lb:((dg b).map u32).length=n+2:=by rw[<-hm0];simp[hn]
 have lb2:(dg b).length=n+2:=by rw[<-hm0];exact hn
 have hlen:l.length<2^40:=by rw[hl0];exact ha
 obtain⟨s,hs⟩:∃s,s=1000000000/(m.getD (n+1) 0+1):=⟨_,rfl⟩;obtain⟨hs1,hs2,hV1,hV2⟩:=VY hom hn hs;rw[hvm] at hV1 hV2;have vi:=fS hom.dg (n+1);have hvt2:(dg b).getD (n+1) 0<1000000000:=by rw[<-hm0];exact vi
 have hsc:IntKind.wrap .u32 ((1000000000:Int).tdiv (((dg b).getD (n+1) 0:Int)+1))=((s:Nat):Int):=by
  rw[<-hm0,show((m.getD (n+1) 0:Nat):Int)+1=((m.getD (n+1) 0+1:Nat):Int) by omega,show(1000000000:Int)=((1000000000:Nat):Int) from rfl,lX,<-hs];exact dM (by omega)
 have hls:ln s<=1:=kN (by simp only[B9];omega);have hlb:ln b=n+2:=lb2;have hvl2:ln a=l.length:=by rw[hl0];rfl
 have lv:(dg (b*s)).length=n+2:=Vc hV1 hV2;have lv2:((dg (b*s)).map u32).length=n+2:=by simp[lv]
 refine aI Tryz.func142 rfl rfl rfl ?_;repeat (((first|refine W.R (by kernel_rfl) ?_|refine W.c rfl ?_|refine⟨_,xq J (ct a) (ct b) (by omega),?_⟩|refine⟨by omega,_,hsc,?_⟩|refine⟨n+1,_,by omega,bh (by omega),rfl,?_⟩|refine ap (by omega) ?_|refine⟨rfl,_,dM (by omega),?_⟩|refine⟨_,dU (by omega),?_⟩|refine xF (by omega) ?_|refine⟨_,rfl,?_⟩|refine xr ?_);conv=>whnf))
 refine⟨_,kF J (n:=s) (by omega),?_⟩;conv=>whnf
 refine W.weak (Y':=am [(2,.ptr 0 0),(3,.ptr 1 0),(4,.ptr 2 0),(5,.ptr 3 0),(6,.ptr 4 0)] [(0,.var (aK a)),(1,.var (aK b)),(2,.var (.agg [.sl []])),(3,.var (.agg [.sl []])),(4,.var (aK s))] 30)
  (Wk.tab [(4,26)] ⟨aa,aa,aa,aa,aa,ab⟩ ⟨rfl,rfl,rfl,rfl,rfl,ab⟩ rfl) ?_
 clear hsc vi hvt2 hc;refine W.RS (by kernel_rfl) ?_;conv=>whnf
 refine⟨_,lJ J (a:=b) (b:=s) (by omega),?_⟩;conv=>whnf
 refine W.RS (by kernel_rfl) ?_;conv=>whnf
 refine⟨_,rfl,?_⟩;conv=>whnf
 refine W.RS (by kernel_rfl) ?_;conv=>whnf
 refine⟨_,rfl,?_⟩;conv=>whnf
 refine⟨rfl,_,b7 (by omega),?_⟩;conv=>whnf
 refine⟨rfl,_,jr _,?_⟩;conv=>whnf
 refine⟨by show 4*_<=(281474976710656:Nat);omega,by unfold maxLen;omega,?_⟩;conv=>whnf
 refine W.RS (by kernel_rfl) ?_;conv=>whnf
 refine⟨_,lJ J (a:=a) (b:=s) (by omega),?_⟩;conv=>whnf
 refine⟨bv,rfl,K1,?_,_,rfl,?_⟩
 . rw[zB];omega
 conv=>whnf
 refine W.RS (by kernel_rfl) ?_;conv=>whnf
 refine⟨_,rfl,?_⟩;conv=>whnf
 refine⟨rfl,_,b7 (by omega),?_⟩;conv=>whnf
 refine⟨rfl,l.length-(n+1),by omega,?_⟩;refine⟨by show 4*_<=(281474976710656:Nat);omega,by unfold maxLen;omega,?_⟩;conv=>whnf
 refine W.S ?_;refine W.RS (by kernel_rfl) ?_;conv=>whnf
 refine⟨_,rfl,?_⟩;conv=>whnf
 refine⟨rfl,_,b7 (by omega),?_⟩;conv=>whnf
 have hR0l:(dg (a*s)).length<=l.length+1:=by
  have h1:=hX a s;unfold ln at h1 hls hvl2;omega
 have hR0:nv B9 (dg (a*s)++List.replicate (l.length+1-(dg (a*s)).length) 0)=a*s:=by
  rw[mM,vW,dq];exact eG _
 have hR0len:(dg (a*s)++List.replicate (l.length+1-(dg (a*s)).length) 0).length=l.length+1:=by simp;omega
 have hini:=WX (n:=n+1) (la:=l.length) (Vz9:=b*s) (a:=a) (b:=b) (by have:=eJ hol.dg;rwa[hvl] at this) (by
  have:=pY hom.nm (by intro e;rw[e] at hn;cases hn) (B:=B9);rwa[hn,hvm] at this) hs1 rfl hR0 hR0len (by omega)
 repeat (first|(refine W.S ?_)|(refine W.block ?_))
 refine W.loop (G:={ p:Nat×List Nat×List Nat // p.1<=l.length-(n+1)/\p.2.1.length=l.length+1/\Dg B9 p.2.1/\p.2.2.length=l.length-(n+1)/\Dg B9 p.2.2/\nv B9 p.2.1+B9^p.1*(b*s*nv B9 (p.2.2.drop p.1))=a*s/\nv B9 (p.2.1.drop p.1)<b*s })
  (fun p=>am [(2,.ptr 0 0),(3,.ptr 1 0),(4,.ptr 2 0),(5,.ptr 3 0),(6,.ptr 4 0),(7,.iv (.sl ((dg (b*s)).map u32))),(8,.iv (.int .i64 ((n+2:Nat):Int))),(9,.ref 5 0 (l.length+1) true),(10,.ref 6 0 (l.length-(n+1)) true),(11,.iv (.int .i64 ((p.1.1:Int)-1)))]
    [(0,.var (aK a)),(1,.var (aK b)),(2,.var (.agg [.sl []])),(3,.var (.agg [.sl []])),(4,.var (aK s)),(5,.arr 182 1 (p.1.2.1.map u32) false),(6,.arr 182 1 (p.1.2.2.map u32) false)] 70) (fun p=>p.1.1)
  ⟨(l.length-(n+1),dg (a*s)++List.replicate (l.length+1-(dg (a*s)).length) 0,List.replicate (l.length-(n+1)) 0),ak _,hR0len,(ct _).dg.append (Dg.replicate (by decide) _),by simp,Dg.replicate (by decide) _,
   by dsimp only;rw[hR0,kW (by simp),UT,jf,jf,eG],hini⟩
  (Wk.tab [(5,42),(6,54)] ⟨aa,aa,aa,aa,aa,aa,⟨cu (by omega),rfl⟩,⟨pW (by omega),rfl⟩,⟨pW (by omega),rfl⟩,aa,ab⟩
    ⟨rfl,rfl,rfl,rfl,rfl,sr ?_,sr ?_,ab⟩ rfl) ?_
 . rw[la];exact TV (by simpa using hR0l)
 . rw[vH];rfl
 rintro⟨⟨k,R,O⟩,hk,hRl,hRd,hOl,hOd,hA,hlt⟩;dsimp only at hk hRl hRd hOl hOd hA hlt;show W J _ _ (am [(2,.ptr 0 0),(3,.ptr 1 0),(4,.ptr 2 0),(5,.ptr 3 0),(6,.ptr 4 0),(7,.iv (.sl ((dg (b*s)).map u32))),(8,.iv (.int .i64 ((n+2:Nat):Int))),(9,.ref 5 0 (l.length+1) true),(10,.ref 6 0 (l.length-(n+1)) true),(11,.iv (.int .i64 ((k:Int)-1)))]
  [(0,.var (aK a)),(1,.var (aK b)),(2,.var (.agg [.sl []])),(3,.var (.agg [.sl []])),(4,.var (aK s)),(5,.arr 182 1 (R.map u32) false),(6,.arr 182 1 (O.map u32) false)] 70) _
 clear hini hR0 hR0l hR0len;have lR:(R.map u32).length=R.length:=by simp
 have lO:(O.map u32).length=O.length:=by simp
 by_cases h:k=0
 . subst h;simp only[bJ,oX,oM] at hA hlt;have hb0:0<b:=by omega
   have hbs:0<b*s:=ld hb0 hs1;have e1:nv B9 O=a/b:=by
    have:a*s/(b*s)=nv B9 O:=by rw[<-hA,Mr _ _ hbs,lc hlt,aX]
    rw[<-this,Nat.mul_div_mul_right _ _ hs1]
   have e2:nv B9 R=a%b*s:=by
    have:a*s%(b*s)=nv B9 R:=by rw[<-hA,zx,fF hlt]
    rw[<-this,Nat.mul_mod_mul_right]
   have h3:ln (a%b*s)<2^44:=by
    have h1:=hX (a%b) s;have h2:ln (a%b)<=l.length:=kN (g9 (Nat.mod_le _ _) (by have:=eJ hol.dg;rwa[hvl] at this));omega
   repeat (((first|refine W.R (by kernel_rfl) ?_|refine W.c rfl ?_|refine⟨_,HQ J (l:=R) (es:=List.take (l.length+1) (List.drop 0 (R.map u32))) (x:=a%b*s) (by rw[bJ,aH (by omega)]) (by omega) hRd e2,?_⟩|refine⟨_,FX J (a:=a%b*s) (b:=s) hs1 (.inr hs2) h3,?_⟩|refine⟨_,HQ J (l:=O) (es:=List.take (l.length-(n+1)) (List.drop 0 (O.map u32))) (x:=a/b) (by rw[bJ,aH (by omega)]) (by omega) hOd e1,?_⟩|refine xF (by omega) ?_|refine xr ?_);conv=>whnf))
   rw[Xn _ hs1];rfl
 . obtain⟨k,rfl⟩:∃j,k=j+1:=⟨k-1,by omega⟩;have hO:k<O.length:=by omega
   obtain⟨p1,p2,p3,p4⟩:=Qt (n:=n+1) (k:=k) hRd (by omega) hV2 hlt;have hvt3:=Ru lv;have hVpos:0<b*s:=gK (fH (by decide)) hV1;have hvt1:1<=(dg (b*s)).getD (n+1) 0:=by rw[hvt3];exact(Em (fH (by decide))).2 hV1
   have hvt4:=fS (ct (b*s)).dg (n+1);have hgg:=QT hVpos hvt3 hvt1 p3;obtain⟨P,hP⟩:∃P,nv B9 (R.drop k)=P:=⟨_,rfl⟩;obtain⟨gq,hgq0⟩:∃q,(R.getD (0+(k+(n+2))) 0*1000000000+R.getD (0+(k+(n+1))) 0)/(dg (b*s)).getD (n+1) 0=q:=⟨_,rfl⟩;have z1:R.getD (0+(k+(n+2))) 0=R.getD (k+(n+2)) 0:=by rw[aX]
   have z2:R.getD (0+(k+(n+1))) 0=R.getD (k+(n+1)) 0:=by rw[aX]
   have d1:=fS hRd (0+(k+(n+2)));have d2:=fS hRd (0+(k+(n+1)));have hgq1:gq<=R.getD (0+(k+(n+2))) 0*1000000000+R.getD (0+(k+(n+1))) 0:=by rw[<-hgq0];exact li _ _
   rw[hP] at p1 p3 p4 hgg;have hgq2:P/B9^(n+1)/(dg (b*s)).getD (n+1) 0=gq:=by rw[<-p4,<-hgq0,z1,z2]
   rw[hgq2] at hgg;have hgq:IntKind.wrap .u64 (((R.getD (0+(k+(n+2))) 0:Int)*1000000000+(R.getD (0+(k+(n+1))) 0:Int)).tdiv ((dg (b*s)).getD (n+1) 0:Int))=((gq:Nat):Int):=by
    rw[show(R.getD (0+(k+(n+2))) 0:Int)*1000000000+(R.getD (0+(k+(n+1))) 0:Int)=((R.getD (0+(k+(n+2))) 0*1000000000+R.getD (0+(k+(n+1))) 0:Nat):Int) by omega,lX,hgq0];exact dU (by omega)
   obtain⟨g,hg⟩:∃g,min gq 999999999=g:=⟨_,rfl⟩;rw[hg] at hgg;have hmin:(if(999999999:Int)<(gq:Int) then(999999999:Int) else(gq:Int))=(g:Int):=by rw[<-hg];split<;>omega
   have hg1:g<1000000000:=by omega
   clear hgq0 hgq1 hgq2 hvt3 p4;obtain⟨mid,hmid⟩:∃x,x=(R.drop k).take (n+3):=⟨_,rfl⟩;have hmidl:mid.length=n+3:=by rw[hmid,b9,k8];omega
   have hmidd:Dg B9 mid:=by rw[hmid];exact(hRd.drop k).take _
   have hmidv:nv B9 mid=P:=by rw[hmid];exact p1.symm
   have hprel:(R.take k).length=0+k:=by rw[b9];omega
   have hRe:R.take k++mid++R.drop (k+(n+3))=R:=by
    rw[hmid,dj,<-nC,ks,ks]
   have hsub:be Tryz.prog J.I 197 182 1 (0+k) (k+(n+2)+1-k) (R.map u32) [.sl ((dg (b*s)).map u32),.int .u64 g] ((R.take k++e7 (n+3) (P+B9^(n+3)-g*(b*s))++R.drop (k+(n+3))).map u32) (.bool (decide (P<g*(b*s)))):=by
    have h:=Tj J (pre:=R.take k) (mid:=mid) (post:=R.drop (k+(n+3))) (v:=dg (b*s)) (t:=g) hg1 hmidd (ct _).dg (by omega) (by rw[hRe];omega);rw[hRe,hprel,hmidl,hmidv,dq] at h;rw[show k+(n+2)+1-k=n+3 by omega];exact h
   have hlenp:∀x:List Nat,x.length=n+3->(R.take k++x++R.drop (k+(n+3))).length=R.length:=fun x hx=>by
    rw[ce,ce,k8,hprel,hx];omega
   have hgive:∀part:List Nat,part.length=n+3->Dg B9 part->be Tryz.prog J.I 198 182 1 (0+k) (k+(n+2)+1-k) ((R.take k++part++R.drop (k+(n+3))).map u32) [.sl ((dg (b*s)).map u32)] ((R.take k++e7 (n+3) (nv B9 part+b*s)++R.drop (k+(n+3))).map u32) (.bool (decide (B9^(n+3)<=nv B9 part+b*s))):=fun part h1 h2=>by
    have h:=Ti J (pre:=R.take k) (mid:=part) (post:=R.drop (k+(n+3))) (v:=dg (b*s)) h2 (ct _).dg (by omega) (by rw[hlenp part h1];omega);rw[hprel,h1,dq] at h;rw[show k+(n+2)+1-k=n+3 by omega];exact h
   have hgV:g*(b*s)<B9^(n+3):=by
    have e1:g*(b*s)<=B9*(b*s):=bW _ (kt hg1);have e2:B9*(b*s)<B9*B9^(n+2):=El hV2 (by decide);have e3:B9*B9^(n+2)=B9^(n+3):=by rw[cz B9 (B9^(n+2)),<-bQ]
    omega
   have hPN:P<B9^(n+3):=by
    have e2:B9*(b*s)<B9*B9^(n+2):=El hV2 (by decide);have e3:B9*B9^(n+2)=B9^(n+3):=by rw[cz B9 (B9^(n+2)),<-bQ]
    omega
   have hqV:P/(b*s)*(b*s)<=P:=tj _ _;have hVN:b*s<B9^(n+3):=gK hV2 (cB (by decide) (by omega));have hend:∀part':List Nat,part'.length=n+3->Dg B9 part'->nv B9 part'=P%(b*s)->∀q,q=P/(b*s)->
    (k<=l.length-(n+1)/\(R.take k++part'++R.drop (k+(n+3))).length=l.length+1/\Dg B9 (R.take k++part'++R.drop (k+(n+3)))/\(O.set k q).length=l.length-(n+1)/\Dg B9 (O.set k q)/\
      nv B9 (R.take k++part'++R.drop (k+(n+3)))+B9^k*(b*s*nv B9 ((O.set k q).drop k))=a*s/\nv B9 ((R.take k++part'++R.drop (k+(n+3))).drop k)<b*s):=by
    intro part' h1 h2 h3 q hq;obtain⟨o1,o2⟩:=UJ (part':=part') (N:=n+3) (A:=a*s) (Vz9:=b*s) (show k<=R.length by omega) hO p2 (by rw[h3,hP]) hA;rw[hP,<-hq] at o1;rw[hP] at o2;refine⟨by omega,?_,((hRd.take k).append h2).append (hRd.drop _),by rw[cy];exact hOl,hOd.set ?_,o1,by rw[o2];exact gh _ hVpos⟩
    . rw[ce,ce,k8,h1];omega
    . have:P/(b*s)<B9:=(mC hVpos).2 p3;omega
   rw[show(((k+1:Nat):Int)-1)=(k:Int) by omega];clear hs hls hlb hvl2 ha' hs2 hV1 hV2 ha la lb lb2 hmidv hmidl hmidd hRe;repeat (((first|refine W.R (by kernel_rfl) ?_|refine W.c rfl ?_|refine⟨by omega,_,hgq,?_⟩|refine⟨(rfl:(_:Nat)=_),k+(n+2),yv _ _,by omega,?_⟩|refine⟨(rfl:(_:Nat)=_),k+(n+1),by omega,by omega,?_⟩|refine⟨n+1,_,by omega,bh (by omega),rfl,?_⟩|refine⟨(g:Int),hmin,?_⟩|refine⟨(rfl:(_:Nat)=_),k+(n+2)+1,by omega,k+(n+2)+1,by omega,k,rfl,by omega,by omega,by omega,.inr (by simp),false,Vh (by omega),?_⟩|refine ap (by omega) ?_|refine⟨rfl,_,dU (by omega),?_⟩|refine⟨_,bh (by omega),?_⟩|refine⟨_,dU (by omega),?_⟩|refine xT (by omega) ?_|refine xr ?_);conv=>whnf))
   by_cases hlt2:P<g*(b*s)
   . rw[bu hlt2] at hsub;refine⟨bv,_,_,hsub,by rw[cT,cT,hlenp _ (nU _ _)],?_⟩;conv=>whnf
     repeat (first|(refine W.RS (by kernel_rfl) ?_;conv=>whnf)|(refine W.block ?_)|(refine W.condT rfl ?_))
     refine W.loop (G:={ p:Bool×Nat×List Nat // p.2.2.length=n+3/\Dg B9 p.2.2/\(p.1=false->nv B9 p.2.2+p.2.1*(b*s)=P+B9^(n+3)/\P<p.2.1*(b*s)/\p.2.1<1000000000)/\(p.1=true->nv B9 p.2.2=P%(b*s)/\p.2.1=P/(b*s)) })
      (fun p=>am [(2,.ptr 0 0),(3,.ptr 1 0),(4,.ptr 2 0),(5,.ptr 3 0),(6,.ptr 4 0),(7,.iv (.sl ((dg (b*s)).map u32))),(8,.iv (.int .i64 ((n+2:Nat):Int))),(9,.ref 5 0 (l.length+1) true),(10,.ref 6 0 (l.length-(n+1)) true),(11,.iv (.int .i64 (k:Int))),(13,.iv (.int .u64 (p.1.2.1:Int))),(14,.ref 5 (0+k) (k+(n+2)+1-k) false),(15,.iv (.bool p.1.1))]
        [(0,.var (aK a)),(1,.var (aK b)),(2,.var (.agg [.sl []])),(3,.var (.agg [.sl []])),(4,.var (aK s)),(5,.arr 182 1 ((R.take k++p.1.2.2++R.drop (k+(n+3))).map u32) false),(6,.arr 182 1 (O.map u32) false)] 300) (fun p=>bif p.1.1 then 0 else p.1.2.1)
      ⟨(false,g,e7 (n+3) (P+B9^(n+3)-g*(b*s))),nU _ _,uq _ _,fun _=>⟨by
       dsimp only;rw[uo,fF (by omega)];omega,hlt2,hg1⟩,fun e=>by cases e⟩
      (Wk.tab [] ⟨aa,aa,aa,aa,aa,aa,aa,aa,aa,aa,aa,aa,aa,ab⟩ ⟨rfl,rfl,rfl,rfl,rfl,rfl,rfl,ab⟩ rfl) ?_
     rintro⟨⟨made,g',part⟩,hpl,hpd,hpf,hpt⟩;dsimp only at hpl hpd hpf hpt;show W J _ _ (am [(2,.ptr 0 0),(3,.ptr 1 0),(4,.ptr 2 0),(5,.ptr 3 0),(6,.ptr 4 0),(7,.iv (.sl ((dg (b*s)).map u32))),(8,.iv (.int .i64 ((n+2:Nat):Int))),(9,.ref 5 0 (l.length+1) true),(10,.ref 6 0 (l.length-(n+1)) true),(11,.iv (.int .i64 (k:Int))),(13,.iv (.int .u64 (g':Int))),(14,.ref 5 (0+k) (k+(n+2)+1-k) false),(15,.iv (.bool made))]
      [(0,.var (aK a)),(1,.var (aK b)),(2,.var (.agg [.sl []])),(3,.var (.agg [.sl []])),(4,.var (aK s)),(5,.arr 182 1 ((R.take k++part++R.drop (k+(n+3))).map u32) false),(6,.arr 182 1 (O.map u32) false)] 300) _
     cases made with
     |true=>
      obtain⟨hv1,hq1⟩:=hpt rfl;have hq9:P/(b*s)<1000000000:=(mC hVpos).2 (by simp only[B9] at p3;exact p3);repeat (((first|refine W.R (by kernel_rfl) ?_|refine W.c rfl ?_|refine ap (by omega) ?_|refine⟨(rfl:(_:Nat)=_),_,rfl,by omega,?_⟩|refine⟨bv,_,bh (by omega),?_⟩|refine⟨_,dM (by omega),?_⟩|refine⟨false,beq_eq_false_iff_ne.2 (by omega),?_⟩);conv=>whnf))
      have he:=hend part hpl hpd hv1 g' hq1;exact⟨⟨(k,R.take k++part++R.drop (k+(n+3)),O.set k g'),he⟩,
       Wk.tab [] ⟨aa,aa,aa,aa,aa,aa,aa,aa,aa,aa,ab⟩ ⟨rfl,rfl,rfl,rfl,rfl,rfl,kI (by omega) (by omega),ab⟩ rfl,by dsimp only;omega⟩
     |false=>
      obtain⟨hv1,hl1,hg9⟩:=hpf rfl;have hg0:0<g':=by
       apply fP;intro hh;have:g'=0:=by omega
       rw[this,mA] at hl1;omega
      obtain⟨g',rfl⟩:∃j,g'=j+1:=⟨g'-1,by omega⟩;rw[bP,oM] at hv1 hl1;have hgi:=hgive part hpl hpd;have hgl:((R.take k++e7 (n+3) (nv B9 part+b*s)++R.drop (k+(n+3))).map u32).length=((R.take k++part++R.drop (k+(n+3))).map u32).length:=by
       rw[cT,cT,hlenp _ (nU _ _),hlenp _ hpl]
      by_cases hmd:B9^(n+3)<=nv B9 part+b*s
      . rw[bu hmd] at hgi;have hgood:nv B9 (e7 (n+3) (nv B9 part+b*s))=P%(b*s)/\g'=P/(b*s):=by
         have e1:g'*(b*s)<=P:=by omega
         have e2:nv B9 (e7 (n+3) (nv B9 part+b*s))=P-g'*(b*s):=by
          rw[uo,show nv B9 part+b*s=(P-g'*(b*s))+B9^(n+3) by omega,D1,fF (by omega)]
         have e3:g'=P/(b*s):=(Nat.div_eq_of_lt_le e1 (by rw[bP,oM];exact hl1)).symm;refine⟨?_,e3⟩;have e:=nF P (b*s);rw[<-e3,cz] at e;omega
        repeat (((first|refine W.R (by kernel_rfl) ?_|refine W.c rfl ?_|refine⟨bv,_,_,hgi,hgl,?_⟩|refine⟨rfl,_,dU (by omega),?_⟩|refine⟨_,rfl,?_⟩);conv=>whnf))
        refine⟨⟨(true,g',e7 (n+3) (nv B9 part+b*s)),nU _ _,uq _ _,fun e=>(by cases e),fun _=>hgood⟩,
         Wk.tab [] ⟨aa,aa,aa,aa,aa,aa,aa,aa,aa,aa,⟨cu (by dsimp only;omega),rfl⟩,aa,aa,ab⟩ ⟨rfl,rfl,rfl,rfl,rfl,rfl,rfl,ab⟩ rfl,?_⟩
        show 0<g'+1;omega
      . rw[bz hmd] at hgi;have hgood:nv B9 (e7 (n+3) (nv B9 part+b*s))+g'*(b*s)=P+B9^(n+3)/\P<g'*(b*s)/\g'<1000000000:=by
         have e2:nv B9 (e7 (n+3) (nv B9 part+b*s))=nv B9 part+b*s:=by
          rw[uo,fF (by omega)]
         rw[e2];omega
        repeat (((first|refine W.R (by kernel_rfl) ?_|refine W.c rfl ?_|refine⟨bv,_,_,hgi,hgl,?_⟩|refine⟨rfl,_,dU (by omega),?_⟩|refine⟨_,rfl,?_⟩);conv=>whnf))
        refine⟨⟨(false,g',e7 (n+3) (nv B9 part+b*s)),nU _ _,uq _ _,fun _=>hgood,fun e=>(by cases e)⟩,
         Wk.tab [] ⟨aa,aa,aa,aa,aa,aa,aa,aa,aa,aa,⟨cu (by dsimp only;omega),rfl⟩,aa,aa,ab⟩ ⟨rfl,rfl,rfl,rfl,rfl,rfl,rfl,ab⟩ rfl,?_⟩
        show g'<g'+1;omega
   . rw[bz hlt2] at hsub;have hq:g=P/(b*s):=by
      have e:=(zA hVpos).2 (Nat.not_lt.1 hlt2);omega
     have hpv:nv B9 (e7 (n+3) (P+B9^(n+3)-g*(b*s)))=P%(b*s):=by
      rw[uo,show P+B9^(n+3)-g*(b*s)=(P-g*(b*s))+B9^(n+3) by omega,D1,fF (by omega)];have e:=nF P (b*s);rw[<-hq,cz] at e;omega
     refine⟨bv,_,_,hsub,by rw[cT,cT,hlenp _ (nU _ _)],?_⟩;repeat (first|((first|refine W.R (by kernel_rfl) ?_|refine W.skip ?_|refine ap (by omega) ?_|refine⟨(rfl:(_:Nat)=_),_,rfl,by omega,?_⟩|refine⟨bv,_,bh (by omega),?_⟩|refine⟨_,dM (by omega),?_⟩);conv=>whnf)|(refine W.condF rfl ?_))
     have he:=hend _ (nU _ _) (uq _ _) hpv g hq;exact⟨⟨(k,R.take k++e7 (n+3) (P+B9^(n+3)-g*(b*s))++R.drop (k+(n+3)),O.set k (g)),he⟩,
      Wk.tab [] ⟨aa,aa,aa,aa,aa,aa,aa,aa,aa,aa,ab⟩ ⟨rfl,rfl,rfl,rfl,rfl,rfl,kI (by omega) (by omega),ab⟩ rfl,by dsimp only;omega⟩
theorem B8(J:Keep){a b:Nat}(hb:0<b)(ha:ln a<2^40):C J 142 [aK a,aK b] (.tup [aK (a/b),aK (a%b)]):=by
 by_cases h:a<b\/b<1000000000
 . exact FX J hb h (by omega)
 . exact QY J (by omega) (by omega) ha
theorem jJ{a b:Nat}(h:a<=b):ln a<=ln b:=kN (g9 h (mW b))
theorem CI{a:Nat}(h:ln a<=2):a<1000000000000000000:=by
 have h1:=mW a;have h2:B9^ln a<=B9^2:=cB (by decide) h;have h3:B9^2=1000000000000000000:=by decide
 omega
theorem IZ{a:Nat}(h:ln a=0):a=0:=by
 have h1:=mW a;rw[h,oX] at h1;omega
theorem Kc{a:Nat}(h:0<a):0<ln a:=by
 apply fP;intro hh;have:=IZ (a:=a) (by omega);omega
theorem Tu(J:Keep)(hw:∀n,ln n<=2->C J 195 [aK n] (.int .u64 n)){a b:Nat}(ha:ln a<2^40)(hb:ln b<2^40):C J 140 [aK a,aK b] (aK (Nat.gcd a b)):=by
 refine aI Tryz.func140 rfl rfl rfl ?_;repeat (((first|refine W.R (by kernel_rfl) ?_|refine W.c rfl ?_);conv=>whnf))
 refine W.loop (G:={ p:Nat×Nat // Nat.gcd p.1 p.2=Nat.gcd a b/\ln p.1<2^40/\ln p.2<2^40 }) (fun p=>am [(2,.ptr 0 0),(3,.ptr 1 0),(4,.ptr 2 0)] [(0,.var (aK p.1.1)),(1,.var (aK p.1.2)),(2,.var (.agg [.sl []]))] 10) (fun p=>p.1.2)
  ⟨(a,b),rfl,ha,hb⟩ (Wk.tab [] ⟨aa,aa,aa,ab⟩ ⟨rfl,rfl,rfl,ab⟩ rfl) ?_
 rintro⟨⟨x,y⟩,hg,hx,hy⟩;dsimp only at hg hx hy;show W J _ _ (am [(2,.ptr 0 0),(3,.ptr 1 0),(4,.ptr 2 0)] [(0,.var (aK x)),(1,.var (aK y)),(2,.var (.agg [.sl []]))] 10) _;have lx:((dg x).map u32).length=ln x:=by simp[ln]
 have ly:((dg y).map u32).length=ln y:=by simp[ln]
 by_cases h0:y=0
 . have hly:ln y=0:=by subst h0;unfold ln;rw[pI];rfl
   have hz:((((dg y).map u32).length:Int)==0)=true:=by rw[ly,hly];rfl
   have hz2:=rP J ((dg y).map u32);rw[hz] at hz2;repeat (((first|refine W.R (by kernel_rfl) ?_|refine W.c rfl ?_|refine⟨_,hz2,?_⟩|refine⟨_,rfl,?_⟩);conv=>whnf))
   rw[<-hg,h0,Eo];rfl
 . have hlp:=Kc (a:=y) (by omega);have hz:((((dg y).map u32).length:Int)==0)=false:=by rw[ly];exact beq_eq_false_iff_ne.2 (by omega)
   have hz2:=rP J ((dg y).map u32);rw[hz] at hz2;have hbig:C J 142 [aK x,aK y] (.tup [aK (x/y),aK (x%y)]):=B8 J (by omega) hx;have hym:x%y<y:=gh _ (by omega);have hgn:Nat.gcd y (x%y)=Nat.gcd a b:=by rw[<-hg,qU x y,Ep y x,qU]
   have hlm:ln (x%y)<2^40:=g9 (jJ (kt hym)) hy;by_cases h1:ln x<=2
   . by_cases h2:ln y<=2
     . have bx:=CI h1;have bY:=CI h2;repeat (((first|refine W.R (by kernel_rfl) ?_|refine W.c rfl ?_|refine⟨_,hz2,?_⟩|refine⟨_,hw x h1,?_⟩|refine⟨_,hw y h2,?_⟩|refine xT (by omega) ?_|refine⟨_,rfl,?_⟩|refine xr ?_|refine xB ?_);conv=>whnf))
       refine W.loop (G:={ p:Nat×Nat // Nat.gcd p.1 p.2=Nat.gcd a b/\p.1<1000000000000000000/\p.2<1000000000000000000 }) (fun p=>am [(2,.ptr 0 0),(3,.ptr 1 0),(4,.ptr 2 0),(5,.iv (.int .u64 (p.1.1:Int))),(6,.iv (.int .u64 (p.1.2:Int)))] [(0,.var (aK x)),(1,.var (aK y)),(2,.var (.agg [.sl []]))] 40) (fun p=>p.1.2)
        ⟨(x,y),hg,bx,bY⟩ (Wk.tab [] ⟨aa,aa,aa,aa,aa,ab⟩ ⟨rfl,rfl,rfl,ab⟩ rfl) ?_
       rintro⟨⟨u,v⟩,hg2,hu,hv⟩;dsimp only at hg2 hu hv;show W J _ _ (am [(2,.ptr 0 0),(3,.ptr 1 0),(4,.ptr 2 0),(5,.iv (.int .u64 (u:Int))),(6,.iv (.int .u64 (v:Int)))] [(0,.var (aK x)),(1,.var (aK y)),(2,.var (.agg [.sl []]))] 40) _;by_cases h3:v=0
       . subst h3;repeat (((first|refine W.R (by kernel_rfl) ?_|refine W.c rfl ?_|refine⟨_,kF J (n:=u) (by omega),?_⟩|refine⟨false,bne_eq_false_iff_eq.2 (by omega),?_⟩|refine xr ?_);conv=>whnf))
         rw[<-hg2,Eo];rfl
       . have hvm:u%v<v:=gh _ (by omega);have hm:=kK u v;obtain⟨r,hr⟩:∃r,u%v=r:=⟨_,rfl⟩;rw[hr] at hm hvm;repeat (((first|refine W.R (by kernel_rfl) ?_|refine W.c rfl ?_|refine⟨by omega,_,hm,?_⟩|refine⟨true,bne_iff_ne.2 (by omega),?_⟩|refine xr ?_);conv=>whnf))
         exact⟨⟨(v,r),by rw[<-hg2,<-hr,qU u v,Ep v u,qU],hv,by dsimp only;omega⟩,Wk.tab [] ⟨aa,aa,aa,aa,aa,ab⟩ ⟨rfl,rfl,rfl,ab⟩ rfl,hvm⟩
     . repeat (((first|refine W.R (by kernel_rfl) ?_|refine W.c rfl ?_|refine⟨_,hz2,?_⟩|refine⟨_,hbig,?_⟩|refine xT (by omega) ?_|refine xF (by omega) ?_|refine⟨_,rfl,?_⟩|refine xr ?_|refine xB ?_);conv=>whnf))
       exact⟨⟨(y,x%y),hgn,hy,hlm⟩,Wk.tab [] ⟨aa,aa,aa,ab⟩ ⟨rfl,rfl,rfl,ab⟩ rfl,hym⟩
   . repeat (((first|refine W.R (by kernel_rfl) ?_|refine W.c rfl ?_|refine⟨_,hz2,?_⟩|refine⟨_,hbig,?_⟩|refine xF (by omega) ?_|refine⟨_,rfl,?_⟩|refine xr ?_|refine xA ?_);conv=>whnf))
     exact⟨⟨(y,x%y),hgn,hy,hlm⟩,Wk.tab [] ⟨aa,aa,aa,ab⟩ ⟨rfl,rfl,rfl,ab⟩ rfl,hym⟩
theorem KG{x y:Nat}(h:x=y):some (Bx.var (aK x))=some (Bx.var (aK y)):=by rw[h]
theorem pM:ln 1=1:=by
 have h1:=kN (n:=1) (k:=1) (by decide);have h2:=Kc (a:=1) (by omega);omega
theorem CJ(a k:Nat):ln (a^k)<=k*ln a+1:=by
 induction k with
 |zero=>rw[oX,pM];omega
 |succ k ih=>
  have h1:=kN (n:=a^(k+1)) (k:=(k+1)*ln a+1) (by
   have e:∀k,a^(k+1)<B9^((k+1)*ln a+1):=fun k=>by
    rw[cz,bQ B9,zC];have h2:a^(k+1)<=(B9^ln a)^(k+1):=zD (kt (mW a)) _;have h3:0<(B9^ln a)^(k+1):=fH (fH (by decide));have h4:(B9^ln a)^(k+1)*2<=(B9^ln a)^(k+1)*B9:=fG _ (by decide);omega
   exact e k)
  exact h1
theorem Jo(J:Keep){a n:Nat}(hn:n<2^30)(hl:(n+1)*ln a<2^40):C J 138 [aK a,.int .i64 n] (aK (a^n)):=by
 refine aI Tryz.func138 rfl rfl rfl ?_;repeat (((first|refine W.R (by kernel_rfl) ?_|refine W.c rfl ?_|refine⟨_,kF J (n:=1) (by omega),?_⟩);conv=>whnf))
 refine W.loop (G:={ p:Nat×Nat×Nat // p.1+p.2.1*p.2.2=n/\p.2.1<=n+1/\p.2.2<=n }) (fun p=>am [(1,.iv (.int .i64 (p.1.2.2:Int))),(2,.ptr 0 0),(4,.ptr 1 0),(5,.ptr 2 0)] [(0,.var (aK (a^p.1.2.1))),(1,.var (.agg [.sl []])),(2,.var (aK (a^p.1.1)))] 10) (fun p=>p.1.2.2)
  ⟨(0,1,n),by dsimp only;omega,by dsimp only;omega,ak _⟩ (Wk.tab [(2,3)] ⟨aa,aa,aa,aa,ab⟩ ⟨KG (by rw[qT]),rfl,KG (by rw[oX]),ab⟩ rfl) ?_
 rintro⟨⟨u,w,m⟩,he,hw,hmn⟩;dsimp only at he hw hmn;show W J _ _ (am [(1,.iv (.int .i64 (m:Int))),(2,.ptr 0 0),(4,.ptr 1 0),(5,.ptr 2 0)] [(0,.var (aK (a^w))),(1,.var (.agg [.sl []])),(2,.var (aK (a^u)))] 10) _;have hu:u<=n:=by omega
 have l1:ln (a^u)<=2^40+1:=by
  have h1:=CJ a u;have h2:u*ln a<=(n+1)*ln a:=bW _ (by omega);omega
 have l2:ln (a^w)<=2^40+1:=by
  have h1:=CJ a w;have h2:w*ln a<=(n+1)*ln a:=bW _ hw;omega
 have hm2:(m:Int).tmod 2=((m%2:Nat):Int):=kK m 2;have hq2:IntKind.wrap .i64 ((m:Int).tdiv 2)=((m/2:Nat):Int):=by
  rw[show(2:Int)=((2:Nat):Int) from rfl,lX];exact b7 (by omega)
 obtain⟨q,hq⟩:∃q,m/2=q:=⟨_,rfl⟩;obtain⟨r,hr⟩:∃r,m%2=r:=⟨_,rfl⟩;rw[hq] at hq2;rw[hr] at hm2;have c1:C J 79 [aK (a^u),aK (a^w)] (aK (a^(u+w))):=by
  rw[hG];exact lJ J (by omega)
 have c2:C J 79 [aK (a^w),aK (a^w)] (aK (a^(w+w))):=by
  rw[hG];exact lJ J (by omega)
 have hww:w*m=2*(w*q)+w*r:=by
  have:m=2*q+r:=by omega
  rw[this,bR,vJ]
 have hdd:(w+w)*q=2*(w*q):=by rw[<-Nat.two_mul,dI]
 have hle:w*2<=w*m\/m<2:=by
  rcases eS m 2 with h|h
  . exact .inr h
  . exact .inl (fG _ h)
 by_cases h0:m=0
 . subst h0;repeat (((first|refine W.R (by kernel_rfl) ?_|refine W.c rfl ?_|refine xF (by omega) ?_|refine xr ?_);conv=>whnf))
   rw[show n=u by omega];rfl
 . by_cases h1:r=1
   . rw[h1,jc] at hww;by_cases h2:m=1
     . have hq0:q=0:=by omega
       rw[hq0,jf] at hww;repeat (((first|refine W.R (by kernel_rfl) ?_|refine W.c rfl ?_|refine⟨by omega,_,hm2,?_⟩|refine⟨_,c1,?_⟩|refine⟨by omega,_,hq2,?_⟩|refine xT (by omega) ?_|refine xF (by omega) ?_|refine xr ?_);conv=>whnf))
       exact⟨⟨(u+w,w,q),by dsimp only;rw[hq0,jf];omega,hw,by dsimp only;omega⟩,Wk.tab [] ⟨aa,aa,aa,aa,ab⟩ ⟨rfl,rfl,rfl,ab⟩ rfl,by dsimp only;omega⟩
     . repeat (((first|refine W.R (by kernel_rfl) ?_|refine W.c rfl ?_|refine⟨by omega,_,hm2,?_⟩|refine⟨_,c1,?_⟩|refine⟨_,c2,?_⟩|refine⟨by omega,_,hq2,?_⟩|refine xT (by omega) ?_|refine xr ?_);conv=>whnf))
       exact⟨⟨(u+w,w+w,q),by dsimp only;omega,by dsimp only;omega,by dsimp only;omega⟩,Wk.tab [] ⟨aa,aa,aa,aa,ab⟩ ⟨rfl,rfl,rfl,ab⟩ rfl,by dsimp only;omega⟩
   . have hr0:r=0:=by omega
     rw[hr0,jf] at hww;repeat (((first|refine W.R (by kernel_rfl) ?_|refine W.c rfl ?_|refine⟨by omega,_,hm2,?_⟩|refine⟨_,c2,?_⟩|refine⟨by omega,_,hq2,?_⟩|refine xT (by omega) ?_|refine xF (by omega) ?_|refine xr ?_);conv=>whnf))
     exact⟨⟨(u,w+w,q),by dsimp only;omega,by dsimp only;omega,by dsimp only;omega⟩,Wk.tab [] ⟨aa,aa,aa,aa,ab⟩ ⟨rfl,rfl,rfl,ab⟩ rfl,by dsimp only;omega⟩
theorem HR(J:Keep)(n:Nat):C J 57 [aK n] (.bool (decide (n=0))):=by
 have h:=rP J ((dg n).map u32);have e:((((dg n).map u32).length:Int)==0)=decide (n=0):=by
  rw[Bool.eq_iff_iff];simp only[cT,vK,d9];constructor
  . intro h0;exact IZ (a:=n) (by unfold ln;omega)
  . rintro rfl;rw[pI];rfl
 rw[e] at h;exact h
noncomputable abbrev sg(m:Bool)(n:Nat):IV:=.agg [.sl ((dg n).map u32),.bool m]
def sv(m:Bool)(n:Nat):Int:=if m then -(n:Int) else(n:Int)
noncomputable abbrev zd(z:Int):IV:=sg (decide (z<0)) z.natAbs
theorem n0(z:Int):sv (decide (z<0)) z.natAbs=z:=by
 unfold sv;by_cases h:z<0
 . simp[h];omega
 . simp[h];omega
theorem C0{m:Bool}{n:Nat}(h:m=true->n≠0):zd (sv m n)=sg m n:=by
 unfold sv;cases m with
 |true=>
  have:=h rfl;simp only[bD];have e1:decide (-(n:Int)<0)=true:=bu (by omega);have e2:(-(n:Int)).natAbs=n:=by omega
  rw[zd,e1,e2]
 |false=>
  simp only[cM,bE];have e1:decide ((n:Int)<0)=false:=bz (by omega);rw[zd,e1,ef]
theorem NO:zd (sv true 0)=sg false 0:=by
 have:sv true 0=sv false 0:=by simp[sv]
 rw[this];exact C0 (by simp)
theorem gz(J:Keep)(m:Bool)(n:Nat):C J 137 [.bool m,aK n] (zd (sv m n)):=by
 refine aI Tryz.func137 rfl rfl rfl ?_;have hz:=HR J n;cases m with
 |false=>
  rw[C0 (by simp)];repeat (((first|refine W.RS (by kernel_rfl) ?_|refine W.ret ?_|refine xr ?_|refine xA ?_);conv=>whnf))
  rfl
 |true=>
  by_cases h0:n=0
  . subst h0;rw[NO];repeat (((first|refine W.RS (by kernel_rfl) ?_|refine W.ret ?_|refine⟨_,hz,?_⟩|refine⟨_,rfl,?_⟩|refine xr ?_|refine xB ?_);conv=>whnf))
    rfl
  . rw[bz h0] at hz;rw[C0 (fun _=>h0)];repeat (((first|refine W.RS (by kernel_rfl) ?_|refine W.ret ?_|refine⟨_,hz,?_⟩|refine⟨_,rfl,?_⟩|refine xr ?_|refine xB ?_);conv=>whnf))
    rfl
theorem TI(J:Keep)(z:Int):C J 40 [zd z] (.int .i64 (aL z 0)):=by
 refine aI Tryz.func40 rfl rfl rfl ?_;have hz:=HR J z.natAbs;by_cases h0:z=0
 . subst h0;repeat (((first|refine W.R (by kernel_rfl) ?_|refine W.c rfl ?_|refine⟨_,hz,?_⟩);conv=>whnf))
   rfl
 . rw[bz (show ¬z.natAbs=0 by omega)] at hz;by_cases h1:z<0
   . rw[zd,bu h1];repeat (((first|refine W.R (by kernel_rfl) ?_|refine W.c rfl ?_|refine⟨_,hz,?_⟩);conv=>whnf))
     simp[gP,aL,h1]
   . rw[zd,bz h1];repeat (((first|refine W.R (by kernel_rfl) ?_|refine W.c rfl ?_|refine⟨_,hz,?_⟩);conv=>whnf))
     simp[gP,aL,h1];omega
theorem Jk(J:Keep){m m':Bool}{n n':Nat}(h:ln n+ln n'<2^44):C J 78 [sg m n,sg m' n'] (zd (sv m n*sv m' n')):=by
 refine aI Tryz.func78 rfl rfl rfl ?_;have hm:=lJ J h;cases m<;>cases m'
 . have e:sv false n*sv false n'=sv false (n*n'):=by simp[sv]
   rw[e];repeat (((first|refine W.RS (by kernel_rfl) ?_|refine W.ret ?_|refine⟨_,hm,?_⟩|refine⟨_,gz J _ _,?_⟩|refine⟨_,rfl,?_⟩|refine xr ?_);conv=>whnf))
   rfl
 . have e:sv false n*sv true n'=sv true (n*n'):=by simp[sv,Eq]
   rw[e];repeat (((first|refine W.RS (by kernel_rfl) ?_|refine W.ret ?_|refine⟨_,hm,?_⟩|refine⟨_,gz J _ _,?_⟩|refine⟨_,rfl,?_⟩|refine xr ?_);conv=>whnf))
   rfl
 . have e:sv true n*sv false n'=sv true (n*n'):=by simp[sv,ky]
   rw[e];repeat (((first|refine W.RS (by kernel_rfl) ?_|refine W.ret ?_|refine⟨_,hm,?_⟩|refine⟨_,gz J _ _,?_⟩|refine⟨_,rfl,?_⟩|refine xr ?_);conv=>whnf))
   rfl
 . have e:sv true n*sv true n'=sv false (n*n'):=by simp[sv,Er]
   rw[e];repeat (((first|refine W.RS (by kernel_rfl) ?_|refine W.ret ?_|refine⟨_,hm,?_⟩|refine⟨_,gz J _ _,?_⟩|refine⟨_,rfl,?_⟩|refine xr ?_);conv=>whnf))
   rfl
theorem HS(J:Keep){a b:Nat}(h:ln a<2^60):C J 175 [aK a,aK b] (.int .i64 (aL a b)):=by
 have:=xq J (ct a) (ct b) h;rwa[xw] at this
theorem Tx(J:Keep){m m':Bool}{n n':Nat}(h:ln n<2^44)(h':ln n'<2^44):C J 129 [sg m n,sg m' n'] (zd (sv m n+sv m' n')):=by
 refine aI Tryz.func129 rfl rfl rfl ?_;have hp:=Jg J h h';have hc:=HS J (a:=n) (b:=n') (by omega);cases m<;>cases m'
 . have e:sv false n+sv false n'=sv false (n+n'):=by simp[sv]
   rw[e];repeat (((first|refine W.R (by kernel_rfl) ?_|refine W.c rfl ?_|refine⟨_,hp,?_⟩|refine⟨_,gz J _ _,?_⟩|refine⟨_,rfl,?_⟩|refine xr ?_);conv=>whnf))
   rfl
 . by_cases hlt:n<n'
   . have e:sv false n+sv true n'=sv true (n'-n):=by simp[sv];omega
     rw[e];rw[Cf hlt] at hc;have hl:=rO J (kt hlt) h';repeat (((first|refine W.R (by kernel_rfl) ?_|refine W.c rfl ?_|refine⟨_,hc,?_⟩|refine⟨_,hl,?_⟩|refine⟨_,gz J _ _,?_⟩|refine xT (by omega) ?_|refine⟨_,rfl,?_⟩|refine xr ?_);conv=>whnf))
     rfl
   . have e:sv false n+sv true n'=sv false (n-n'):=by simp[sv];omega
     rw[e];have hge:=xy (Nat.not_lt.1 hlt);have hl:=rO J (Nat.not_lt.1 hlt) h;repeat (((first|refine W.R (by kernel_rfl) ?_|refine W.c rfl ?_|refine⟨_,hc,?_⟩|refine⟨_,hl,?_⟩|refine⟨_,gz J _ _,?_⟩|refine xF (by omega) ?_|refine⟨_,rfl,?_⟩|refine xr ?_);conv=>whnf))
     rfl
 . by_cases hlt:n<n'
   . have e:sv true n+sv false n'=sv false (n'-n):=by simp[sv];omega
     rw[e];rw[Cf hlt] at hc;have hl:=rO J (kt hlt) h';repeat (((first|refine W.R (by kernel_rfl) ?_|refine W.c rfl ?_|refine⟨_,hc,?_⟩|refine⟨_,hl,?_⟩|refine⟨_,gz J _ _,?_⟩|refine xT (by omega) ?_|refine⟨_,rfl,?_⟩|refine xr ?_);conv=>whnf))
     rfl
   . have e:sv true n+sv false n'=sv true (n-n'):=by simp[sv];omega
     rw[e];have hge:=xy (Nat.not_lt.1 hlt);have hl:=rO J (Nat.not_lt.1 hlt) h;repeat (((first|refine W.R (by kernel_rfl) ?_|refine W.c rfl ?_|refine⟨_,hc,?_⟩|refine⟨_,hl,?_⟩|refine⟨_,gz J _ _,?_⟩|refine xF (by omega) ?_|refine⟨_,rfl,?_⟩|refine xr ?_);conv=>whnf))
     rfl
 . have e:sv true n+sv true n'=sv true (n+n'):=by simp[sv];omega
   rw[e];repeat (((first|refine W.R (by kernel_rfl) ?_|refine W.c rfl ?_|refine⟨_,hp,?_⟩|refine⟨_,gz J _ _,?_⟩|refine⟨_,rfl,?_⟩|refine xr ?_);conv=>whnf))
   rfl
noncomputable abbrev qd(z:Int)(d:Nat):IV:=.agg [.sl ((dg z.natAbs).map u32),.bool (decide (z<0)),.sl ((dg (d-1)).map u32)]
theorem TA(J:Keep){x y:IV}{d:Nat}(hd:0<d)(h:ln (d-1)<2^44):C J 58 [.agg [x,y,.sl ((dg (d-1)).map u32)]] (aK d):=by
 refine aI Tryz.func58 rfl rfl rfl ?_;have h1:ln 1<2^44:=by rw[pM];omega
 have hp:=Jg J h h1;rw[show d-1+1=d by omega] at hp;repeat (((first|refine W.RS (by kernel_rfl) ?_|refine W.ret ?_|refine⟨_,kF J (n:=1) (by omega),?_⟩|refine⟨_,hp,?_⟩|refine xr ?_);conv=>whnf))
 rfl
structure Base(J:Keep):Prop where
 word:∀n,ln n<=2->C J 195 [aK n] (.int .u64 n)
noncomputable abbrev qr(q:Rat):IV:=qd q.num q.den
theorem pg{z:Int}{d:Nat}(hd:0<d):(mkRat z d).num=sv (decide (z<0)) (z.natAbs/Nat.gcd z.natAbs d):=by
 have h0:¬d=0:=by omega
 rw[mkRat,vC h0,Rat.normalize_eq];show z/((Nat.gcd z.natAbs d:Nat):Int)=_;have hg:Nat.gcd z.natAbs d∣z.natAbs:=Nat.gcd_dvd_left _ _;generalize Nat.gcd z.natAbs d=g at hg;unfold sv;by_cases hz:z<0
 . obtain⟨n,rfl⟩:∃n:Nat,z = -(n:Int):=⟨z.natAbs,by omega⟩;have e:(-(n:Int)).natAbs=n:=by omega
   rw[e] at hg ⊢;rw[bu hz,ar rfl,Int.neg_ediv_of_dvd (Int.natCast_dvd_natCast.2 hg)];rfl
 . obtain⟨n,rfl⟩:∃n:Nat,z=(n:Int):=⟨z.natAbs,by omega⟩;rw[bz hz,ef];rfl
theorem rx{z:Int}{d:Nat}(hd:0<d):(mkRat z d).den=d/Nat.gcd z.natAbs d:=by
 have h0:¬d=0:=by omega
 rw[mkRat,vC h0,Rat.normalize_eq]
theorem Cc{J:Keep}(B:Base J){z:Int}{d:Nat}(hd:0<d)(hz:ln z.natAbs<2^40)(hl:ln d<2^40):C J 77 [zd z,aK d] (qr (mkRat z d)):=by
 refine aI Tryz.func77 rfl rfl rfl ?_;obtain⟨g,hg⟩:∃g,Nat.gcd z.natAbs d=g:=⟨_,rfl⟩;have hg0:0<g:=by rw[<-hg];exact Xo _ hd
 have hgd:g∣d:=by rw[<-hg];exact Nat.gcd_dvd_right _ _
 have hgn:g<=d:=Nat.le_of_dvd hd hgd;have hdg:1<=d/g:=(Em hg0).2 hgn;have c1:=Tu J B.word hz hl;rw[hg] at c1;have c2:=Tt J g;have hnum:=pg (z:=z) hd;have hden:=rx (z:=z) hd;rw[hg] at hnum hden;have c5:C J 137 [.bool (decide (z<0)),aK (z.natAbs/g)] (zd (mkRat z d).num):=by rw[hnum];exact gz J _ _
 have c6:C J 139 [aK (d/g),aK 1] (aK ((mkRat z d).den-1)):=by
  rw[hden];exact rO J hdg (g9 (jJ (li _ _)) (by omega))
 by_cases h1:g=1
 . rw[bu h1] at c2;rw[h1,nH] at c5 c6;rw[h1] at c1 c2;repeat (((first|refine W.R (by kernel_rfl) ?_|refine W.c rfl ?_|refine⟨_,c1,?_⟩|refine⟨_,c2,?_⟩|refine⟨_,c5,?_⟩|refine⟨_,kF J (n:=1) (by omega),?_⟩|refine⟨_,c6,?_⟩|refine⟨_,rfl,?_⟩|refine xr ?_);conv=>whnf))
   rfl
 . rw[bz h1] at c2;have c3:=B8 J (a:=z.natAbs) hg0 hz;have c4:=B8 J (a:=d) hg0 hl;repeat (((first|refine W.R (by kernel_rfl) ?_|refine W.c rfl ?_|refine⟨_,c1,?_⟩|refine⟨_,c2,?_⟩|refine⟨_,c3,?_⟩|refine⟨_,c4,?_⟩|refine⟨_,c5,?_⟩|refine⟨_,kF J (n:=1) (by omega),?_⟩|refine⟨_,c6,?_⟩|refine⟨_,rfl,?_⟩|refine xr ?_);conv=>whnf))
   rfl
theorem Jj(J:Keep){x y:Int}(h:ln x.natAbs+ln y.natAbs<2^44):C J 78 [zd x,zd y] (zd (x*y)):=by
 have:=Jk J (m:=decide (x<0)) (m':=decide (y<0)) h;rwa[n0,n0] at this
theorem Ji(J:Keep){x:Int}{n:Nat}(h:ln x.natAbs+ln n<2^44):C J 78 [zd x,sg false n] (zd (x*(n:Int))):=by
 have:=Jk J (m:=decide (x<0)) (m':=false) h;rwa[n0] at this
theorem Tw(J:Keep){x y:Int}(h:ln x.natAbs<2^44)(h':ln y.natAbs<2^44):C J 129 [zd x,zd y] (zd (x+y)):=by
 have:=Tx J (m:=decide (x<0)) (m':=decide (y<0)) h h';rwa[n0,n0] at this
theorem Gq(a b:Nat):ln (a+b)<=ln a+ln b+1:=kN (by
 have h1:=mW a;have h2:=mW b;have h3:B9^ln a<=B9^(ln a+ln b):=cB (by decide) (by omega);have h4:B9^ln b<=B9^(ln a+ln b):=cB (by decide) (by omega);have h5:B9^(ln a+ln b)*2<=B9^(ln a+ln b)*B9:=fG _ (by decide);rw[bQ];omega)
noncomputable def az(q:Rat):Nat:=ln q.num.natAbs+ln q.den
theorem dP(q:Rat):0<q.den:=zF q.den_nz
theorem lV(J:Keep){q:Rat}(h:az q<2^44):C J 58 [qr q] (aK q.den) :=
 TA J (dP q) (g9 (jJ (Ms _ _)) (by unfold az at h;omega))
theorem n8(J:Keep)(q:Rat):C J 16 [qr q] (.int .i64 (aL q.num 0)):=by
 refine aI Tryz.func16 rfl rfl rfl ?_;have h:=TI J q.num;repeat (((first|refine W.RS (by kernel_rfl) ?_|refine W.ret ?_|refine⟨_,h,?_⟩);conv=>whnf))
 rfl
theorem Uf(z:Int):sv (!decide (z<0)) z.natAbs = -z:=by
 unfold sv;by_cases h:z<0
 . simp[h];omega
 . simp[h];omega
theorem Ki(J:Keep)(q:Rat):C J 203 [qr q] (qr (-q)):=by
 refine aI Tryz.func203 rfl rfl rfl ?_;have h:C J 137 [.bool (!decide (q.num<0)),aK q.num.natAbs] (zd (-q).num):=by
  rw[Mt,<-Uf];exact gz J _ _
 repeat (((first|refine W.RS (by kernel_rfl) ?_|refine W.ret ?_|refine⟨_,h,?_⟩|refine⟨_,rfl,?_⟩|refine xr ?_);conv=>whnf))
 rfl
theorem mT{J:Keep}(B:Base J){a b:Rat}(ha:az a<2^38)(hb:az b<2^38):C J 35 [qr a,qr b] (qr (a*b)):=by
 refine aI Tryz.func35 rfl rfl rfl ?_;unfold az at ha hb;have c1:=Jj J (x:=a.num) (y:=b.num) (by omega);have c2:=lV J (q:=a) (by unfold az;omega);have c3:=lV J (q:=b) (by unfold az;omega);have c4:=lJ J (a:=a.den) (b:=b.den) (by omega);have h1:=hX a.num.natAbs b.num.natAbs;have h2:=hX a.den b.den;have c5:=Cc B (z:=a.num*b.num) (d:=a.den*b.den) (ld (dP a) (dP b)) (by rw[fg];omega) (by omega);rw[<-vL] at c5;repeat (((first|refine W.RS (by kernel_rfl) ?_|refine W.ret ?_|refine⟨_,c1,?_⟩|refine⟨_,c2,?_⟩|refine⟨_,c3,?_⟩|refine⟨_,c4,?_⟩|refine⟨_,c5,?_⟩|refine xr ?_);conv=>whnf))
 rfl
theorem r5{J:Keep}(B:Base J){a b:Rat}(ha:az a<2^38)(hb:az b<2^38):C J 71 [qr a,qr b] (qr (a+b)):=by
 refine aI Tryz.func71 rfl rfl rfl ?_;unfold az at ha hb;have c1:=Ji J (x:=a.num) (n:=b.den) (by omega);have c1':=Ji J (x:=b.num) (n:=a.den) (by omega);have c2:=lV J (q:=a) (by unfold az;omega);have c3:=lV J (q:=b) (by unfold az;omega);have c4:=lJ J (a:=a.den) (b:=b.den) (by omega);have h1:=hX a.num.natAbs b.den;have h1':=hX b.num.natAbs a.den;have h2:=hX a.den b.den;have e1:(a.num*(b.den:Int)).natAbs=a.num.natAbs*b.den:=by rw[fg,ef]
 have e1':(b.num*(a.den:Int)).natAbs=b.num.natAbs*a.den:=by rw[fg,ef]
 have c6:=Tw J (x:=a.num*(b.den:Int)) (y:=b.num*(a.den:Int)) (by rw[e1];omega) (by rw[e1'];omega);have c5:=Cc B (z:=a.num*(b.den:Int)+b.num*(a.den:Int)) (d:=a.den*b.den) (ld (dP a) (dP b)) (by
  have h3:=Gq (a.num.natAbs*b.den) (b.num.natAbs*a.den);have h4:(a.num*(b.den:Int)+b.num*(a.den:Int)).natAbs<=a.num.natAbs*b.den+b.num.natAbs*a.den:=by
   rw[<-e1,<-e1'];exact zG _ _
  have h5:=jJ h4;omega) (by omega)
 rw[<-Es] at c5;repeat (((first|refine W.RS (by kernel_rfl) ?_|refine W.ret ?_|refine⟨_,c1,?_⟩|refine⟨_,c1',?_⟩|refine⟨_,c2,?_⟩|refine⟨_,c3,?_⟩|refine⟨_,c4,?_⟩|refine⟨_,c6,?_⟩|refine⟨_,c5,?_⟩|refine xr ?_);conv=>whnf))
 rfl
end Go.Proofs.Fl
namespace Go.Proofs.Fl
theorem KF(a:Int):Go.IntKind.wrap .u64 a=a%18446744073709551616:=by
 show(let m:=a%(18446744073709551616:Int);if false&&decide (m>=(9223372036854775808:Int)) then m-(18446744073709551616:Int) else m)=_;simp
open Go.RowKit Go.Proofs.Dig
attribute [local irreducible] IntKind.wrap aY be bm bt
theorem II(q:Rat):az (-q)=az q:=by
 unfold az;rw[Mt,zH,Rat.neg_den]
theorem rZ{J:Keep}(B:Base J){a b:Rat}(ha:az a<2^38)(hb:az b<2^38):C J 156 [qr a,qr b] (qr (a-b)):=by
 refine aI Tryz.func156 rfl rfl rfl ?_;have c1:=Ki J b;have c2:=r5 B ha (b := -b) (by rw[II];exact hb);rw[<-Mu] at c2;repeat (((first|refine W.RS (by kernel_rfl) ?_|refine W.ret ?_|refine⟨_,c1,?_⟩|refine⟨_,c2,?_⟩|refine xr ?_);conv=>whnf))
 rfl
theorem TG{J:Keep}(B:Base J){a b:Rat}(hb0:b≠0)(ha:az a<2^38)(hb:az b<2^38):C J 97 [qr a,qr b] (qr (a/b)):=by
 refine aI Tryz.func97 rfl rfl rfl ?_;unfold az at ha hb;have hn0:b.num≠0:=fun e=>hb0 (Rat.num_eq_zero.1 e);have hn1:0<b.num.natAbs:=by omega
 have c0:=gz J (decide (b.num<0)) b.den;have hsv:sv (decide (b.num<0)) b.den=b.num.sign*(b.den:Int):=by
  unfold sv;by_cases h:b.num<0
  . rw[bu h,mD h];simp
  . rw[bz h,mE (by omega)];simp
 rw[hsv] at c0;have hna:(b.num.sign*(b.den:Int)).natAbs=b.den:=by
  rw[<-hsv];unfold sv;split<;>simp
 have c1:=Jj J (x:=a.num) (y:=b.num.sign*(b.den:Int)) (by rw[hna];omega);have c2:=lV J (q:=a) (by unfold az;omega);have c3:=lV J (q:=b) (by unfold az;omega);have c4:=lJ J (a:=a.den) (b:=b.num.natAbs) (by omega);have h1:=hX a.num.natAbs b.den;have h2:=hX a.den b.num.natAbs;have c5:=Cc B (z:=a.num*(b.num.sign*(b.den:Int))) (d:=a.den*b.num.natAbs) (ld (dP a) hn1) (by rw[fg,hna];omega) (by omega);have e:mkRat (a.num*(b.num.sign*(b.den:Int))) (a.den*b.num.natAbs)=a/b:=by
  have hi:b⁻¹.num=b.num.sign*(b.den:Int)/\b⁻¹.den=b.num.natAbs:=by
   show(Rat.inv b).num=_/\(Rat.inv b).den=_;unfold Rat.inv;split
   . rename_i h;rw[mD h];simp
   . split
     . rename_i h;rw[mE h];simp
     . omega
  rw[zI,<-hi.1,<-hi.2,vL]
 rw[e] at c5;repeat (((first|refine W.RS (by kernel_rfl) ?_|refine W.ret ?_|refine⟨_,c0,?_⟩|refine⟨_,c1,?_⟩|refine⟨_,c2,?_⟩|refine⟨_,c3,?_⟩|refine⟨_,c4,?_⟩|refine⟨_,c5,?_⟩|refine xr ?_);conv=>whnf))
 rfl
theorem CP{J:Keep}(B:Base J){a b:Rat}(ha:az a<2^38)(hb:az b<2^38)(hb0:b≠0):C J 48 [qr a,qr b] (.tup [qr (a/b),.int .i64 0]):=by
 refine aI Tryz.func48 rfl rfl rfl ?_;have c1:=n8 J b;have hn0:b.num≠0:=fun e=>hb0 (Rat.num_eq_zero.1 e);have hc:aL b.num 0≠0:=fun e=>hn0 (rA e);have c2:=TG B hb0 ha hb;repeat (((first|refine W.R (by kernel_rfl) ?_|refine W.c rfl ?_|refine⟨_,c1,?_⟩|refine⟨_,c2,?_⟩|refine xF (by omega) ?_|refine xr ?_);conv=>whnf))
 rfl
theorem rq:qr 0=.agg [.sl [],.bool false,.sl []]:=by
 show IV.agg [.sl ((dg 0).map u32),.bool (decide ((0:Int)<0)),.sl ((dg 0).map u32)]=_;rw[pI];rfl
theorem TD(J:Keep)(z:Int):C J 86 [zd z] (qr (z:Rat)):=by
 refine aI Tryz.func86 rfl rfl rfl ?_;repeat (((first|refine W.RS (by kernel_rfl) ?_|refine W.ret ?_);conv=>whnf))
 show IV.agg [.sl ((dg z.natAbs).map u32),.bool (decide (z<0)),.sl []]=IV.agg [.sl ((dg z.natAbs).map u32),.bool (decide (z<0)),.sl ((dg 0).map u32)];rw[pI];rfl
theorem Ty(J:Keep){n:Int}(h1 : -9223372036854775808<=n)(h2:n<=9223372036854775807):C J 87 [.int .i64 n] (zd n):=by
 refine aI Tryz.func87 rfl rfl rfl ?_;by_cases h:n<0
 . have hw:IntKind.wrap .u64 (0-IntKind.wrap .u64 n)=((n.natAbs:Nat):Int):=by
    rw[KF,KF];omega
   have c1:=kF J (n:=n.natAbs) (by omega);have c2:=gz J true n.natAbs;rw[show sv true n.natAbs=n by simp[sv];omega] at c2;repeat (((first|refine W.R (by kernel_rfl) ?_|refine W.c rfl ?_|refine⟨_,hw,?_⟩|refine⟨_,c1,?_⟩|refine⟨_,c2,?_⟩|refine xT (by omega) ?_|refine⟨_,rfl,?_⟩|refine xr ?_);conv=>whnf))
   rfl
 . have c1:=kF J (n:=n.natAbs) (by omega);have c2:=gz J false n.natAbs;rw[show sv false n.natAbs=n by simp[sv];omega] at c2;have hw:IntKind.wrap .u64 n=((n.natAbs:Nat):Int):=by rw[dU (by omega)];omega
   repeat (((first|refine W.R (by kernel_rfl) ?_|refine W.c rfl ?_|refine⟨_,hw,?_⟩|refine⟨_,c1,?_⟩|refine⟨_,c2,?_⟩|refine xF (by omega) ?_|refine xr ?_);conv=>whnf))
   rfl
theorem xW(J:Keep){n:Int}(h1 : -9223372036854775808<=n)(h2:n<=9223372036854775807):C J 45 [.int .i64 n] (qr (n:Rat)):=by
 refine aI Tryz.func45 rfl rfl rfl ?_;have c1:=Ty J h1 h2;have c2:=TD J n;repeat (((first|refine W.RS (by kernel_rfl) ?_|refine W.ret ?_|refine⟨_,c1,?_⟩|refine⟨_,c2,?_⟩);conv=>whnf))
 rfl
end Go.Proofs.Fl
namespace Go.Proofs.Fl
open Go.RowKit Go.Proofs.Dig
attribute [local irreducible] IntKind.wrap aY be bm bt
theorem xP{n:Nat}(h:n<1000000000000000000000000000):ln n<=3:=kN (by
 have:B9^3=1000000000000000000000000000:=by decide
 omega)
theorem IJ(z:Int):az (z:Rat)=ln z.natAbs+1:=by
 show ln z.natAbs+ln 1=_;rw[pM]
theorem Kk{J:Keep}(B:Base J){n d:Int}(h1 : -9223372036854775808<=n)(h2:n<=9223372036854775807)(h3 : -9223372036854775808<=d)(h4:d<=9223372036854775807)(hd:d≠0):C J 23 [.int .i64 n,.int .i64 d] (.tup [qr ((n:Rat)/(d:Rat)),.int .i64 0]):=by
 refine aI Tryz.func23 rfl rfl rfl ?_;have c1:=xW J h1 h2;have c2:=xW J h3 h4;have l1:=xP (n:=n.natAbs) (by omega);have l2:=xP (n:=d.natAbs) (by omega);have hd0:(d:Rat)≠0:=fun e=>hd (by have:=congrArg Rat.num e;exact this);have c3:=CP B (a:=(n:Rat)) (b:=(d:Rat)) (by rw[IJ];omega) (by rw[IJ];omega) hd0;repeat (((first|refine W.RS (by kernel_rfl) ?_|refine W.ret ?_|refine⟨_,c1,?_⟩|refine⟨_,c2,?_⟩|refine⟨_,c3,?_⟩);conv=>whnf))
 rfl
theorem Kl(J:Keep)(q:Rat):C J 158 [qr q] (qd (q.num.natAbs:Int) q.den):=by
 refine aI Tryz.func158 rfl rfl rfl ?_;have h:C J 137 [.bool false,aK q.num.natAbs] (zd (q.num.natAbs:Int)):=gz J false _;repeat (((first|refine W.RS (by kernel_rfl) ?_|refine W.ret ?_|refine⟨_,h,?_⟩|refine xr ?_);conv=>whnf))
 rfl
end Go.Proofs.Fl
