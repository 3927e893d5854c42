/-
  For every list of rules, every number of variables and every level the statement RegionSparse holds: the sparse rule is the reference's, or the error is.
-/
import Derived.Test.YtmkieokpghpjiaaGreatDoorS4
import Derived.Shelf.SlSortCmp.WholeK
import Derived.Ground.SlsfProg
import Derived.Test.YtmkieokpghpjiaaGreatDoorProg
import Derived.WideKeyArr
import Derived.StringKeys
set_option maxHeartbeats 1000000
set_option linter.all false
namespace Go.Proofs
open Go
abbrev Bg:=@Rat.mkRat_mul_mkRat
abbrev Bh:=@Rat.pow_succ
abbrev F8:=@List.map_id
abbrev F9:=@List.getElem!_eq_getElem?_getD
abbrev Ga:=@Rat.mkRat_eq_iff
abbrev Om:=@Bool.or_eq_false_iff
abbrev On:=@Rat.mkRat_add_mkRat
abbrev Oo:=@Go.Maps.Keyed.of_law
abbrev YX:=@Int.mul_lt_mul_of_pos_right
abbrev mT:=@Bool.and_self
abbrev sE:=@Nat.mul_ne_zero
abbrev xK:=@List.append_eq_nil_iff
abbrev xL:=@Nat.succ_mul
end Go.Proofs
namespace Go.Proofs.En
open Go.RowKit Go.Proofs.Fl
def lZ{α:Type _}:List α->Bool
 | []=>true
 |_=>false
def fT(seen:List Nat):List (EW×EW×Nat)->List (EW×EW×Nat)
 | []=>[]
 |e::l=>bif bV e.2.2 seen then fT seen l else e::fT seen l
def nw(n:Nat):List (EW×EW×Nat)->Bool
 | []=>true
 |e::l=>Nat.blt e.2.2 n&&nw n l
def nu(n:Nat):List (EW×EW×Nat)->Bool
 | []=>false
 |e::l=>Nat.blt e.2.2 n||nu n l
def Ah(h:Hp)(x:ES):Option (List (ES×Wr)) :=
 match x with
 | .w (.one (.ptr gi 0 0))=>match h gi with
  |some (.iter gm since seen last _)=>match h gm with
   |some (.map es ck)=>
    bif nw since es&&(lZ seen||(lZ es||nu last es)) then
     (match fT seen es with
     | []=>some [(.tup [.one (.iv (.bool false))],[])]
     |l=>some (l.map fun e=>(.tup [.one (.iv (.bool true)),e.1,e.2.1],[(gi,.iter gm since (e.2.2::seen) ck (some e.2.2))])))
    else none
   |_=>none
  |_=>none
 |_=>none
section
variable {X:EX}{E:EEnv}{nt:Nat}{H:ak}{U:Bm}{tm:Nat->ES}{h:Hp}{a:Act}{w:World}{o:Oper}
def HJ{n:Nat}:∀{es:List (EW×EW×Nat)},nw n es=true->∀e∈es,e.2.2<n
 | [],_,e,he=>by cases he
 |x::l,h,e,he=>by
  simp only[nw,aH] at h;rcases List.mem_cons.1 he with rfl|he
  . have:=h.1;rwa[dN] at this
  exact HJ h.2 e he
def HI{n:Nat}:∀{es:List (EW×EW×Nat)},nu n es=true->∃e∈es,e.2.2<n
 | [],h=>by cases h
 |x::l,h=>by
  simp only[nu,iW] at h;rcases h with h|h
  . rw[dN] at h;exact⟨x,by simp,h⟩
  obtain⟨e,h1,h2⟩:=HI h;exact⟨e,by simp[h1],h2⟩
def yj{seen:List Nat}{e:EW×EW×Nat}:∀{es:List (EW×EW×Nat)},e∈fT seen es↔e∈es/\e.2.2∉seen
 | []=>by simp[fT]
 |x::l=>by
  unfold fT;cases hm:bV x.2.2 seen with
  |true=>
   have:=jT.1 hm;rw[al,yj (es:=l),fD];refine⟨fun h=>⟨.inr h.1,h.2⟩,fun h=>⟨h.1.resolve_left fun e'=>?_,h.2⟩⟩;subst e';exact h.2 this
  |false=>
   have:x.2.2∉seen:=fun h'=>by rw[jT.2 h'] at hm;cases hm
   rw[bh,fD,yj (es:=l),fD];refine⟨?_,?_⟩
   . rintro(rfl|h)
     . exact⟨.inl rfl,this⟩
     exact⟨.inr h.1,h.2⟩
   rintro⟨rfl|h,h2⟩
   . exact .inl rfl
   exact .inr ⟨h,h2⟩
def MRL.mem{Z:QS}:∀{vs:List MapEntry} {xs:List (EW×EW×Nat)},MRL Z H U vs xs->(∀e∈vs,∃x∈xs,MR Z H U e x)/\∀x∈xs,∃e∈vs,MR Z H U e x
 | [],[],_=>⟨fun e he=>(by cases he),fun e he=>(by cases he)⟩
 |e::es,x::xs,⟨h1,h2⟩=>by
  obtain⟨i1,i2⟩:=MRL.mem h2;refine⟨fun e' he'=>?_,fun x' hx'=>?_⟩
  . rcases List.mem_cons.1 he' with rfl|he'
    . exact⟨x,by simp,h1⟩
    obtain⟨x',a,b⟩:=i1 e' he';exact⟨x',by simp[a],b⟩
  rcases List.mem_cons.1 hx' with rfl|hx'
  . exact⟨e,by simp,h1⟩
  obtain⟨e',a,b⟩:=i2 x' hx';exact⟨e',by simp[a],b⟩
 | [],_::_,h=>h.elim
 |_::_,[],h=>h.elim
def RM{P:Program}{w:World}{k m:Nat}{sp:Option Nat}{since last ck t:Nat}{sn:Array Nat}{ents:Array MapEntry}(hk:w.heap[k]?=some (.mapIter (some m) since sn last))(hm:w.heap[m]?=some (.map ents ck))
 (hc:(!sn.isEmpty && !ents.isEmpty&&ents.all (·.born>=last))=false) (hlt:∀e∈ents.toList,e.born<since) :
 ((ents.filter fun e=>!sn.contains e.born).toList=[]/\(Instr.next (.pointer (some ⟨k,0,sp⟩)) false t).run P w=.ok (.tuple #[.bool false]) w)\/
 ∃e w1,e∈(ents.filter fun e=>!sn.contains e.born).toList/\(w1=w\/w1=w.drew)/\(Instr.next (.pointer (some ⟨k,0,sp⟩)) false t).run P w=.ok (.tuple #[.bool true,e.key,e.val]) (w1.putObj k (.mapIter (some m) since (sn.push e.born) ck)):=by
 have g1:(getObj k).run P w=.ok (.mapIter (some m) since sn last) w:=by simp[getObj,Sem.run,hk]
 have g2:(getObj m).run P w=.ok (.map ents ck) w:=MapKept.run_getObj_map hm;obtain⟨left,hleft⟩:∃left,ents.filter (fun e=>!sn.contains e.born)=left:=⟨_,rfl⟩;have hin:∀e∈left,e.born<since:=fun e he=>by
  rw[<-hleft] at he;exact hlt e (by simpa using(Array.mem_filter.1 he).1)
 have ho:left.filter (·.born<since)=left:=by
  apply Array.filter_eq_self.2;intro e he;simpa using hin e he
 have hn:left.filter (·.born>=since) = #[]:=by
  apply Array.filter_eq_empty_iff.2;intro e he;have:=hin e he;simp;omega
 rw[hleft];by_cases he:left.toList=[]
 . left;refine⟨he,?_⟩;have he':left = #[]:=by cases left;simp at he;subst he;rfl
   unfold Instr.next;simp only[aw,g1,av,g2,hc,dB,bM,aA,hleft,he'];simp[run_choose_drew,Question.forced]
 right;have he':left.isEmpty=false:=by
  cases hl:left.isEmpty with
  |false=>rfl
  |true=>rw[Array.isEmpty_iff] at hl;subst hl;exact absurd rfl he
 have hcand:(if left.isEmpty then #[none] else #[])++(left ++ #[]).map some=left.map some:=by
  rw[he'];simp
 have hch:∃i w1,(choose (.mapNext (left.map some).size)).run P w=.ok i w1/\(w1=w\/w1=w.drew)/\i<left.size:=by
  have hpos:0<left.size:=by
   cases left with
   |mk l=>cases l with
    |nil=>exact absurd rfl he
    |cons=>simp
  rw[run_choose_drew];by_cases hf:(Question.mapNext (left.map some).size).forced=true
  . rw[au hf];exact⟨0,w,rfl,.inl rfl,hpos⟩
  rw[aq hf];refine⟨_,_,rfl,.inr rfl,?_⟩;show _%_<_;rw[Array.size_map];exact ib _ hpos
 obtain⟨i,w1,hch,hw1,hi⟩:=hch;refine⟨left[i],w1,by simp,hw1,?_⟩;have hh:w1.heap=w.heap:=by rcases hw1 with rfl|rfl<;>rfl
 have gi:(left.map some)[i]?=some (some left[i]):=by simp[hi]
 have hset:(setObj k (.mapIter (some m) since (sn.push left[i].born) ck)).run P w1=.ok () (w1.putObj k (.mapIter (some m) since (sn.push left[i].born) ck)):=by
  have:w1.heap[k]?=some (.mapIter (some m) since sn last):=by rw[hh];exact hk
  simp[setObj,Sem.run,this,World.putObj]
 unfold Instr.next;simp only[aw,g1,av,g2,hc,dB,bM,aA,hleft,ho,hn,hcand,hch,gi,hset]
def Sa(hS:ESt X E nt H U tm h a w){x:Operand}(ho:o.op=.next x false){outs:List (ES×Wr)}(he:Ah h (am tm x)=some outs):∃p∈outs,OpOk X E H U h a w o p.1 p.2:=by
 have hx:=bF hS x;unfold Ah at he;split at he
 .
  rename_i gi hxe;rw[hxe] at hx;obtain⟨ki,hki,hxv⟩:=hx;split at he
  .
   rename_i gm since seen last cur hgi;obtain⟨ki',km,sn,p1,p2,p3,p4,p5,p6,p7⟩:=hS.sim.obj gi _ hgi;rw[hki] at p1;cases p1;split at he
   .
    rename_i es ck hgm;obtain⟨km',ents,q1,q2,q3,q4,q5⟩:=hS.sim.obj gm _ hgm;rw[p2] at q1;cases q1;cases hb:(nw since es&&(lZ seen||(lZ es||nu last es))) with
    |false=>rw[hb] at he;cases he
    |true=>
     rw[hb] at he;simp only[al] at he;simp only[aH,iW] at hb;obtain⟨b1,b2⟩:=hb;obtain⟨m1,m2⟩:=q5.mem;have hlt:∀e∈ents.toList,e.born<since:=fun e he=>by
      obtain⟨y,hy,hm⟩:=m1 e he;rw[hm.2.2];exact HJ b1 y hy
     have hc:(!sn.isEmpty && !ents.isEmpty&&ents.all (·.born>=last))=false:=by
      rcases b2 with b2|b2|b2
      .
       cases seen with
       |cons=>cases b2
       |nil=>
        have:sn = #[]:=by
         cases sn with
         |mk l=>cases l with
          |nil=>rfl
          |cons c l=>have:=(p6 c).1 (by simp);cases this
        subst this;rfl
      .
       cases es with
       |cons=>cases b2
       |nil=>
        have:ents = #[]:=by
         cases ents with
         |mk l=>cases l with
          |nil=>rfl
          |cons c l=>exact q5.elim
        subst this;simp
      obtain⟨y,hy,hyl⟩:=HI b2;obtain⟨e,he,hm⟩:=m2 y hy;have:ents.all (·.born>=last)=false:=by
       rw[Array.all_eq_false];obtain⟨i,hi,rfl⟩:=List.mem_iff_getElem.1 he;exact⟨i,by simpa using hi,by have:=hm.2.2;simp at this ⊢;omega⟩
      rw[this];simp
     have hrun:∀v w',(Instr.next (a.eval x) false o.type).run X.P w=.ok v w'->(execOp a.eval o).run X.P w=.ok (.value v) w':=fun v w' hr=>by
      simp only[execOp,ho,aw,hr,av,aA]
     have hrn:=RM (P:=X.P) (sp:=none) (t:=o.type) p5 q4 hc hlt;rw[<-hxv] at hrn;have hfilt:∀e,e∈(ents.filter fun e=>!sn.contains e.born).toList↔e∈ents.toList/\e.born∉seen:=fun e=>by
      rw[Array.toList_filter,List.mem_filter];have:(!sn.contains e.born)=true↔e.born∉seen:=by
       rw[<-p6 e.born];simp
      rw[this]
     rcases hrn with⟨r1,r2⟩|⟨e,w1,r1,r2,r3⟩
     .
      have hl:fT seen es=[]:=by
       cases hl:fT seen es with
       |nil=>rfl
       |cons y l=>
        have hy:y∈fT seen es:=by rw[hl];simp
        obtain⟨y1,y2⟩:=yj.1 hy;obtain⟨e,e1,e2⟩:=m2 y y1;have:=(hfilt e).2 ⟨e1,by rw[e2.2.2];exact y2⟩;rw[r1] at this;cases this
      rw[hl] at he;simp only[ai] at he;subst he;refine⟨_,List.mem_singleton.2 rfl,OpOk.pure hS (hrun _ _ r2) ⟨[.bool false],rfl,⟨rfl,VR.bool _⟩,aa⟩⟩
     obtain⟨e1,e2⟩:=(hfilt e).1 r1;obtain⟨y,y1,y2⟩:=m1 e e1;have hy:y∈fT seen es:=yj.2 ⟨y1,by rw[<-y2.2.2];exact e2⟩;have hh:w1.heap=w.heap:=by rcases r2 with rfl|rfl<;>rfl
     have hne:∀l:List (EW×EW×Nat),fT seen es=l->(match l with
      | []=>some [((.tup [.one (.iv (.bool false))],[]):ES×Wr)]
      |l=>some (l.map fun e=>(.tup [.one (.iv (.bool true)),e.1,e.2.1],[(gi,.iter gm since (e.2.2::seen) ck (some e.2.2))])))=some outs->(ES.tup [.one (.iv (.bool true)),y.1,y.2.1],[(gi,EO.iter gm since (y.2.2::seen) ck (some y.2.2))])∈outs:=fun l hl he=>by
      cases l with
      |nil=>rw[hl] at hy;cases hy
      |cons z l=>
       simp only[ai] at he;subst he;rw[hl] at hy;exact List.mem_map.2 ⟨y,hy,rfl⟩
     refine⟨_,hne _ rfl he,.tuple #[.bool true,e.key,e.val],_,U,.inl (hrun _ _ r3),BLe.refl _,?_,?_,⟨[.bool true,e.key,e.val],rfl,⟨rfl,VR.bool _⟩,y2.1,y2.2.1,aa⟩⟩
     .
      have hsize:w1.heap.size=w.heap.size:=by rw[hh]
      have hklt:ki.1<w1.heap.size:=by rw[hsize];exact(Array.getElem?_eq_some_iff.1 p5).1
      have hos:w1.os=w.os/\w1.tape=w.tape/\w1.output=w.output:=by rcases r2 with rfl|rfl<;>exact⟨rfl,rfl,rfl⟩
      refine hS.sim.turn (by rw[hgi];simp) hos.1 hos.2.1 hos.2.2 (by simp[hsize]) (fun k' _ hk'=>(c8 (fun e=>hk' 0 ki hki e.symm)).trans (by rw[hh])) (fun u s hs=>?_) (BLe.refl _) (fun _ _ _=>rfl) (fun u k' hk'=>?_) ⟨ki,km,sn.push e.born,hki,p2,p3,p4,xt hklt,fun b=>?_,fun b hb=>?_⟩
      . obtain⟨_,_,o2,ho2,hc⟩:=hS.sim.domN hgi (by simp) u s hs;rw[hgi] at ho2;cases ho2;have:u=0:=by simp only[EO.cnt] at hc;omega
        subst this;rw[hki] at hs;cases hs;exact p4
      . obtain⟨a1,b1,o2,ho2,hc⟩:=hS.sim.domN hgi (by simp) u k' hk';rw[hgi] at ho2;cases ho2;exact⟨hc,by simpa[hsize] using a1,b1,.inl ⟨u,k',hk',rfl⟩⟩
      . rw[Array.toList_push,qB,fg,p6 b,fD,y2.2.2];exact Or.comm
      simp only[ai] at hb;subst hb;simp[y2.2.2]
     intro D hD;refine(c8 (fun e'=>?_)).trans (by rw[hh]);subst e';rw[p5] at hD;cases hD
   cases he
  cases he
 cases he
end
def qt:IV->Bool
 | .tup xs=>xs.all fun x=>!x.isTup
 |_=>true
def kO(xs:List IV):Bool:=xs.all fun x=>!x.isTup
section
variable {X:EX}{H:ak}{U:Bm}
def L8:∀{vs:List Value} {xs:List IV},VRL H vs xs->(xs.all fun x=>!x.isTup)=true->WRL X.Z H U vs (xs.map dW)
 |_,_,.nil,_=>trivial
 |_,_,.cons v x vs xs h t,ha=>by
  simp only[dl,aH,gz] at ha;exact⟨MG h ha.1,L8 t ha.2⟩
def L9{v:Value}{x:IV}(h:VR H v x)(ht:qt x=true):SRe X.Z H U v (dS x):=by
 cases hx:x.isTup with
 |false=>exact Al h hx
 |true=>
  cases x<;>first|(simp[IV.isTup] at hx;done)|skip
  rename_i xs;obtain⟨vs,rfl,h1⟩:=h.asTup;exact⟨vs,rfl,L8 h1 ht⟩
def vU{Z:QS}:∀{vs:List Value} {cs:List IV},CRL Z H U vs (cs.map .iv)->VRL H vs cs/\∀u∈vs,u.oneCell'=true
 | [],[],_=>⟨.nil,by simp⟩
 |v::vs,c::cs,⟨h1,h2⟩=>by
  obtain⟨i1,i2⟩:=vU (vs:=vs) (cs:=cs) h2;refine⟨.cons _ _ _ _ h1.2 i1,fun u hu=>?_⟩;rcases List.mem_cons.1 hu with rfl|hu
  . exact h1.1
  exact i2 u hu
 | [],_::_,h=>h.elim
 |_::_,[],h=>h.elim
def DL{Z:QS}{v:Value}{x:IV}(h:SRe Z H U v (dS x))(ht:x.isTup=false):VR H v x:=by
 cases x<;>first|(simp[IV.isTup] at ht;done)|exact h.2|skip
 rename_i cs;obtain⟨vs,rfl,h1⟩:=h;obtain⟨h2,h3⟩:=vU h1;exact .agg vs cs h2 h3
def SREL.data{Z:QS}:∀{vs:List Value} {xs:List IV},kO xs=true->SREL Z H U vs (xs.map dS)->VRL H vs xs
 | [],[],_,_=>.nil
 |v::vs,x::xs,hn,⟨h1,h2⟩=>by
  simp only[kO,dl,aH,gz] at hn;exact .cons _ _ _ _ (DL h1 hn.1) (SREL.data hn.2 h2)
 | [],_::_,_,h=>h.elim
 |_::_,[],_,h=>h.elim
end
def ct(X:EX)(nx:Nat)(f:FuncId)(args:List ES)(h:Hp)(K:ES->Wr->Nat->Option (List Nat)->Prop):Prop :=
 (∃xs r,aW X.P X.I f xs r/\args=xs.map dS/\kO xs=true/\qt r=true/\K (dS r) [] 0 (some []))\/
 (∃r ws b,CallOk X f args h r (bw h ws)/\(∀p∈ws,p.1<nx+b\/h p.1≠none)/\K r ws b none)\/
 ∃r ws b l,CallOk X f args h r (bw h ws)/\CallOk X f args (dF (fun g=>bV g l) h) r (bw (dF (fun g=>bV g l) h) ws)/\(∀p∈ws,(p.1<nx+b\/h p.1≠none)/\p.1∈l)/\K r ws b (some l)
def iJ:Op->List Operand
 | .load _ x | .slice _ x _ _ _ | .range _ x=>[x]
 | .store _ x _=>[x]
 | .lookup _ x _ _=>[x]
 | .mapUpdate _ x _ _ | .insert _ x _ _=>[x]
 | .call { callee:=.builtin _,args,argTypes:=_ }=>args.toList
 |_=>[]
def cl(o:Op)(V:Operand->ES):List Nat:=(iJ o).flatMap fun x=>cj (V x)
def mB(o:Op)(V:Operand->ES)(g:Nat):List Nat:=g::cl o V
def ru:Op->Bool
 | .range _ _=>true
 |o=>Mx o
def AD(v:Option ES)(d:Nat)(K:Nat->Prop):Prop :=
 match v with
 |none=>K d
 |some (.w (.one (.iv (.int _ n))))=>∃m:Nat,n=(m:Int)/\K m
 |_=>False
def Aw:ES->Option Nat
 | .w (.one (.slc _ _ _ n _))=>some n
 | .w (.one (.iv (.sl es)))=>some es.length
 | .w (.one (.iv (.str l)))=>some l.length
 | .w (.one (.iv (.nil 3)))=>some 0
 |_=>none
def zD(X:EX)(nx:Nat)(o:Op)(tm:Nat->ES)(h:Hp)(K:ES->Wr->Nat->Option (List Nat)->Prop):Prop :=
 match eOp X.Z X.B o (am tm) h nx with
 |some (r,ws)=>lQ r fun r=>match ru o with
  |true=>K r ws 1 (some (mB o (am tm) nx))
  |false=>K r ws 0 (some (cl o (am tm)))
 |none=>False
def qq(X:EX)(nx:Nat)(o:Op)(tm:Nat->ES)(h:Hp)(K:ES->Wr->Nat->Option (List Nat)->Prop):Prop :=
 match o with
 | .move x | .assign x=>lQ (am tm x) fun r=>K r [] 0 (some (cl o (am tm)))
 | .pick c a b=>match am tm c with
  | .w (.one (.iv (.bool c)))=>∃r,(c=true->am tm a=r)/\(c=false->am tm b=r)/\K r [] 0 (some (cl o (am tm)))
  |_=>False
 | .alloc t=>match X.B.zw t with
  |some z=>K (.w (.one (.ptr nx 0 0))) [(nx,.mem t (z.cells X.Z) false [(0,(z.cells X.Z).length)] 1)] 1 (some (mB o (am tm) nx))
  |none=>False
 | .box t x=>match am tm x with
  | .w y=>K (.w (.one (.ptr nx 0 0))) [(nx,.mem t (y.cells X.Z) false [(0,(y.cells X.Z).length)] 1)] 1 (some (mB o (am tm) nx))
  |_=>False
 | .binOp op t x y _=>match am tm x,am tm y with
  | .w (.one (.iv (.int k a))),.w (.one (.iv (.int k' b)))=>k=k'/\nh op k a b fun r=>K (ae r) [] 0 (some (cl o (am tm)))
  | .w (.one (.iv (.str a))),.w (.one (.iv (.str b)))=>a.length+b.length<=1000000/\nc op a b fun r=>K (ae r) [] 0 (some (cl o (am tm)))
  |_,_=>zD X nx o tm h K
 | .unOp op _ x=>match op,am tm x with
  | .not,.w (.one (.iv (.bool a)))=>∃c,(!a)=c/\K (ae (.bool c)) [] 0 (some (cl o (am tm)))
  | .neg,.w (.one (.iv (.int k a)))=>∃n,k.wrap (0-a)=n/\K (ae (.int k n)) [] 0 (some (cl o (am tm)))
  |_,_=>False
 | .convert s d x=>match X.B.T s,X.B.T d,am tm x with
  |some ts,some td,.w (.one (.iv (.int _ a)))=>match ts.sh,td.sh with
   | .int _,.int k=>∃n,k.wrap a=n/\K (ae (.int k n)) [] 0 (some (cl o (am tm)))
   |_,_=>False
  |_,_,_=>False
 | .load t x=>match X.B.T t with
  |some ty=>match am tm x with
   | .w (.one (.dp y off))=>match jE ty.sh.agg ty.size y off with
    |some r=>match r.isTup with
     |false=>K (dS r) [] 0 (some (cl o (am tm)))
     |true=>False
    |none=>False
   | .w (.one (.ptr g u off))=>∃cs,ji (h g) u off ty.size=some cs/\(match mkV X.Z ty.sh.agg cs with
    |some r=>lQ (.w r) fun r=>K r [] 0 (some (cl o (am tm)))
    |none=>False)
   |_=>False
  |none=>False
 | .store t x y=>match X.B.T t,am tm x,am tm y with
  |some ty,.w (.one (.ptr g u off)),.w z=>bif Nat.beq (z.cells X.Z).length ty.size then(∃o',iQ (h g) u off (z.cells X.Z)=some o'/\K .und [(g,o')] 0 (some (cl o (am tm)))) else False
  |_,_,_=>False
 | .makeSlice t l c=>match X.B.T t,am tm l,am tm c with
  |some ty,.w (.one (.iv (.int _ a))),.w (.one (.iv (.int _ b)))=>match ty.sh with
   | .slice e=>match X.B.T e,X.B.ze X.Z e with
    |some te,some zs=>bif Nat.blt 0 te.size&&Nat.beq zs.length te.size then(a=b/\∃m:Nat,a=(m:Int)/\te.bytes*m<=281474976710656/\m<=1000000/\
     K (.w (.one (.slc nx 0 0 m (.ex m)))) [(nx,.mem e (g8 zs m) false [(0,(g8 zs m).length)] 1)] 1 (some (mB o (am tm) nx))) else False
    |_,_=>False
   |_=>False
  |_,_,_=>False
 | .slice t x lo hi mx=>match X.B.T t with
  |some ty=>match ty.sh,am tm x with
   | .slice e,.w (.one (.iv (.sl es)))=>match X.B.T e,mx with
    |some te,none=>AD (hi.map (am tm)) es.length fun u=>AD (lo.map (am tm)) 0 fun l=>l<=u/\u<=es.length/\(l=0\/b7 te.size es=true)/\K (ae (.sl ((es.take u).drop l))) [] 0 (some (cl o (am tm)))
    |_,_=>False
   | .slice e,.w (.one (.slc g u off n cap))=>∃r,jd X.B.T h t (am tm x) (lo.map (am tm)) (hi.map (am tm)) (mx.map (am tm))=some (r,[])/\lQ r fun r=>K r [] 0 (some (cl o (am tm)))
   | .array n e,.w (.one (.ptr g u off))=>match X.B.T e,lo,hi,mx with
    |some _,none,none,none=>K (.w (.one (.slc g u off n (.ex n)))) [] 0 (some (cl o (am tm)))
    |_,_,_,_=>False
   |_,_=>False
  |none=>False
 | .fieldAddr s x j=>match X.B.T s with
  |some ty=>match ty.sh,ty.fields[j]? with
   | .struct,some (fo,_,sz)=>bif Nat.blt 0 sz then(match am tm x with
    | .w (.one (.ptr g u off))=>∃o',off+fo=o'/\K (.w (.one (.ptr g u o'))) [] 0 (some (cl o (am tm)))
    | .w (.one (.dp y off))=>K (.w (.one (.dp y (off+fo)))) [] 0 (some (cl o (am tm)))
    |_=>False) else False
   |_,_=>False
  |none=>False
 | .indexAddr t x ix=>match X.B.T t with
  |some ty=>match ty.sh,am tm x,am tm ix with
   | .slice e,.w (.one (.iv (.sl es))),.w (.one (.iv (.int _ a)))=>match X.B.T e with
    |some te=>∃(j:Nat) (y:IV),a=(j:Int)/\es[j]?=some y/\y.cells.length=te.size/\K (.w (.one (.dp y 0))) [] 0 (some (cl o (am tm)))
    |none=>False
   | .slice e,.w (.one (.slc g u off n _)),.w (.one (.iv (.int _ a)))=>match X.B.T e with
    |some te=>∃j:Nat,a=(j:Int)/\j<n/\∃o',off+j*te.size=o'/\K (.w (.one (.ptr g u o'))) [] 0 (some (cl o (am tm)))
    |none=>False
   | .array n e,.w (.one (.ptr g u off)),.w (.one (.iv (.int _ a)))=>match X.B.T e with
    |some te=>∃j:Nat,a=(j:Int)/\j<n/\∃o',off+j*te.size=o'/\K (.w (.one (.ptr g u o'))) [] 0 (some (cl o (am tm)))
    |none=>False
   |_,_,_=>False
  |none=>False
 | .index t x ix=>match X.B.T t with
  |some ty=>match ty.sh,am tm x,am tm ix with
   | .array n e,.w (.agg cs),.w (.one (.iv (.int _ a)))=>match X.B.T e with
    |some te=>bif Nat.beq te.size 1 && !te.sh.agg then(∃(j:Nat) (c:EV),a=(j:Int)/\j<n/\cs[j]?=some c/\K (.w (.one c)) [] 0 (some (cl o (am tm)))) else False
    |none=>False
   |_,_,_=>False
  |none=>False
 | .call { callee:=.builtin b,args,argTypes }=>match b,args.toList,argTypes.toList with
  | .len,[x],[t]=>match X.B.T t with
   |some ty=>match ty.sh,am tm x,Aw (am tm x) with
    | .string,.w (.one (.iv (.str _))),some n=>∃m:Int,(n:Int)=m/\K (ae (.int .i64 m)) [] 0 (some (cl o (am tm)))
    | .slice _,.w (.one (.iv (.sl _))),some n=>∃m:Int,(n:Int)=m/\K (ae (.int .i64 m)) [] 0 (some (cl o (am tm)))
    | .slice _,.w (.one (.slc ..)),some n=>∃m:Int,(n:Int)=m/\K (ae (.int .i64 m)) [] 0 (some (cl o (am tm)))
    | .slice _,.w (.one (.iv (.nil 3))),some _=>K (ae (.int .i64 0)) [] 0 (some (cl o (am tm)))
    |_,_,_=>False
   |none=>False
  | .max,[x,y],_=>match am tm x,am tm y with
   | .w (.one (.iv (.int k a))),.w (.one (.iv (.int _ c)))=>∃n,(if c>a then c else a)=n/\K (ae (.int k n)) [] 0 (some (cl o (am tm)))
   |_,_=>False
  | .min,[x,y],_=>match am tm x,am tm y with
   | .w (.one (.iv (.int k a))),.w (.one (.iv (.int _ c)))=>∃n,(if c<a then c else a)=n/\K (ae (.int k n)) [] 0 (some (cl o (am tm)))
   |_,_=>False
  | .append,[s,x],[t,t']=>bif Nat.beq t t' then(∃g b r ws,jc X.B.T h g t (am tm s) (am tm x)=some (r,ws)/\g<nx+b/\K r ws b (some (mB o (am tm) g))) else False
  | .copy,[d,x],[t,_]=>∃r ws,oc X.B.T h t (am tm d) (am tm x)=some (r,ws)/\K r ws 0 (some (cl o (am tm)))
  | .clear,[d],[t]=>∃r ws,l6 X.B.T (X.B.ze X.Z) h t (am tm d)=some (r,ws)/\K r ws 0 (some (cl o (am tm)))
  |_,_,_=>False
 | .lookup t x ix c=>∃r,m9 X.B.mp X.B.zw h t (am tm x) (am tm ix) c=some (r,[])/\K r [] 0 (some (cl o (am tm)))
 | .mapUpdate t m k v | .insert t m k v=>∃g o',jR X.B.mp h t (am tm m) (am tm k) (am tm v)=some (.und,[(g,o')])/\K .und [(g,o')] 0 (some (cl o (am tm)))
 | .range t x=>match X.B.mp t,am tm x with
  |some _,.w (.one (.mp gm))=>∃es ck,h gm=some (.map es ck)/\K (.w (.one (.ptr nx 0 0))) [(nx,.iter gm ck [] ck none)] 1 (some (mB o (am tm) nx))
  |_,_=>False
 | .call { callee:=.value fo,args,argTypes:=_ }=>match am tm fo with
  | .w (.one (.iv (.fn f)))=>ct X nx f (args.toList.map (am tm)) h K
  | .w (.one (.clo f gs))=>ct X nx f (args.toList.map (am tm)++ud gs) h K
  | .w (.one (.cd f xs))=>ct X nx f (args.toList.map (am tm)++xs.map NN) h K
  |_=>False
 | .build _ _ | .buildSlice _ _ _ | .nilCheck _ | .makeFunc _ _ _ | .field _ _ _ | .extract _ _ | .makeMap _ _=>zD X nx o tm h K
 |_=>False
def Ty{V:Operand->ES}{x:Operand}{g u off:Nat}(h:V x=.w (.one (.ptr g u off))):g∈cj (V x):=by rw[h];simp[cj]
def GZ{h h':Hp}{sz:Nat}{x:ES}(he:∀i∈cj x,h' i=h i):fU h' sz x=fU h sz x:=by
 unfold fU;split
 . rw[he _ (by simp[cj])]
 . rfl
 . rfl
 rfl
def vi{h h':Hp}{g:Nat}{e:TypeId}{cs:List EV}{k:Nat->Nat->ES}(he:h' g=h g):il h' g e cs k=il h g e cs k:=by
 unfold il;rw[he]
def PD{T:TypeId->Option TY}{Z:QS}{h h':Hp}{t:TypeId}{x:ES}(he:∀i∈cj x,h' i=h i):ke T Z h' t x=ke T Z h t x:=by
 unfold ke;split
 . rw[he _ (by simp[cj])]
 . rfl
 rfl
def Pb{T:TypeId->Option TY}{Z:QS}{h h':Hp}{t:TypeId}{x y:ES}(he:∀i∈cj x,h' i=h i):py T Z h' t x y=py T Z h t x y:=by
 unfold py;split
 . rw[he _ (by simp[cj])]
 rfl
def Pc{T:TypeId->Option TY}{h h':Hp}{t:TypeId}{x:ES}{lo hi mx:Option ES}(he:∀i∈cj x,h' i=h i):jd T h' t x lo hi mx=jd T h t x lo hi mx:=by
 unfold jd;split
 .
  split
  . rw[he _ (by simp[cj])]
  . rfl
  . rfl
  rfl
 rfl
def O0{T:TypeId->Option TY}{h h':Hp}{g:Nat}{t:TypeId}{s x:ES}(hg:h' g=h g)(hs:∀i∈cj s,h' i=h i)(hx:∀i∈cj x,h' i=h i):jc T h' g t s x=jc T h g t s x:=by
 unfold jc;have hsr:∀sz,fU h' sz x=fU h sz x:=fun sz=>GZ hx;simp only[hsr];have hn:∀e cs k,il h' g e cs k=il h g e cs k:=fun e cs k=>vi hg;simp only[hn];by_cases hsl:∃g1 u1 off1 n1 cap,s=.w (.one (.slc g1 u1 off1 n1 cap))
 . obtain⟨g1,u1,off1,n1,cap,rfl⟩:=hsl;have e1:h' g1=h g1:=hs g1 (by simp[cj]);simp only[e1]
 repeat' split
 all_goals first|rfl|exact absurd ⟨_,_,_,_,_,rfl⟩ hsl
def PE{T:TypeId->Option TY}{h h':Hp}{t:TypeId}{s x:ES}(hs:∀i∈cj s,h' i=h i)(hx:∀i∈cj x,h' i=h i):oc T h' t s x=oc T h t s x:=by
 unfold oc;have hsr:∀sz,fU h' sz x=fU h sz x:=fun sz=>GZ hx;simp only[hsr];split
 .
  split
  .
   split
   . split
     . rename_i news m g1 u1 off1 n1 cap _;have e1:h' g1=h g1:=hs g1 (by simp[cj]);simp only[e1]
     rfl
   rfl
  rfl
 rfl
def Pe{T:TypeId->Option TY}{ze:TypeId->Option (List EV)}{h h':Hp}{t:TypeId}{s:ES}(hs:∀i∈cj s,h' i=h i):l6 T ze h' t s=l6 T ze h t s:=by
 unfold l6;split
 .
  split
  .
   split
   .
    split
    . rename_i g1 u1 off1 n1 cap;have e1:h' g1=h g1:=hs g1 (by simp[cj]);simp only[e1]
    . rfl
    . rfl
    rfl
   rfl
  rfl
 rfl
def OY{mk:TypeId->Option (TypeId×TypeId×(KV->Bool))}{zw:TypeId->Option EW}{h h':Hp}{t:TypeId}{x ix:ES}{c:Bool}(hs:∀i∈cj x,h' i=h i):m9 mk zw h' t x ix c=m9 mk zw h t x ix c:=by
 unfold m9;split
 . rw[hs _ (by simp[cj])]
 rfl
def Gi{mk:TypeId->Option (TypeId×TypeId×(KV->Bool))}{h h':Hp}{t:TypeId}{x ix y:ES}(hs:∀i∈cj x,h' i=h i):jR mk h' t x ix y=jR mk h t x ix y:=by
 unfold jR;split
 . rw[hs _ (by simp[cj])]
 rfl
def Pd{mk:TypeId->Option (TypeId×TypeId×(KV->Bool))}{h h':Hp}{g:Nat}{t:TypeId}{x:ES}(hg:h' g=h g)(hs:∀i∈cj x,h' i=h i):pz mk h' g t x=pz mk h g t x:=by
 unfold pz;split
 . rw[hs _ (by simp[cj]),hg]
 rfl
def OS{T:TypeId->Option TY}{ze:TypeId->Option (List EV)}{h h':Hp}{g:Nat}{b:Builtin}{ats:List TypeId}{args:List ES}(hg:b=.append->h' g=h g)(hs:∀x∈args,∀i∈cj x,h' i=h i):gc T ze h' g b ats args=gc T ze h g b ats args:=by
 unfold gc;split
 . rfl
 . rfl
 . rfl
 . rw[O0 (hg rfl) (hs _ (by simp)) (hs _ (by simp))]
 . rw[PE (hs _ (by simp)) (hs _ (by simp))]
 . rw[Pe (hs _ (by simp))]
 rfl
def Ri{Z:QS}{B:Tab}{o:Op}{V:Operand->ES}{h h':Hp}{g:Nat}(hne:∀x,o≠ .entry x)(hg:ru o=true->h' g=h g)(hs:∀i∈cl o V,h' i=h i):eOp Z B o V h' g=eOp Z B o V h g:=by
 have hx:∀x∈iJ o,∀i∈cj (V x),h' i=h i:=fun x hx i hi=>hs i (List.mem_flatMap.2 ⟨x,hx,hi⟩);unfold eOp;split
 . rfl
 . rfl
 . rfl
 . unfold tH;simp only[vi (hg rfl)]
 . unfold ua;simp only[vi (hg rfl)]
 . rfl
 . unfold vb;simp only[vi (hg rfl)]
 . exact PD (hx _ (by simp[iJ]))
 . exact Pb (hx _ (by simp[iJ]))
 . rfl
 . rfl
 . rfl
 . rfl
 . rfl
 . unfold sW;simp only[vi (hg rfl)]
 . exact Pc (hx _ (by simp[iJ]))
 . rfl
 . rfl
 . rfl
 . rfl
 . rename_i b args ats;refine OS (fun e=>?_) (fun x hx'=>?_)
   . subst e;exact hg rfl
   obtain⟨y,hy,rfl⟩:=List.mem_map.1 hx';exact hx y (by simpa[iJ] using hy)
 . unfold vL;rw[hg rfl]
 . exact OY (hx _ (by simp[iJ]))
 . exact Gi (hx _ (by simp[iJ]))
 . exact Gi (hx _ (by simp[iJ]))
 . exact Pd (hg rfl) (hx _ (by simp[iJ]))
 . rename_i x;exact absurd rfl (hne x)
 . rfl
 rfl
def Wok(h:Hp)(g:Nat)(l:List Nat)(ws:Wr):Prop:=∀p∈ws,p.1=g\/(h p.1≠none/\p.1∈l)
def Wok.nil{h:Hp}{g:Nat}{l:List Nat}:Wok h g l []:=fun _ hp=>by cases hp
def Wok.one{h:Hp}{g g':Nat}{l:List Nat}{o:EO}(h1:h g'≠none)(h2:g'∈l):Wok h g l [(g',o)]:=fun p hp=>by
 simp only[fg] at hp;subst hp;exact .inr ⟨h1,h2⟩
def vB{o:Option EO}{u off:Nat}{new:List EV}{o':EO}(h:iQ o u off new=some o'):o≠none:=by
 intro e;subst e;simp[iQ] at h
def CG{h:Hp}{g:Nat}{e:TypeId}{cs:List EV}{k:Nat->Nat->ES}{r:ES}{ws:Wr}{l:List Nat}(he:il h g e cs k=some (r,ws)):Wok h g l ws:=by
 unfold il at he;split at he
 . rw[dE,bz] at he;simp only[ai,aC] at he;obtain⟨_,rfl⟩:=he;intro p hp;simp only[fg] at hp;subst hp;exact .inl rfl
 cases he
def PF{T:TypeId->Option TY}{h:Hp}{g:Nat}{t:TypeId}{s x:ES}{r:ES}{ws:Wr}(he:jc T h g t s x=some (r,ws)):Wok h g (cj s) ws:=by
 unfold jc at he;split at he
 .
  split at he
  .
   split at he
   .
    rename_i te _;cases hb:(Nat.blt 0 te.size&&Nat.beq te.zero.cells.length te.size) with
    |false=>rw[hb] at he;cases he
    |true=>
     rw[hb] at he;simp only[al] at he;split at he
     .
      rename_i news m _;split at he
      .
       cases h1:Nat.beq m 0 with
       |true=>rw[h1] at he;simp only[al,ai,aC] at he;rw[<-he.2];exact Wok.nil
       |false=>
        rw[h1] at he;simp only[bh] at he;generalize (Nat.ble m 1000000&&Nat.ble (m*te.bytes) 140737488355328)=b2 at he;cases b2 with
        |false=>cases he
        |true=>simp only[al] at he;exact CG he
      .
       rename_i g1 u1 off1 n1 cap;cases h1:Nat.beq m 0 with
       |true=>rw[h1] at he;simp only[al,ai,aC] at he;rw[<-he.2];exact Wok.nil
       |false=>
        rw[h1] at he;simp only[bh] at he;generalize (Nat.ble (n1+m) 1000000&&Nat.ble ((n1+m)*te.bytes) 140737488355328)=b2 at he;cases b2 with
        |false=>cases he
        |true=>
         simp only[al] at he;split at he
         .
          rename_i c;generalize Nat.ble (n1+m) c=b3 at he;cases b3 with
          |true=>
           simp only[al] at he;split at he
           . rename_i o hw;rw[bz] at he;simp only[ai,aC] at he;rw[<-he.2];exact Wok.one (vB hw) (by simp[cj])
           cases he
          |false=>
           simp only[bh] at he;split at he
           . exact CG he
           cases he
         rename_i sz;split at he
         .
          rename_i e1 cs vs cnt hg1;generalize (Nat.beq sz te.size&&Nat.beq e1 _&&Nat.beq off1 0)=b3 at he;cases b3 with
          |false=>cases he
          |true=>
           simp only[al] at he;split at he
           .
            rename_i p hv;generalize Nat.ble ((n1+m)*te.size) p=b4 at he;cases b4 with
            |true=>
             simp only[al] at he;split at he
             . rename_i o hw;rw[bz] at he;simp only[ai,aC] at he;rw[<-he.2];exact Wok.one (vB hw) (by simp[cj])
             cases he
            |false=>
             simp only[bh] at he;generalize Nat.ble (n1*te.size) p=b5 at he;cases b5 with
             |true=>
              simp only[al,dE,bz,ai,aC] at he;rw[<-he.2];exact Wok.one (by rw[hg1];simp) (by simp[cj])
             |false=>cases he
           cases he
         cases he
      cases he
     cases he
   cases he
  cases he
 cases he
def Rj{T:TypeId->Option TY}{h:Hp}{g:Nat}{t:TypeId}{d x:ES}{r:ES}{ws:Wr}(he:oc T h t d x=some (r,ws)):Wok h g (cj d) ws:=by
 unfold oc at he;split at he
 .
  split at he
  .
   split at he
   .
    split at he
    . rw[bz] at he;split at he
      . rename_i o hw;simp only[ai,aC] at he;rw[<-he.2];exact Wok.one (vB hw) (by simp[cj])
      cases he
    cases he
   cases he
  cases he
 cases he
def P9{T:TypeId->Option TY}{ze:TypeId->Option (List EV)}{h:Hp}{g:Nat}{t:TypeId}{d:ES}{r:ES}{ws:Wr}(he:l6 T ze h t d=some (r,ws)):Wok h g (cj d) ws:=by
 unfold l6 at he;split at he
 .
  split at he
  .
   split at he
   .
    rename_i te zs _ _;cases hb:Nat.beq zs.length te.size with
    |false=>rw[hb] at he;cases he
    |true=>
     rw[hb] at he;simp only[al] at he;split at he
     . split at he
       . rename_i o hw;simp only[ai,aC] at he;rw[<-he.2];exact Wok.one (vB hw) (by simp[cj])
       cases he
     . simp only[ai,aC] at he;rw[<-he.2];exact Wok.nil
     . simp only[ai,aC] at he;rw[<-he.2];exact Wok.nil
     cases he
   cases he
  cases he
 cases he
def Gp{mk:TypeId->Option (TypeId×TypeId×(KV->Bool))}{h:Hp}{g:Nat}{t:TypeId}{x ix y:ES}{r:ES}{ws:Wr}(he:jR mk h t x ix y=some (r,ws)):Wok h g (cj x) ws:=by
 unfold jR at he;split at he
 .
  rename_i k0 e0 ok g1 kx v hmk;split at he
  .
   rename_i es ck k hg1 hk;cases hb:ok k with
   |false=>rw[hb] at he;cases he
   |true=>
    rw[hb] at he;simp only[al] at he;split at he
    . rw[bz,dE] at he;simp only[ai,aC] at he;rw[<-he.2];exact Wok.one (by rw[hg1];simp) (by simp[cj])
    . rw[dE] at he;simp only[ai,aC] at he;rw[<-he.2];exact Wok.one (by rw[hg1];simp) (by simp[cj])
    cases he
  cases he
 cases he
def mW(k:IntKind)(n:Int):iM k n=some (ae (.int k n),[]):=by unfold iM;rw[Ch]
def BL(b:Bool):ju b=some (ae (.bool b),[]):=by cases b<;>rfl
def Sk{op:BinOp}{k:IntKind}{p q:Int}{J:IV->Prop}(h:nh op k p q J):∃r,tZ op k p q=some (ae r,[])/\J r:=by
 cases op<;>simp only[nh] at h<;>first
  |exact h.elim
  | (obtain⟨n,rfl,hJ⟩:=h
     simp only[tZ,mW,BL];exact⟨_,rfl,hJ⟩)
  | (obtain⟨hq,n,rfl,hJ⟩:=h
     simp only[tZ,bE hq,bh,mW];exact⟨_,rfl,hJ⟩)
def RE{op:BinOp}{p q:List UInt8}(hl:p.length+q.length<=1000000){J:IV->Prop}(h:nc op p q J):∃r,strE op p q=some (ae r,[])/\J r:=by
 cases op<;>simp only[nc] at h<;>first
  |exact h.elim
  | (simp only[strE,fh hl,al,dE]
     exact⟨_,rfl,h.2⟩)
  | (obtain⟨n,rfl,hJ⟩:=h
     simp only[strE,BL];exact⟨_,rfl,hJ⟩)
def Md{v:Option ES}{d:Nat}{K:Nat->Prop}(h:AD v d K):∃m,ky v d=some m/\K m:=by
 unfold AD at h;split at h
 . exact⟨d,rfl,h⟩
 . rename_i k n;obtain⟨m,rfl,hK⟩:=h;exact⟨m,rfl,hK⟩
 exact h.elim
structure OpS(X:EX)(nx:Nat)(o:Op)(tm:Nat->ES)(h:Hp)(K:ES->Wr->Nat->Option (List Nat)->Prop):Prop where
 res:∃g b r ws fp,eOp X.Z X.B o (am tm) h g=some (r,ws)/\(ru o=true->g∈fp)/\(∀i∈cl o (am tm),i∈fp)/\(∀p∈ws,(p.1<nx+b\/h p.1≠none)/\p.1∈fp)/\K r ws b (some fp)
 ne:∀x,o≠ .entry x
section
variable {X:EX}{nx:Nat}{o:Op}{tm:Nat->ES}{h:Hp}{K:ES->Wr->Nat->Option (List Nat)->Prop}
def OpS.pure{r:ES}(hm:ru o=false)(hne:∀x,o≠ .entry x)(he:∀g,eOp X.Z X.B o (am tm) h g=some (r,[]))(hK:K r [] 0 (some (cl o (am tm)))):OpS X nx o tm h K :=
 ⟨⟨nx,0,r,[],_,he nx,fun e=>(by rw[hm] at e;cases e),fun i hi=>hi,fun p hp=>(by cases hp),hK⟩,hne⟩
def rp{g b:Nat}{r:ES}{ws:Wr}(hne:∀x,o≠ .entry x)(hg:g<nx+b)(he:eOp X.Z X.B o (am tm) h g=some (r,ws))(hw:Wok h g (cl o (am tm)) ws)(hK:K r ws b (some (mB o (am tm) g))):OpS X nx o tm h K :=
 ⟨⟨g,b,r,ws,_,he,fun _=>(by simp[mB]),fun i hi=>(by simp[mB,hi]),fun p hp=>(hw p hp).elim (fun e=>by rw[e];exact⟨.inl hg,by simp[mB]⟩) (fun e=>⟨.inr e.1,by simp[mB,e.2]⟩),hK⟩,hne⟩
def OpS.wr{r:ES}{ws:Wr}(hm:ru o=false)(hne:∀x,o≠ .entry x)(he:∀g,eOp X.Z X.B o (am tm) h g=some (r,ws))(hw:∀p∈ws,h p.1≠none/\p.1∈cl o (am tm))(hK:K r ws 0 (some (cl o (am tm)))):OpS X nx o tm h K :=
 ⟨⟨nx,0,r,ws,_,he nx,fun e=>(by rw[hm] at e;cases e),fun i hi=>hi,fun p hp=>⟨.inr (hw p hp).1,(hw p hp).2⟩,hK⟩,hne⟩
def Dk:Op->Bool
 | .build _ _ | .buildSlice _ _ _ | .nilCheck _ | .makeFunc _ _ _ | .field _ _ _ | .extract _ _ | .makeMap _ _ | .binOp _ _ _ _ _=>true
 |_=>false
def QO{g:Nat}{r:ES}{ws:Wr}(hp:Dk o=true)(he:eOp X.Z X.B o (am tm) h g=some (r,ws)):(ru o=true/\Wok h g (cl o (am tm)) ws)\/ws=[]:=by
 unfold eOp at he;split at he<;>first|(simp[Dk] at hp;done)|skip
 .
  unfold zU at he;split at he
  .
   split at he
   . split at he
     . rw[dE] at he;simp only[ai,aC] at he;exact .inr he.2.symm
     cases he
   .
    split at he
    . split at he
      . rw[dE] at he;simp only[ai,aC] at he;exact .inr he.2.symm
      cases he
    cases he
   cases he
  cases he
 .
  unfold vb at he;split at he
  .
   split at he
   .
    split at he
    .
     rename_i te zs _ _;generalize (Nat.blt 0 te.size&&Nat.ble _ 16777216&&Nat.beq zs.length te.size)=b at he;cases b with
     |false=>cases he
     |true=>
      simp only[al] at he;split at he
      . exact .inl ⟨rfl,CG he⟩
      cases he
    cases he
   cases he
  cases he
 .
  unfold Az at he;split at he
  . simp only[ai,aC] at he;exact .inr he.2.symm
  . simp only[ai,aC] at he;exact .inr he.2.symm
  cases he
 .
  unfold pX at he;split at he
  . rename_i k a k' b _ _;cases hd:decide (k=k') with
    |false=>rw[hd] at he;cases he
    |true=>rw[hd] at he;exact .inr (Jb he).1
  . exact .inr (IF he).1
  .
   split at he
   . split at he
     . exact .inr (q9 he).2
     cases he
   . split at he
     . exact .inr (q9 he).2
     cases he
   cases he
  cases he
 .
  unfold yn at he;split at he
  . simp only[ai,aC] at he;exact .inr he.2.symm
  . simp only[ai,aC] at he;exact .inr he.2.symm
  cases he
 .
  unfold zS at he;split at he
  .
   split at he
   .
    rename_i fo ag sz _ _;generalize Nat.ble (fo+sz) _=b at he;cases b with
    |false=>cases he
    |true=>
     simp only[al,dE] at he;split at he
     . simp only[ai,aC] at he;exact .inr he.2.symm
     cases he
   cases he
  cases he
 .
  unfold yB at he;split at he
  . split at he
    . simp only[ai,aC] at he;exact .inr he.2.symm
    cases he
  cases he
 unfold vL at he;split at he
 . rename_i hg;simp only[ai,aC] at he;refine .inl ⟨rfl,?_⟩;rw[<-he.2];intro p hp;simp only[fg] at hp;subst hp;exact .inl rfl
 cases he
def H7(hp:Dk o=true)(hK:zD X nx o tm h K):OpS X nx o tm h K:=by
 have hne:∀x,o≠ .entry x:=fun x e=>by subst e;cases hp
 unfold zD at hK;split at hK
 .
  rename_i r ws he;rw[nT] at hK;rcases QO hp he with⟨hm,hw⟩|hw
  . rw[hm] at hK;exact rp hne (by omega) he hw hK
  subst hw;cases hm:ru o with
  |true=>
   rw[hm] at hK;exact rp hne (by omega) he Wok.nil hK
  |false=>
   rw[hm] at hK;exact⟨⟨nx,0,r,[],_,he,fun e=>(by rw[hm] at e;cases e),fun i hi=>hi,fun p hp=>(by cases hp),hK⟩,hne⟩
 exact hK.elim
def vn{g:Nat}{e:TypeId}{cs:List EV}{k:Nat->Nat->ES}(hg:h g=none):il h g e cs k=some (k g cs.length,[(g,.mem e cs false [(0,cs.length)] 1)]):=by
 unfold il;rw[hg];simp only[dE,bz]
def yK{g:Nat}{o':EO}{l:List Nat}:Wok h g l [(g,o')]:=fun p hp=>by
 simp only[fg] at hp;subst hp;exact .inl rfl
def V8(hf:∀g,nx<=g->h g=none)(hcall:ry o=none)(hK:qq X nx o tm h K):OpS X nx o tm h K:=by
 have hnx:=hf nx (ah _);unfold qq at hK;split at hK
 . rw[nT] at hK;exact OpS.pure rfl (by intro _ e;cases e) (fun _=>rfl) hK
 . rw[nT] at hK;exact OpS.pure rfl (by intro _ e;cases e) (fun _=>rfl) hK
 .
  -- pick
  split at hK
  . rename_i b hc;obtain⟨r,h1,h2,hK⟩:=hK;refine OpS.pure rfl (by intro _ e;cases e) (fun _=>?_) hK;show wB _ _ _=_;unfold wB;rw[hc];cases b with
    |true=>simp only[h1 rfl]
    |false=>simp only[h2 rfl]
  exact hK.elim
 .
  -- alloc
  rename_i t;split at hK
  . rename_i z hz;refine rp (by intro _ e;cases e) (by omega) ?_ yK hK;show tH _ _ _ _=_;unfold tH Tab.ze;rw[hz];simp only[fE,vn hnx]
  exact hK.elim
 .
  -- box
  rename_i t x;split at hK
  . rename_i y hx;refine rp (by intro _ e;cases e) (by omega) ?_ yK hK;show ua _ _ _ _ _=_;unfold ua;rw[hx];simp only[vn hnx]
  exact hK.elim
 .
  -- binOp
  rename_i op t x y t';split at hK
  . rename_i k a k' b hx hy;obtain⟨rfl,hK⟩:=hK;obtain⟨r,he,hK⟩:=Sk hK;refine OpS.pure rfl (by intro _ e;cases e) (fun _=>?_) hK;show pX _ _ _ _ _=_;unfold pX;rw[hx,hy];simp only[decide_true,al,he]
  . rename_i a b hx hy;obtain⟨hl,hK⟩:=hK;obtain⟨r,he,hK⟩:=RE hl hK;refine OpS.pure rfl (by intro _ e;cases e) (fun _=>?_) hK;show pX _ _ _ _ _=_;unfold pX;rw[hx,hy];simp only[he]
  exact H7 rfl hK
 .
  -- unOp
  rename_i op t x;split at hK
  . rename_i a hx;obtain⟨c,rfl,hK⟩:=hK;refine OpS.pure rfl (by intro _ e;cases e) (fun _=>?_) hK;show sf _ _=_;unfold sf;rw[hx];simp only[BL]
  . rename_i k a hx;obtain⟨c,rfl,hK⟩:=hK;refine OpS.pure rfl (by intro _ e;cases e) (fun _=>?_) hK;show sf _ _=_;unfold sf;rw[hx];simp only[mW]
  exact hK.elim
 .
  -- convert
  rename_i s d x;split at hK
  . rename_i ts td k0 a hs hd hx;split at hK
    . rename_i k1 k h1 h2;obtain⟨n,rfl,hK⟩:=hK;refine OpS.pure rfl (by intro _ e;cases e) (fun _=>?_) hK;show wC _ _ _ _=_;unfold wC;rw[hs,hd,hx];simp only[h1,h2,mW]
    exact hK.elim
  exact hK.elim
 .
  -- load
  rename_i t x;split at hK
  .
   rename_i ty ht;split at hK
   .
    rename_i y off hx;split at hK
    . rename_i r hl;split at hK
      . rename_i hr;refine OpS.pure rfl (by intro _ e;cases e) (fun _=>?_) hK;show ke _ _ _ _ _=_;unfold ke;rw[ht,hx];simp only[hl,hr,bh]
      exact hK.elim
    exact hK.elim
   . rename_i g u off hx;obtain⟨cs,hrd,hK⟩:=hK;split at hK
     . rename_i r hv;rw[nT] at hK;refine OpS.pure rfl (by intro _ e;cases e) (fun _=>?_) hK;show ke _ _ _ _ _=_;unfold ke;rw[ht,hx];simp only[hrd,dE,hv]
     exact hK.elim
   exact hK.elim
  exact hK.elim
 .
  -- store
  rename_i t x y;split at hK
  .
   rename_i ty g u off z ht hx hy;cases hb:Nat.beq (z.cells X.Z).length ty.size with
   |false=>rw[hb] at hK;exact hK.elim
   |true=>
    rw[hb] at hK;simp only[al] at hK;obtain⟨o',hw,hK⟩:=hK;refine OpS.wr rfl (by intro _ e;cases e) (fun _=>?_) (fun p hp=>?_) hK
    . show py _ _ _ _ _ _=_;unfold py;rw[ht,hx,hy];simp only[hb,al,hw]
    simp only[fg] at hp;subst hp;exact⟨vB hw,List.mem_flatMap.2 ⟨x,by simp[iJ],Ty hx⟩⟩
  exact hK.elim
 .
  -- makeSlice
  rename_i t l c;split at hK
  .
   rename_i ty k a k' b ht hl hc;split at hK
   .
    rename_i e hsh;split at hK
    .
     rename_i te zs hte hze;cases hb:(Nat.blt 0 te.size&&Nat.beq zs.length te.size) with
     |false=>rw[hb] at hK;exact hK.elim
     |true=>
      rw[hb] at hK;simp only[al] at hK;obtain⟨rfl,m,rfl,h1,h2,hK⟩:=hK;simp only[aH] at hb;have hl':am tm l=.w (.one (.iv (.int k (Int.ofNat m)))):=hl;have hc':am tm c=.w (.one (.iv (.int k' (Int.ofNat m)))):=hc;refine rp (by intro _ e;cases e) (by omega) ?_ yK hK;show sW _ _ _ _ _ _ _=_;unfold sW;rw[ht,hl',hc'];simp only[hsh,hte,hze,bD,hb.1,hb.2,fh h1,fh h2,mT,al,vn hnx]
    exact hK.elim
   exact hK.elim
  exact hK.elim
 .
  -- slice
  rename_i t x lo hi mx;split at hK
  .
   rename_i ty ht;split at hK
   .
    rename_i e es hsh hx;split at hK
    .
     rename_i te hte;obtain⟨u,hu,hK⟩:=Md hK;obtain⟨l,hl,hK⟩:=Md hK;obtain⟨h1,h2,h3,hK⟩:=hK;refine OpS.pure rfl (by intro _ e;cases e) (fun _=>?_) hK;show jd _ _ _ _ _ _ _=_;unfold jd;have h3':(Nat.beq l 0||b7 te.size es)=true:=by
      rcases h3 with rfl|h3
      . rfl
      rw[h3,Bool.or_true]
     rw[ht];simp only[hsh,hx,hte,hl,hu,xg,fh h1,fh h2,h3',mT,al]
    exact hK.elim
   . rename_i e g u off n cap hsh hx;obtain⟨r,he,hK⟩:=hK;rw[nT] at hK;exact OpS.pure rfl (by intro _ e;cases e) (fun _=>he) hK
   . rename_i n e g u off hsh hx;split at hK
     . rename_i te hte;refine OpS.pure rfl (by intro _ e;cases e) (fun _=>?_) hK;show jd X.B.T h t (am tm x) none none none=_;unfold jd;rw[ht];simp only[hsh,hx,hte]
     exact hK.elim
   exact hK.elim
  exact hK.elim
 .
  -- fieldAddr
  rename_i s x j;split at hK
  .
   rename_i ty ht;split at hK
   .
    rename_i fo ag sz hsh hf0;cases hb:Nat.blt 0 sz with
    |false=>rw[hb] at hK;exact hK.elim
    |true=>
     rw[hb] at hK;simp only[al] at hK;split at hK
     . rename_i g u off hx;obtain⟨o',rfl,hK⟩:=hK;refine OpS.pure rfl (by intro _ e;cases e) (fun _=>?_) hK;show qR _ _ _ _=_;unfold qR;rw[ht,hx];simp only[hsh,hf0,hb,al,bz]
     . rename_i y off hx;refine OpS.pure rfl (by intro _ e;cases e) (fun _=>?_) hK;show qR _ _ _ _=_;unfold qR;rw[ht,hx];simp only[hsh,hf0,hb,al,bz]
     exact hK.elim
   exact hK.elim
  exact hK.elim
 .
  -- indexAddr
  rename_i t x ix;split at hK
  .
   rename_i ty ht;split at hK
   . rename_i e es k a hsh hx hi;split at hK
     . rename_i te hte;obtain⟨j,y,rfl,hj,hy,hK⟩:=hK;have hi':am tm ix=.w (.one (.iv (.int k (Int.ofNat j)))):=hi;refine OpS.pure rfl (by intro _ e;cases e) (fun _=>?_) hK;show nU _ _ _ _=_;unfold nU;rw[ht,hx,hi'];simp only[hsh,hte,hj,hy,bD,al]
     exact hK.elim
   .
    rename_i e g u off n cap k a hsh hx hi;split at hK
    . rename_i te hte;obtain⟨j,rfl,hj,o',rfl,hK⟩:=hK;have hi':am tm ix=.w (.one (.iv (.int k (Int.ofNat j)))):=hi;refine OpS.pure rfl (by intro _ e;cases e) (fun _=>?_) hK;show nU _ _ _ _=_;unfold nU;rw[ht,hx,hi'];have hb:Nat.blt j n=true:=by rw[dN];exact hj
      simp only[hsh,hte,hb,al,bz]
    exact hK.elim
   .
    rename_i n e g u off k a hsh hx hi;split at hK
    . rename_i te hte;obtain⟨j,rfl,hj,o',rfl,hK⟩:=hK;have hi':am tm ix=.w (.one (.iv (.int k (Int.ofNat j)))):=hi;refine OpS.pure rfl (by intro _ e;cases e) (fun _=>?_) hK;show nU _ _ _ _=_;unfold nU;rw[ht,hx,hi'];have hb:Nat.blt j n=true:=by rw[dN];exact hj
      simp only[hsh,hte,hb,al,bz]
    exact hK.elim
   exact hK.elim
  exact hK.elim
 .
  -- index
  rename_i t x ix;split at hK
  .
   rename_i ty ht;split at hK
   .
    rename_i n e cs k a hsh hx hi;split at hK
    .
     rename_i te hte;cases hb:(Nat.beq te.size 1 && !te.sh.agg) with
     |false=>rw[hb] at hK;exact hK.elim
     |true=>
      rw[hb] at hK;simp only[al] at hK;obtain⟨j,c,rfl,hj,hc,hK⟩:=hK;have hi':am tm ix=.w (.one (.iv (.int k (Int.ofNat j)))):=hi;refine OpS.pure rfl (by intro _ e;cases e) (fun _=>?_) hK;show wn _ _ _ _=_;unfold wn;rw[ht,hx,hi'];have hb2:Nat.blt j n=true:=by rw[dN];exact hj
      simp only[hsh,hte,hb,hb2,mT,al,hc]
    exact hK.elim
   exact hK.elim
  exact hK.elim
 .
  -- builtins
  rename_i b args ats;split at hK
  .
   rename_i x t ha hts;split at hK
   .
    rename_i ty ht;have key:∀{n:Nat} {m:Int},(n:Int)=m->(∀e:TypeId,ty.sh=.slice e->ot X.B.T t (am tm x)=iM .i64 (.ofNat n))->∀e:TypeId,ty.sh=.slice e->K (ae (.int .i64 m)) [] 0 (some (cl (.call { callee:=.builtin .len,args:=args,argTypes:=ats }) (am tm)))->OpS X nx (.call { callee:=.builtin .len,args:=args,argTypes:=ats }) tm h K:=by
     intro n m hm hl e hsh hK;subst hm;refine OpS.pure rfl (by intro _ e;cases e) (fun _=>?_) hK;show gc _ _ _ _ _ _ _=_;unfold gc;rw[hts,ha];simp only[aZ,eP,hl e hsh,mW,iA]
    split at hK
    . rename_i l n hsh hx hn;obtain⟨m,rfl,hK⟩:=hK;refine OpS.pure rfl (by intro _ e;cases e) (fun _=>?_) hK;show gc _ _ _ _ _ _ _=_;unfold gc;rw[hts,ha];rw[hx] at hn;simp only[Aw,ai] at hn;subst hn;show ot _ _ _=_;unfold ot;rw[ht,hx];simp only[hsh,mW,iA]
    . rename_i e es n hsh hx hn;obtain⟨m,hm,hK⟩:=hK;rw[hx] at hn;simp only[Aw,ai] at hn;subst hn;refine key hm (fun e he=>?_) e hsh hK;unfold ot;rw[ht,hx];simp only[he]
    . rename_i e g u off n' c n hsh hx hn;obtain⟨m,hm,hK⟩:=hK;rw[hx] at hn;simp only[Aw,ai] at hn;subst hn;refine key hm (fun e he=>?_) e hsh hK;unfold ot;rw[ht,hx];simp only[he,mW,iA]
    . rename_i e n hsh hx hn;refine key (n:=0) (m:=0) rfl (fun e he=>?_) e hsh hK;unfold ot;rw[ht,hx];simp only[he,mW];rfl
    exact hK.elim
   exact hK.elim
  . rename_i x y ha;split at hK
    . rename_i k a k' c hx hy;obtain⟨n,rfl,hK⟩:=hK;refine OpS.pure rfl (by intro _ e;cases e) (fun _=>?_) hK;show gc _ _ _ _ _ _ _=_;unfold gc;rw[ha];simp only[aZ,eP,hx,hy,uE,al,mW]
    exact hK.elim
  . rename_i x y ha;split at hK
    . rename_i k a k' c hx hy;obtain⟨n,rfl,hK⟩:=hK;refine OpS.pure rfl (by intro _ e;cases e) (fun _=>?_) hK;show gc _ _ _ _ _ _ _=_;unfold gc;rw[ha];simp only[aZ,eP,hx,hy,uE,bh,mW]
    exact hK.elim
  .
   rename_i s x t t' ha hts;cases hb:Nat.beq t t' with
   |false=>rw[hb] at hK;exact hK.elim
   |true=>
    rw[hb] at hK;simp only[al] at hK;obtain⟨g,b,r,ws,he,hg,hK⟩:=hK;refine rp (by intro _ e;cases e) hg ?_ (fun p hp=>(PF he p hp).imp id fun e=>⟨e.1,List.mem_flatMap.2 ⟨s,by simp[iJ,ha],e.2⟩⟩) hK;show gc _ _ _ _ _ _ _=_;unfold gc;rw[ha,hts];simp only[aZ,eP,hb,al,he]
  .
   rename_i d x t t' ha hts;obtain⟨r,ws,he,hK⟩:=hK;refine OpS.wr rfl (by intro _ e;cases e) (fun _=>?_) (fun p hp=>?_) hK
   . show gc _ _ _ _ _ _ _=_;unfold gc;rw[ha,hts];simp only[aZ,eP,he]
   rcases Rj (g:=p.1+1) he p hp with e|e
   . omega
   exact⟨e.1,List.mem_flatMap.2 ⟨d,by simp[iJ,ha],e.2⟩⟩
  .
   rename_i d t ha hts;obtain⟨r,ws,he,hK⟩:=hK;refine OpS.wr rfl (by intro _ e;cases e) (fun _=>?_) (fun p hp=>?_) hK
   . show gc _ _ _ _ _ _ _=_;unfold gc;rw[ha,hts];simp only[aZ,eP,he]
   rcases P9 (g:=p.1+1) he p hp with e|e
   . omega
   exact⟨e.1,List.mem_flatMap.2 ⟨d,by simp[iJ,ha],e.2⟩⟩
  exact hK.elim
 . -- lookup
   obtain⟨r,he,hK⟩:=hK;exact OpS.pure rfl (by intro _ e;cases e) (fun _=>he) hK
 . rename_i t m k v;obtain⟨g,o',he,hK⟩:=hK;refine OpS.wr rfl (by intro _ e;cases e) (fun _=>he) (fun p hp=>?_) hK;rcases Gp (g:=p.1+1) he p hp with e|e
   . omega
   exact⟨e.1,List.mem_flatMap.2 ⟨m,by simp[iJ],e.2⟩⟩
 . rename_i t m k v;obtain⟨g,o',he,hK⟩:=hK;refine OpS.wr rfl (by intro _ e;cases e) (fun _=>he) (fun p hp=>?_) hK;rcases Gp (g:=p.1+1) he p hp with e|e
   . omega
   exact⟨e.1,List.mem_flatMap.2 ⟨m,by simp[iJ],e.2⟩⟩
 .
  -- range
  rename_i t x;split at hK
  . rename_i kd gm hmk hx;obtain⟨es,ck,hg,hK⟩:=hK;refine rp (by intro _ e;cases e) (by omega) ?_ yK hK;show pz _ _ _ _ _=_;unfold pz;rw[hmk,hx];simp only[hg,hnx,bz]
  exact hK.elim
 . rename_i fo args ats;simp[ry] at hcall
 all_goals first|exact H7 rfl hK|exact hK.elim
end
def Gq{X:EX}{f:FuncId}{xs:List IV}{r:IV}{h:Hp}(hc:aW X.P X.I f xs r)(hn:kO xs=true)(hr:qt r=true):CallOk X f (xs.map dS) h (dS r) h:=by
 refine⟨hc.1,fun E hI H U w vs hs hv=>?_⟩;refine(hc.2 H w vs (hI w hs.below) hs.has (SREL.data hn hv)).mono ?_;rintro e w' ⟨v,H',rfl,h1,h2,h3,h4⟩;exact⟨v,H',U,rfl,h2.1,BLe.refl _,hs.grow h4 h1 h2,MarkSame.below h4,L9 h3 hr⟩
def iT(fp:Option (List Nat))(ws:Wr):Le:=match fp with
 |none=>⟨false,[],ws⟩
 |some l=>⟨true,l,ws⟩
def tF(fp:Option (List Nat))(ws:Wr):(iT fp ws).wr=ws:=by cases fp<;>rfl
def Nq(X:EX)(nx:Nat)(o:Oper)(tm:Nat->ES)(h:Hp)(K:ES->Wr->Nat->Option (List Nat)->Prop):Prop :=
 ∃r ws b fp,(∀p∈ws,(p.1<nx+b\/h p.1≠none)/\(iT fp ws).vis p.1=true)/\OneOk X o tm h r (bw h ws)/\OneOk X o tm (dF (iT fp ws).vis h) r (bw (dF (iT fp ws).vis h) ws)/\K r ws b fp
section
variable {X:EX}{nx:Nat}{o:Oper}{tm:Nat->ES}{h:Hp}{K:ES->Wr->Nat->Option (List Nat)->Prop}
def CX{fo:Operand}{ax:Array Operand}{ats:Array TypeId}{f:FuncId}{cp:List ES}(ho:o.op=.call { callee:=.value fo,args:=ax,argTypes:=ats })
 (hf:CapF (am tm fo) f cp) (hK:ct X nx f (ax.toList.map (am tm)++cp) h K):Nq X nx o tm h K:=by
 rcases hK with⟨xs,r,hc,ha,hn,hr,hK⟩|⟨r,ws,b,h2,h3,hK⟩|⟨r,ws,b,l,h1,h2,h3,hK⟩
 rotate_right
 . exact⟨r,ws,b,some l,fun p hp=>⟨(h3 p hp).1,jT.2 (h3 p hp).2⟩,OneOk.call ho hf h1,OneOk.call ho hf h2,hK⟩
 . refine⟨dS r,[],0,some [],fun p hp=>(by cases hp),OneOk.call ho hf ?_,OneOk.call ho hf ?_,hK⟩
   . rw[ha];exact Gq hc hn hr
   rw[ha];exact Gq hc hn hr
 have e:dF (iT none ws).vis h=h:=by
  funext g;unfold dF iT Le.vis;simp[bV]
 refine⟨r,ws,b,none,fun p hp=>⟨h3 p hp,?_⟩,OneOk.call ho hf h2,?_,hK⟩
 . unfold iT Le.vis;simp[bV]
 rw[e];exact OneOk.call ho hf h2
def Kr(hf:∀g,nx<=g->h g=none)(hK:qq X nx o.op tm h K):Nq X nx o tm h K:=by
 cases hc:ry o.op with
 |none=>
  obtain⟨⟨g,b,r,ws,fp,he,h1,h2,h3,hK⟩,hne⟩:=V8 hf hc hK;have hv:∀i∈fp,(iT (some fp) ws).vis i=true:=fun i hi=>by
   unfold iT Le.vis;simp only[al];exact jT.2 hi
  refine⟨r,ws,b,some fp,fun p hp=>⟨(h3 p hp).1,hv _ (h3 p hp).2⟩,vz he,vz (g:=g) ?_,hK⟩;rw[Ri hne (fun e=>qV (hv g (h1 e))) (fun i hi=>qV (hv i (h2 i hi)))];exact he
 |some p=>
  obtain⟨fo,args⟩:=p;obtain⟨ax,ats,ho,rfl⟩:=Bv hc;rw[ho] at hK;simp only[qq] at hK;split at hK
  . rename_i f hfo;refine CX ho (.inl ⟨hfo,rfl⟩) ?_;simpa using hK
  . rename_i f gs hfo;exact CX ho (.inr (.inl ⟨_,hfo,rfl⟩)) hK
  . rename_i f xs hfo;exact CX ho (.inr (.inr ⟨_,hfo,rfl⟩)) hK
  exact hK.elim
end
structure SS where
 tm:Nat->ES
 h:Hp
 nx:Nat
def SS.fr(s:SS):Prop:=∀g,s.nx<=g->s.h g=none
structure SSm(X:EX)(E:EEnv)(w0:World)(nt:Nat)(H:ak)(U:Bm)(s:SS)(a:Act)(w:World):Prop where
 st:ESt X E nt H U s.tm s.h a w
 mks:MarksOk (mo E w0) a.defers w
 sm:MarkSame w0 w
 fr:s.fr
def BLeP(nP:Nat)(U U':Bm):Prop:=∀g u k,g<nP->U g u=some k->U' g u=some k
def BLeP.refl(n:Nat)(U:Bm):BLeP n U U:=fun _ _ _ _ h=>h
def BLeP.of{n:Nat}{U U':Bm}(h:BLe U U'):BLeP n U U':=fun g u k _ e=>h g u k e
def BLeP.trans{n:Nat}{a b c:Bm}(h:BLeP n a b)(k:BLeP n b c):BLeP n a c:=fun g u x l e=>k g u x l (h g u x l e)
def SPost(X:EX)(nP:Nat)(E:EEnv)(w0:World)(nt:Nat)(H:ak)(U:Bm)(w:World)(s':SS)(a':Act)(w':World):Prop :=
 ∃H' U',HLe H H'/\BLeP nP U U'/\SSm X E w0 nt H' U' s' a' w'/\MarkSame w w'
def SPost.refl{X:EX}{nP:Nat}{E:EEnv}{w0:World}{nt:Nat}{H:ak}{U:Bm}{s:SS}{a:Act}{w:World}(h:SSm X E w0 nt H U s a w):SPost X nP E w0 nt H U w s a w :=
 ⟨H,U,HLe.refl _,BLeP.refl _ _,h,MarkSame.refl _⟩
def SPost.trans{X:EX}{nP:Nat}{E:EEnv}{wm:World}{nt:Nat}{H H':ak}{U U':Bm}{s':SS}{a':Act}{w w0 w':World}(hh:HLe H H')(hb:BLeP nP U U')(hm:MarkSame w w0)(k:SPost X nP E wm nt H' U' w0 s' a' w'):SPost X nP E wm nt H U w s' a' w':=by
 obtain⟨H2,β2,k1,k2,k3,k4⟩:=k;exact⟨H2,β2,hh.trans k1,hb.trans k2,k3,hm.trans k4⟩
def Ej{nx b:Nat}{h:Hp}{ws:Wr}(hf:∀g,nx<=g->h g=none)(hw:∀p∈ws,p.1<nx+b\/h p.1≠none):∀g,nx+b<=g->bw h ws g=none:=fun g hg=>by
 rw[sZ fun p hp e=>?_]
 . exact hf g (by omega)
 rcases hw p hp with e'|e'
 . omega
 exact e' (hf _ (by omega))
def SW(X:EX)(nP:Nat)(rd:Bool)(nt:Nat)(c:Code)(s:SS)(K:Exit->SS->Prop):Prop :=
 ∀ro,(rd=false->ro=none)->∀(E:EEnv),(∀w',BelowO E.own E.w0 w'->X.I w')->(∀g,E.hid g->g<nP)->∀(w0:World) (H:ak) (U:Bm) (a:Act) (w:World) (Q:Exit->Act->World->Prop),SSm X E w0 nt H U s a w->
  (∀e s' a' w',K e s'->SPost X nP E w0 nt H U w s' a' w'->Q e a' w')->c.wpIn (FW ro) 0 X.P Q a w
def sK(X:EX)(nP:Nat)(rd:Bool)(nt:Nat)(y:Code)(K:Exit->SS->Prop):Exit->SS->Prop
 | .normal,s=>SW X nP rd nt y s K
 |e,s=>K e s
def sB(id:Nat)(K:Exit->SS->Prop):Exit->SS->Prop
 | .exit i,s=>match Nat.beq i id with
  |true=>K .normal s
  |false=>K (.exit i) s
 |e,s=>K e s
section
variable {X:EX}{nP:Nat}{rd:Bool}{nt:Nat}{s:SS}{K:Exit->SS->Prop}
def SW.mono{c:Code}{K':Exit->SS->Prop}(h:SW X nP rd nt c s K')(hk:∀e s,K' e s->K e s):SW X nP rd nt c s K :=
 fun ro hro E hI hh w0 H U a w Q hS hQ=>h ro hro E hI hh w0 H U a w Q hS fun e s' a' w' k=>hQ e s' a' w' (hk e s' k)
def SW.skip(h:K .normal s):SW X nP rd nt .skip s K:=fun ro hro E hI hh w0 H U a w Q hS hQ=>wpIn_skip (hQ _ _ _ _ h (SPost.refl hS))
def SW.ret(h:K .ret s):SW X nP rd nt .ret s K:=fun ro hro E hI hh w0 H U a w Q hS hQ=>wpIn_ret (hQ _ _ _ _ h (SPost.refl hS))
def SW.exit{id:Nat}(h:K (.exit id) s):SW X nP rd nt (.exit id) s K:=fun ro hro E hI hh w0 H U a w Q hS hQ=>wpIn_exit (hQ _ _ _ _ h (SPost.refl hS))
def SW.label{l:Nat}(h:K .normal s):SW X nP rd nt (.label l) s K:=fun ro hro E hI hh w0 H U a w Q hS hQ=>wpIn_label (hQ _ _ _ _ h (SPost.refl hS))
def SW.seq{x y:Code}(h:SW X nP rd nt x s (sK X nP rd nt y K)):SW X nP rd nt (.seq x y) s K:=fun ro hro E hI hh w0 H U a w Q hS hQ=>
 wpIn_seq (h ro hro E hI hh w0 H U a w _ hS fun e s1 a1 w1 hk hp=>by
  obtain⟨H1,β1,p1,p2,p3,p4⟩:=hp;cases e with
  |normal=>exact hk ro hro E hI hh w0 H1 β1 a1 w1 Q p3 fun e s' a' w' k hp'=>hQ e s' a' w' k (hp'.trans p1 p2 p4)
  |_=>exact hQ _ _ _ _ hk ⟨H1,β1,p1,p2,p3,p4⟩)
def SW.block{id:Nat}{c:Code}(h:SW X nP rd nt c s (sB id K)):SW X nP rd nt (.block id c) s K:=fun ro hro E hI hh w0 H U a w Q hS hQ=>
 wpIn_block (h ro hro E hI hh w0 H U a w _ hS fun e s1 a1 w1 hk hp=>by
  cases e with
  |exit i=>
   simp only[Exit.inBlock];by_cases hi:i=id
   . subst hi;simp only[sB,bD] at hk;simp only[bL];exact hQ _ _ _ _ hk hp
   simp only[sB,zY hi] at hk;simp only[hi,bM];exact hQ _ _ _ _ hk hp
  |_=>exact hQ _ _ _ _ hk hp)
def SW.cond{c:Operand}{x y:Code}{t:Bool}(hc:am s.tm c=.w (.one (.iv (.bool t))))(h1:t=true->SW X nP rd nt x s K)(h2:t=false->SW X nP rd nt y s K):SW X nP rd nt (.cond c x y) s K:=fun ro hro E hI hh w0 H U a w Q hS hQ=>by
 have hv:=bF hS.st c;rw[hc] at hv;refine FK (SRe.bool hv) (fun e=>?_) (fun e=>?_)
 . subst e;exact h1 rfl ro hro E hI hh w0 H U a w Q hS hQ
 subst e;exact h2 rfl ro hro E hI hh w0 H U a w Q hS hQ
def SW.condT{c:Operand}{x y:Code}(hc:am s.tm c=.w (.one (.iv (.bool true))))(h:SW X nP rd nt x s K):SW X nP rd nt (.cond c x y) s K:=SW.cond hc (fun _=>h) (fun e=>by cases e)
def SW.condF{c:Operand}{x y:Code}(hc:am s.tm c=.w (.one (.iv (.bool false))))(h:SW X nP rd nt y s K):SW X nP rd nt (.cond c x y) s K:=SW.cond hc (fun e=>by cases e) (fun _=>h)
end
def kZ(X:EX)(all:Array Oper):List Oper->SS->(SS->Prop)->Prop
 | [],s,K=>K s
 |o::os,s,K=>match jA all s.tm o with
  |some false=>kZ X all os ⟨dz s.tm o.dst .und,s.h,s.nx⟩ K
  |none=>False
  |some true=>match o.op with
   | .next x false=>match am s.tm x with
    | .w (.one (.ptr gi 0 0))=>∃gm since seen last cur es ck,s.h gi=some (.iter gm since seen last cur)/\s.h gm=some (.map es ck)/\(nw since es&&(lZ seen||(lZ es||nu last es)))=true/\
     (fT seen es=[]->kZ X all os ⟨dz s.tm o.dst (.tup [.one (.iv (.bool false))]),s.h,s.nx⟩ K)/\
     ∀e∈fT seen es,kZ X all os ⟨dz s.tm o.dst (.tup [.one (.iv (.bool true)),e.1,e.2.1]),az s.h gi (some (.iter gm since (e.2.2::seen) ck (some e.2.2))),s.nx⟩ K
    |_=>False
   | .entry x=>∃r,rD s.h (am s.tm x)=some (r,[])/\lQ r fun r=>kZ X all os ⟨dz s.tm o.dst r,s.h,s.nx⟩ K
   |op=>qq X s.nx op s.tm s.h fun r ws b _=>bJ (s.nx+b) fun nx=>kZ X all os ⟨dz s.tm o.dst r,bw s.h ws,nx⟩ K
def om(X:EX)(all:Array Oper):List Oper->SS->List (Wr×Option (List Nat))->(SS->List (Wr×Option (List Nat))->Prop)->Prop
 | [],s,log,K=>K s log.reverse
 |o::os,s,log,K=>match jA all (ka (gd all o) s.tm) o with
  |some false=>om X all os ⟨dz s.tm o.dst .und,s.h,s.nx⟩ (([],some [])::log) K
  |none=>False
  |some true=>qq X s.nx o.op (ka (gd all o) s.tm) s.h fun r ws b fp=>bJ (s.nx+b) fun nx=>om X all os ⟨dz s.tm o.dst r,bw s.h ws,nx⟩ ((ws,fp)::log) K
def Fu(a:Nat):List Nat->Prop->Prop
 | [],K=>K
 |b::l,K=>a≠b/\Fu a l K
def Fe(fp:List Nat):Wr->Prop->Prop
 | [],K=>K
 |p::ws,K=>Fu p.1 fp (Fe fp ws K)
def Ni(fp:Option (List Nat))(ws:Wr)(K:Prop):Prop:=match fp with
 |none=>False
 |some l=>Fe l ws K
def wo(tab:List Nat)(i:Nat)(ws:Wr):List (Wr×Option (List Nat))->Nat->Prop->Prop
 | [],_,K=>K
 |l::ls,j,K=>match dV tab i j with
  |true=>wo tab i ws ls (j+1) K
  |false=>Ni l.2 ws (wo tab i ws ls (j+1) K)
def tR(tab:List Nat)(all:List (Wr×Option (List Nat))):List (Wr×Option (List Nat))->Nat->Prop->Prop
 | [],_,K=>K
 |l::ls,i,K=>match l.1 with
  | []=>tR tab all ls (i+1) K
  |ws=>wo tab i ws all 0 (tR tab all ls (i+1) K)
def pa:List Nat->(List Nat->Prop)->Prop
 | [],k=>k []
 |x::xs,k=>bJ x fun x=>pa xs fun xs=>k (x::xs)
def BF:∀(l:List Nat) (k:List Nat->Prop),pa l k=k l
 | [],_=>rfl
 |x::xs,k=>by rw[pa,bz,BF xs]
def EU(X:EX)(all:Array Oper)(draw:Bool)(s:SS)(K:SS->Prop):Prop :=
 match draw with
 |false=>kZ X all all.toList s K
 |true=>pa (k9 all.toList) fun tab=>om X all all.toList s [] fun s' log=>tR tab log log 0 (K s')
def zu(nt:Nat)(all:Array Oper)(draw:Bool):Bool:=dc nt all.toList&&(!draw||pv all (k9 all.toList))
section
variable {X:EX}{nP:Nat}
def T5{all:Array Oper}{K:SS->Prop}:∀{os:List Oper} {s:SS},kZ X all os s K->
 ∀(ro:Option Nat) (E:EEnv),(∀w',BelowO E.own E.w0 w'->X.I w')->∀(w0:World) (nt:Nat) (Q:Exit->Act->World->Prop) (H:ak) (U:Bm) (a:Act) (w:World),dc nt os=true->SSm X E w0 nt H U s a w->
  (∀s' a' w',K s'->SPost X nP E w0 nt H U w s' a' w'->Q .normal a' w')->wpListIn (FW ro) 0 X.P all Q os a w:=by
 intro os;induction os with
 |nil=>intro s hk ro E hI w0 nt Q H U a w _ hS hQ;exact hQ s a w hk (SPost.refl hS)
 |cons o os ih=>
  intro s hk ro E hI w0 nt Q H U a w hd hS hQ;have hd':dc nt os=true:=by
   simp only[dc,dl,aH] at hd;exact hd.2
  have hdo:=oO hd (show o∈o::os by simp);unfold wpListIn;unfold kZ at hk;split at hk
  . -- not wanted
    rename_i hy;refine Ez hI hdo hS.st hS.mks (r:=.und) (h':=s.h) (.inr ⟨hy,rfl,rfl⟩) fun H' U' a' w' h1 h2 h3 h4 h5=>?_;exact ih hk ro E hI w0 nt Q H' U' a' w' hd' ⟨h3,h4,hS.sm.trans h5,hS.fr⟩ fun s2 a2 w2 k hp=>hQ s2 a2 w2 k (hp.trans h1 (BLeP.of h2) h5)
  . exact hk.elim
  rename_i hy;have one:∀{r:ES} {ws:Wr} {b:Nat},OneOk X o s.tm s.h r (bw s.h ws)->(∀p∈ws,p.1<s.nx+b\/s.h p.1≠none)->kZ X all os ⟨dz s.tm o.dst r,bw s.h ws,s.nx+b⟩ K->
   if Region.wanted o (yielded all a.tmps) then o.wpIn (FW ro) 0 X.P a w (wpListIn (FW ro) 0 X.P all Q os) Q else(∀f,o.about X.P w a.eval=some f->(FW ro).fn f)/\wpListIn (FW ro) 0 X.P all Q os (a.put o.dst undef) w:=by
   intro r ws b hone hw hk;refine Ez hI hdo hS.st hS.mks (.inl ⟨hy,hone⟩) fun H' U' a' w' h1 h2 h3 h4 h5=>?_;exact ih hk ro E hI w0 nt Q H' U' a' w' hd' ⟨h3,h4,hS.sm.trans h5,Ej hS.fr hw⟩ fun s2 a2 w2 k hp=>hQ s2 a2 w2 k (hp.trans h1 (BLeP.of h2) h5)
  split at hk
  .
   -- a step of an iterator
   rename_i x hop;split at hk
   .
    rename_i gi hxe;obtain⟨gm,since,seen,last,cur,es,ck,e1,e2,e3,k1,k2⟩:=hk;rw[vO hS.st hy];simp only[bL];have hn:Ah s.h (am s.tm x)=some (match fT seen es with
     | []=>[(.tup [.one (.iv (.bool false))],[])]
     |l=>l.map fun e=>(.tup [.one (.iv (.bool true)),e.1,e.2.1],[(gi,.iter gm since (e.2.2::seen) ck (some e.2.2))])):=by
     rw[hxe];unfold Ah;simp only[e1,e2,e3,al];cases fT seen es<;>rfl
    obtain⟨p,hp,v,w',U',hr,b1,b2,b3,b4⟩:=Sa hS.st hop hn;have hcont:∃b,kZ X all os ⟨dz s.tm o.dst p.1,bw s.h p.2,s.nx⟩ K/\(∀q∈p.2,q.1<s.nx+b\/s.h q.1≠none)/\b=0:=by
     refine⟨0,?_,?_,rfl⟩
     .
      cases hl:fT seen es with
      |nil=>
       rw[hl] at hp;simp only[fg] at hp;subst hp;exact k1 hl
      |cons y l=>
       rw[hl] at hp;obtain⟨e,he,rfl⟩:=List.mem_map.1 hp;exact k2 e (by rw[hl];exact he)
     intro q hq;cases hl:fT seen es with
     |nil=>
      rw[hl] at hp;simp only[fg] at hp;subst hp;cases hq
     |cons y l=>
      rw[hl] at hp;obtain⟨e,he,rfl⟩:=List.mem_map.1 hp;simp only[fg] at hq;subst hq;exact .inr (by rw[e1];simp)
    obtain⟨b,hc,hfr,rfl⟩:=hcont;have hK:wpListIn (FW ro) 0 X.P all Q os (a.put o.dst v) w':=by
     refine ih hc ro E hI w0 nt Q H U' (a.put o.dst v) w' hd' ⟨hS.st.fin hdo (HLe.refl _) b1 b2 b4,by rw[vd];exact hS.mks.keep b3,hS.sm.trans b3,Ej (b:=0) hS.fr hfr⟩ fun s2 a2 w2 k hp2=>hQ s2 a2 w2 k (hp2.trans (HLe.refl _) (BLeP.of b1) b3)
    refine tN (fun c hc=>by rw[hop] at hc;cases hc) ?_;unfold Oper.wp;rcases hr with hr|⟨rfl,hr⟩
    . rw[hr];exact hK
    rw[hr];exact hK
   exact hk.elim
  . rename_i x hop;obtain⟨r,he,hk⟩:=hk;rw[nT] at hk;refine one (ws:=[]) (b:=0) (vz (g:=0) (ws:=[]) ?_) (fun p hp=>(by cases hp)) hk;rw[hop];exact he
  obtain⟨r,ws,b,fp,h1,h2,_,hk⟩:=Kr hS.fr hk;rw[bz] at hk;exact one h2 (fun p hp=>(h1 p hp).1) hk
def T6{all:Array Oper}{K:SS->List (Wr×Option (List Nat))->Prop}:∀{os:List Oper} {s:SS} {log:List (Wr×Option (List Nat))},s.fr->om X all os s log K->
 ∃(recs:List (ES×Le)) (s':SS),recs.length=os.length/\(∀i o x,os[i]?=some o->recs[i]?=some x->rQ X all o (oA s.tm ((os.zip recs).take i)) (oB s.h ((os.zip recs).take i)) x)/\
  s'.tm=oA s.tm (os.zip recs)/\s'.h=oB s.h (os.zip recs)/\s'.fr/\(∃lg:List (Wr×Option (List Nat)),recs.map Prod.snd=lg.map (fun p=>iT p.2 p.1)/\K s' (log.reverse++lg)):=by
 intro os;induction os with
 |nil=>
  intro s log hf hk;exact⟨[],s,rfl,fun i o x h=>(by simp at h),rfl,rfl,hf,[],rfl,by simpa[om] using hk⟩
 |cons o os ih=>
  intro s log hf hk;unfold om at hk;have key:∃(r:ES) (ws:Wr) (fp:Option (List Nat)) (b:Nat),rQ X all o s.tm s.h (r,iT fp ws)/\(∀p∈ws,p.1<s.nx+b\/s.h p.1≠none)/\om X all os ⟨dz s.tm o.dst r,bw s.h ws,s.nx+b⟩ ((ws,fp)::log) K:=by
   split at hk
   . rename_i hy;exact⟨.und,[],some [],0,⟨.inr ⟨hy,rfl,rfl⟩,fun p hp=>(by cases hp)⟩,fun p hp=>(by cases hp),hk⟩
   . exact hk.elim
   rename_i hy;obtain⟨r,ws,b,fp,h1,_,h2,hk⟩:=Kr hf hk;rw[bz] at hk;refine⟨r,ws,fp,b,⟨.inl ⟨hy,?_⟩,fun p hp=>?_⟩,fun p hp=>(h1 p hp).1,hk⟩
   . simp only[tF];exact h2
   simp only[tF] at hp;exact(h1 p hp).2
  obtain⟨r,ws,fp,b,hfa,hfr,hk'⟩:=key;obtain⟨recs,s',j1,j2,j3,j4,j5,lg,j6,j7⟩:=ih (s:=⟨dz s.tm o.dst r,bw s.h ws,s.nx+b⟩) (Ej hf hfr) hk';refine⟨(r,iT fp ws)::recs,s',by simp[j1],fun i o' x hi hx=>?_,?_,?_,j5,(ws,fp)::lg,by simp[j6],by simpa using j7⟩
  .
   cases i with
   |zero=>simp at hi hx;subst hi;subst hx;exact hfa
   |succ i=>
    have:=j2 i o' x (by simpa using hi) (by simpa using hx);simpa[oA,oB,tF] using this
  . simpa[oA,oB,tF] using j3
  simpa[oA,oB,tF] using j4
def Ec{a:Nat}{K:Prop}:∀{l:List Nat},Fu a l K->K/\a∉l
 | [],h=>⟨h,by simp⟩
 |b::l,⟨h1,h2⟩=>⟨(Ec h2).1,by simp[h1,(Ec h2).2]⟩
def K2{fp:List Nat}{K:Prop}:∀{ws:Wr},Fe fp ws K->K/\∀p∈ws,p.1∉fp
 | [],h=>⟨h,fun p hp=>(by cases hp)⟩
 |q::ws,h=>by
  obtain⟨h1,h2⟩:=Ec h;obtain⟨h3,h4⟩:=K2 h1;refine⟨h3,fun p hp=>?_⟩;rcases List.mem_cons.1 hp with rfl|hp
  . exact h2
  exact h4 p hp
def Vg{fp:Option (List Nat)}{ws:Wr}{K:Prop}(h:Ni fp ws K):K/\∀p∈ws,∀ws',(iT fp ws').vis p.1=false:=by
 cases fp with
 |none=>exact h.elim
 |some l=>
  obtain⟨h1,h2⟩:=K2 h;refine⟨h1,fun p hp ws'=>?_⟩;unfold iT Le.vis;simp only[al];cases hm:bV p.1 l with
  |false=>rfl
  |true=>exact absurd (jT.1 hm) (h2 p hp)
def Cn{tab:List Nat}{i:Nat}{ws:Wr}{K:Prop}:∀{ls:List (Wr×Option (List Nat))} {k:Nat},wo tab i ws ls k K->K/\∀j l,ls[j]?=some l->dV tab i (k+j)=true\/∀p∈ws,∀ws',(iT l.2 ws').vis p.1=false
 | [],_,h=>⟨h,fun j l hj=>by simp at hj⟩
 |x::ls,k,h=>by
  unfold wo at h;split at h
  . rename_i hn;obtain⟨h1,h2⟩:=Cn h;refine⟨h1,fun j l hj=>?_⟩;cases j with
    |zero=>exact .inl hn
    |succ j=>have:=h2 j l (by simpa using hj);rwa[show k+1+j=k+(j+1) by omega] at this
  obtain⟨h0,h3⟩:=Vg h;obtain⟨h1,h2⟩:=Cn h0;refine⟨h1,fun j l hj=>?_⟩;cases j with
  |zero=>simp at hj;subst hj;exact .inr h3
  |succ j=>have:=h2 j l (by simpa using hj);rwa[show k+1+j=k+(j+1) by omega] at this
def CU{tab:List Nat}{all:List (Wr×Option (List Nat))}{K:Prop}:∀{ls:List (Wr×Option (List Nat))} {k:Nat},tR tab all ls k K->K/\∀i x,ls[i]?=some x->∀j l,all[j]?=some l->dV tab (k+i) j=true\/∀p∈x.1,∀ws',(iT l.2 ws').vis p.1=false
 | [],_,h=>⟨h,fun i x hi=>by simp at hi⟩
 |y::ls,k,h=>by
  unfold tR at h;split at h
  . rename_i hw;obtain⟨h1,h2⟩:=CU h;refine⟨h1,fun i x hi j l hj=>?_⟩;cases i with
    |zero=>simp at hi;subst hi;exact .inr fun p hp=>by rw[hw] at hp;cases hp
    |succ i=>have:=h2 i x (by simpa using hi) j l hj;rwa[show k+1+i=k+(i+1) by omega] at this
  obtain⟨h0,h3⟩:=Cn h;obtain⟨h1,h2⟩:=CU h0;refine⟨h1,fun i x hi j l hj=>?_⟩;cases i with
  |zero=>simp at hi;subst hi;simpa using h3 j l hj
  |succ i=>have:=h2 i x (by simpa using hi) j l hj;rwa[show k+1+i=k+(i+1) by omega] at this
def Tw{rd:Bool}{nt id:Nat}{all:Array Oper}{draw:Bool}{s:SS}{K:SS->Prop}(h0:zu nt all draw=true)(hk:EU X all draw s K):SW X nP rd nt (.region id all draw) s fun e s'=>e=.normal/\K s':=by
 simp only[zu,aH,iW,gz] at h0;obtain⟨hd,hfl⟩:=h0;intro ro hro E hI hh w0 H U a w Q hS hQ;unfold EU at hk;cases draw with
 |false=>exact xn (T5 hk ro E hI w0 nt Q H U a w hd hS fun s' a' w' k hp=>hQ .normal s' a' w' ⟨rfl,k⟩ hp)
 |true=>
  simp only at hk;rw[BF] at hk;have hfl:pv all (k9 all.toList)=true:=hfl.resolve_left (by simp);have hflow:=Dv hfl;obtain⟨recs,s',e1,e2,e3,e4,hfr',lg,hlg,hk⟩:=T6 hS.fr hk;simp only[List.reverse_nil,lF] at hk;obtain⟨hk,hcf⟩:=CU hk;have hlen:all.toList.length=all.size:=by simp
  let D:Nat->Option Nat:=fun i=>(all[i]?).bind (·.dst)
  have hD:∀i o,all[i]?=some o->D i=o.dst:=fun i o ho=>by simp[D,ho]
  have hD':∀i o,all.toList[i]?=some o->D i=o.dst:=fun i o ho=>hD i o (by simpa using ho);have zf:=ME e1 D hD' s.tm s.h;rw[hlen] at zf;have htk:(all.toList.zip recs).take all.size=all.toList.zip recs:=ay (by simp[e1]);have hall:=zf all.size (ah _);rw[htk] at hall;rw[hall.1] at e3;rw[hall.2] at e4;have t1:jB D (fun i=>recs.getD i default) all.size (fun j=>decide (j<all.size)) s.tm=jB D (fun i=>recs.getD i default) all.size (fun _=>true) s.tm :=
   funext fun t=>mZ fun i hi hne=>by have:=List.mem_range.1 hi;simp[this] at hne
  have t2:jC (fun i=>recs.getD i default) all.size (fun j=>decide (j<all.size)) s.h=jC (fun i=>recs.getD i default) all.size (fun _=>true) s.h :=
   funext fun t=>mZ fun i hi hne=>by have:=List.mem_range.1 hi;simp[this] at hne
  rw[t1] at e3;rw[t2] at e4;have hrec:∀i,i<all.size->recs[i]?=some (recs.getD i default):=fun i hi=>by
   have:i<recs.length:=by omega
   simp[this]
  refine NZ X.hm (Np (tm:=s.tm) (h:=s.h) hI hd hflow hD (fun i=>recs.getD i default) (fun i o ho=>?_) (fun i j hi hj=>?_) all.size _ (fun _=>false) H U a _ (fun j hj=>?_) ?_ ?_ ?_ ?_ fun H' U' a' w' h1 h2 h3 h4 h5=>hQ .normal s' a' w' ⟨rfl,hk⟩ ⟨H',U',h1,BLeP.of h2,⟨by rw[e3,e4];exact h3,h4,hS.sm.trans h5,hfr'⟩,?_⟩)
  . have hlt:i<all.size:=(Array.getElem?_eq_some_iff.1 ho).1;have:=e2 i o _ (by simpa using ho) (hrec i hlt);rw[(zf i (by omega)).1,(zf i (by omega)).2] at this;exact this
  . have hi':(recs.map Prod.snd)[i]?=some (recs.getD i default).2:=by rw[bI,hrec i hi];rfl
    have hj':(recs.map Prod.snd)[j]?=some (recs.getD j default).2:=by rw[bI,hrec j hj];rfl
    rw[hlg,bI] at hi' hj';obtain⟨p,hp,hp2⟩:=Option.map_eq_some_iff.1 hi';obtain⟨q,hq,hq2⟩:=Option.map_eq_some_iff.1 hj';have:=hcf i p hp j q hq;rw[a8] at this;refine this.imp (fun x=>x) fun hh y hy=>?_;rw[<-hq2];rw[<-hp2,tF] at hy;exact hh y hy _
  . simp[hj]
  . exact bf (xo _ _) (by simp)
  . intro j o _ h;cases h
  . have z1:jB D (fun i=>recs.getD i default) all.size (fun _=>false) s.tm=s.tm:=funext fun t=>rj fun _ _=>rfl;have z2:jC (fun i=>recs.getD i default) all.size (fun _=>false) s.h=s.h:=funext fun t=>rj fun _ _=>rfl;rw[z1,z2];exact⟨hS.st.sim.sm rfl rfl rfl rfl,hS.st.slot,hS.st.size⟩
  . exact hS.mks.keep fun _ _=>rfl
  exact fun Dd hD=>h5 Dd hD
def pE(X:EX)(all:Array Oper):List Oper->(Nat->ES)->Hp->Nat->(SS->Prop)->Prop
 | [],tm,h,nx,K=>K ⟨tm,h,nx⟩
 |o::os,tm,h,nx,K=>match jA all tm o with
  |some false=>pE X all os (dz tm o.dst .und) h nx K
  |none=>False
  |some true=>match o.op with
   | .next x false=>match am tm x with
    | .w (.one (.ptr gi 0 0))=>∃gm since seen last cur es ck,h gi=some (.iter gm since seen last cur)/\h gm=some (.map es ck)/\(nw since es&&(lZ seen||(lZ es||nu last es)))=true/\
     (fT seen es=[]->pE X all os (dz tm o.dst (.tup [.one (.iv (.bool false))])) h nx K)/\
     ∀e∈fT seen es,pE X all os (dz tm o.dst (.tup [.one (.iv (.bool true)),e.1,e.2.1])) (az h gi (some (.iter gm since (e.2.2::seen) ck (some e.2.2)))) nx K
    |_=>False
   | .entry x=>∃r,rD h (am tm x)=some (r,[])/\lQ r fun r=>pE X all os (dz tm o.dst r) h nx K
   |op=>qq X nx op tm h fun r ws b _=>bJ (nx+b) fun nx=>pE X all os (dz tm o.dst r) (bw h ws) nx K
def Kp{all:Array Oper}{K:SS->Prop}:∀(os:List Oper) (tm:Nat->ES) (h:Hp) (nx:Nat),pE X all os tm h nx K=kZ X all os ⟨tm,h,nx⟩ K
 | [],_,_,_=>rfl
 |o::os,tm,h,nx=>by
  unfold pE kZ;simp only[Kp os]<;>rfl
def wx(X:EX)(all:Array Oper):List Oper->(Nat->ES)->Hp->Nat->List (Wr×Option (List Nat))->(SS->List (Wr×Option (List Nat))->Prop)->Prop
 | [],tm,h,nx,log,K=>K ⟨tm,h,nx⟩ log.reverse
 |o::os,tm,h,nx,log,K=>pa (gd all o) fun l=>match jA all (ka l tm) o with
  |some false=>wx X all os (dz tm o.dst .und) h nx (([],some [])::log) K
  |none=>False
  |some true=>qq X nx o.op (ka l tm) h fun r ws b fp=>bJ (nx+b) fun nx=>wx X all os (dz tm o.dst r) (bw h ws) nx ((ws,fp)::log) K
def Kq{all:Array Oper}{K:SS->List (Wr×Option (List Nat))->Prop}:∀(os:List Oper) (tm:Nat->ES) (h:Hp) (nx:Nat) (log:List (Wr×Option (List Nat))),wx X all os tm h nx log K=om X all os ⟨tm,h,nx⟩ log K
 | [],_,_,_,_=>rfl
 |o::os,tm,h,nx,log=>by
  unfold wx om;rw[BF];simp only[Kq os]<;>rfl
def EC(X:EX)(all:Array Oper)(draw:Bool)(s:SS)(K:SS->Prop):Prop :=
 match s,draw with
 |⟨tm,h,nx⟩,false=>pE X all all.toList tm h nx K
 |⟨tm,h,nx⟩,true=>pa (k9 all.toList) fun tab=>wx X all all.toList tm h nx [] fun s' log=>tR tab log log 0 (K s')
def Tx{all:Array Oper}{draw:Bool}{s:SS}{K:SS->Prop}:EC X all draw s K=EU X all draw s K:=by
 cases s with
 |mk tm h nx=>
  cases draw with
  |false=>exact Kp _ _ _ _
  |true=>
   show(pa _ _)=(pa _ _);simp only[Kq]
def SW.R{rd:Bool}{nt id:Nat}{all:Array Oper}{draw:Bool}{s:SS}{K:Exit->SS->Prop}(hk:EC X all draw s (K .normal))(h0:zu nt all draw=true:=by kernel_rfl):SW X nP rd nt (.region id all draw) s K :=
 (Tw h0 (Tx▸hk)).mono fun e s h=>by obtain⟨rfl,h⟩:=h;exact h
def SW.RS{rd:Bool}{nt id:Nat}{all:Array Oper}{draw:Bool}{y:Code}{s:SS}{K:Exit->SS->Prop}(hk:EC X all draw s fun s'=>SW X nP rd nt y s' K)(h0:zu nt all draw=true:=by kernel_rfl):SW X nP rd nt (.seq (.region id all draw) y) s K :=
 SW.seq (SW.R hk h0)
def Nl(X:EX)(nP:Nat)(rd:Bool)(nt:Nat)(s:SS)(K:Exit->SS->Prop):Code->Option Prop
 | .seq x y=>some (SW X nP rd nt x s (sK X nP rd nt y K))
 | .block id c=>some (SW X nP rd nt c s (sB id K))
 | .skip=>some (K .normal s)
 | .label _=>some (K .normal s)
 | .ret=>some (K .ret s)
 | .exit id=>some (K (.exit id) s)
 | .cond c x y=>match am s.tm c with
  | .w (.one (.iv (.bool true)))=>some (SW X nP rd nt x s K)
  | .w (.one (.iv (.bool false)))=>some (SW X nP rd nt y s K)
  |_=>none
 |_=>none
def SW.c{rd:Bool}{nt:Nat}{s:SS}{K:Exit->SS->Prop}{c:Code}{P:Prop}(h:P)(e:Nl X nP rd nt s K c=some P:=by exact rfl):SW X nP rd nt c s K:=by
 unfold Nl at e;split at e
 . cases e;exact SW.seq h
 . cases e;exact SW.block h
 . cases e;exact SW.skip h
 . cases e;exact SW.label h
 . cases e;exact SW.ret h
 . cases e;exact SW.exit h
 .
  split at e
  . rename_i hc;cases e;exact SW.condT hc h
  . rename_i hc;cases e;exact SW.condF hc h
  cases e
 cases e
end
def bv:EV->List Nat
 | .ptr g _ _=>[g]
 | .slc g _ _ _ _=>[g]
 | .clo _ gs=>gs
 | .yld g=>[g]
 | .mp g=>[g]
 |_=>[]
def eM:EW->List Nat
 | .one c=>bv c
 | .agg cs=>cs.flatMap bv
 | .q _ _=>[]
def fP:ES->List Nat
 | .w x=>eM x
 | .tup xs=>xs.flatMap eM
 |_=>[]
def mj(V:Nat->Nat):EV->EV
 | .ptr g u o=>.ptr (V g) u o
 | .slc g u o n c=>.slc (V g) u o n c
 | .clo f gs=>.clo f (gs.map V)
 | .yld g=>.yld (V g)
 | .mp g=>.mp (V g)
 |x=>x
def je(V:Nat->Nat):EW->EW
 | .one c=>.one (mj V c)
 | .agg cs=>.agg (cs.map (mj V))
 | .q n d=>.q n d
def jf(V:Nat->Nat):ES->ES
 | .w x=>.w (je V x)
 | .tup xs=>.tup (xs.map (je V))
 |x=>x
def fy(V:Nat->Nat):EO->EO
 | .mem e cs fz vs cnt=>.mem e (cs.map (mj V)) fz vs cnt
 | .map es ck=>.map (es.map fun e=>(je V e.1,je V e.2.1,e.2.2)) ck
 | .iter gm since seen last cur=>.iter (V gm) since seen last cur
 |o=>o
def Da(V:Nat->Nat)(o:EO):(fy V o).cnt=o.cnt:=by cases o<;>rfl
def C9{V:Nat->Nat}{o:EO}:fy V o=.hid↔o=.hid:=by cases o<;>simp[fy]
def OIds(P:Nat->Prop)(V:Nat->Nat):EO->Prop
 | .mem _ cs _ vs _=>∀u p,(u,p)∈vs->∀i∈(cs.take p).flatMap bv,P i
 | .map es _=>∀e∈es,(∀i∈eM e.1,P i)/\∀i∈eM e.2.1,P i
 | .iter gm _ _ _ _=>P gm
 | .loop _ _ tm _ _ _=>∀t,∀i∈fP (tm.sl t),P i/\V i=i
 | .hid=>True
section
variable {Z:QS}{H H':ak}{U U':Bm}{V:Nat->Nat}
def CR.rn{v:Value}:∀{x:EV},(∀i∈bv x,∀u,U' (V i) u=U i u)->(CR Z H U v x↔CR Z H U' v (mj V x))
 | .iv _,_=>gC
 | .qc _ _ _,_=>gC
 | .ptr g u off,hb=>by show(∃k,U g u=some k/\_)↔∃k,U' (V g) u=some k/\_;rw[hb g (by simp[bv])]
 | .slc g u off n cap,hb=>by show(∃k c,U g u=some k/\_)↔∃k c,U' (V g) u=some k/\_;rw[hb g (by simp[bv])]
 | .clo f gs,hb=>by
  have hb:∀i∈gs,∀u,U' (V i) u=U i u:=hb;have e1:(∀g∈gs,∃k,U g 0=some k)↔∀g∈gs.map V,∃k,U' g 0=some k:=by
   simp only[xj,forall_exists_index,and_imp,forall_apply_eq_imp_iff₂];exact⟨fun h g hg=>by rw[hb g hg];exact h g hg,fun h g hg=>by rw[<-hb g hg];exact h g hg⟩
  have e2:gs.map (io U)=(gs.map V).map (io U'):=by
   rw[cC];exact jI fun g hg=>by unfold io;simp only[Function.comp];rw[hb g hg]
  show(_/\v=.func (.func f) #[] (gs.map (io U)).toArray)↔(_/\v=.func (.func f) #[] ((gs.map V).map (io U')).toArray);rw[e2,e1]
 | .yld g,hb=>by show(∃k,U g 0=some k/\_)↔∃k,U' (V g) 0=some k/\_;rw[hb g (by simp[bv])]
 | .mp g,hb=>by show(∃k,U g 0=some k/\_)↔∃k,U' (V g) 0=some k/\_;rw[hb g (by simp[bv])]
 | .dp _ _,_=>gC
 | .cd _ _,_=>gC
def CRL.rn:∀{vs:List Value} {xs:List EV},(∀i∈xs.flatMap bv,∀u,U' (V i) u=U i u)->(CRL Z H U vs xs↔CRL Z H U' vs (xs.map (mj V)))
 | [],[],_=>gC
 |v::vs,x::xs,hb=>by
  have h1:=CR.rn (Z:=Z) (H:=H) (v:=v) (x:=x) (U:=U) (U':=U') (V:=V) fun i hi=>hb i (by simp[hi]);have h2:=CRL.rn (vs:=vs) (xs:=xs) fun i hi=>hb i (by simp at hi ⊢;exact .inr hi);show(_/\_)↔(_/\_);rw[h1,h2]
 | [],_::_,_=>gC
 |_::_,[],_=>gC
def WR.rn{v:Value}{x:EW}(hb:∀i∈eM x,∀u,U' (V i) u=U i u):WR Z H U v x↔WR Z H U' v (je V x):=by
 cases x with
 |one c=>exact CR.rn hb
 |agg cs=>
  have h:=fun vs=>CRL.rn (Z:=Z) (H:=H) (vs:=vs) (xs:=cs) hb;exact⟨fun⟨vs,e,k⟩=>⟨vs,e,(h vs).1 k⟩,fun⟨vs,e,k⟩=>⟨vs,e,(h vs).2 k⟩⟩
 |q n d=>exact gC
def WRL.rn:∀{vs:List Value} {xs:List EW},(∀i∈xs.flatMap eM,∀u,U' (V i) u=U i u)->(WRL Z H U vs xs↔WRL Z H U' vs (xs.map (je V)))
 | [],[],_=>gC
 |v::vs,x::xs,hb=>by
  have h1:=WR.rn (Z:=Z) (H:=H) (v:=v) (x:=x) (U:=U) (U':=U') (V:=V) fun i hi=>hb i (by simp[hi]);have h2:=WRL.rn (vs:=vs) (xs:=xs) fun i hi=>hb i (by simp at hi ⊢;exact .inr hi);show(_/\_)↔(_/\_);rw[h1,h2]
 | [],_::_,_=>gC
 |_::_,[],_=>gC
def SRe.rn{v:Value}{x:ES}(hb:∀i∈fP x,∀u,U' (V i) u=U i u):SRe Z H U v x↔SRe Z H U' v (jf V x):=by
 cases x with
 |unk=>exact gC
 |und=>exact gC
 |w x=>exact WR.rn hb
 |tup xs=>
  have h:=fun vs=>WRL.rn (Z:=Z) (H:=H) (vs:=vs) (xs:=xs) hb;exact⟨fun⟨vs,e,k⟩=>⟨vs,e,(h vs).1 k⟩,fun⟨vs,e,k⟩=>⟨vs,e,(h vs).2 k⟩⟩
def SREL.rn:∀{vs:List Value} {xs:List ES},(∀i∈xs.flatMap fP,∀u,U' (V i) u=U i u)->(SREL Z H U vs xs↔SREL Z H U' vs (xs.map (jf V)))
 | [],[],_=>gC
 |v::vs,x::xs,hb=>by
  have h1:=SRe.rn (Z:=Z) (H:=H) (v:=v) (x:=x) (U:=U) (U':=U') (V:=V) fun i hi=>hb i (by simp[hi]);have h2:=SREL.rn (vs:=vs) (xs:=xs) fun i hi=>hb i (by simp at hi ⊢;exact .inr hi);show(_/\_)↔(_/\_);rw[h1,h2]
 | [],_::_,_=>gC
 |_::_,[],_=>gC
def MRL.rn:∀{vs:List MapEntry} {xs:List (EW×EW×Nat)},(∀e∈xs,(∀i∈eM e.1,∀u,U' (V i) u=U i u)/\∀i∈eM e.2.1,∀u,U' (V i) u=U i u)->(MRL Z H U vs xs↔MRL Z H U' vs (xs.map fun e=>(je V e.1,je V e.2.1,e.2.2)))
 | [],[],_=>gC
 |v::vs,x::xs,hb=>by
  have h1:=WR.rn (Z:=Z) (H:=H) (v:=v.key) (U:=U) (U':=U') (V:=V) (hb x (by simp)).1;have h2:=WR.rn (Z:=Z) (H:=H) (v:=v.val) (U:=U) (U':=U') (V:=V) (hb x (by simp)).2;have h3:=MRL.rn (vs:=vs) (xs:=xs) fun e he=>hb e (by simp[he]);show((_/\_/\_)/\_)↔((_/\_/\_)/\_);rw[h1,h2,h3]
 | [],_::_,_=>gC
 |_::_,[],_=>gC
variable {P:Nat->Prop}
def OR.rn{own:Nat->Prop}{w:World}{g g':Nat}{o:EO}(hg:∀u,U' g' u=U g u)(hi:OIds P V o)(hP:∀i,P i->∀u,U' (V i) u=U i u):OR Z own w H U g o↔OR Z own w H U' g' (fy V o):=by
 cases o with
 |mem e cs fz vs cnt=>
  show(_/\_)↔(_/\_);have hc:∀(arr:Array Value) u p,(u,p)∈vs->(CRL Z H U (arr.toList.take p) (cs.take p)↔CRL Z H U' (arr.toList.take p) ((cs.map (mj V)).take p)):=fun arr u p hup=>by
   rw[<-F4];exact CRL.rn fun i hi'=>hP i (hi u p hup i hi')
  refine⟨fun h=>⟨fun hf u k hk=>h.1 hf u k (by rw[<-hg];exact hk),fun u p hup=>?_⟩,fun h=>⟨fun hf u k hk=>h.1 hf u k (by rw[hg];exact hk),fun u p hup=>?_⟩⟩
  . obtain⟨h1,k,arr,h2,h3,h4,h5,h6,h7,h8,h9⟩:=h.2 u p hup;exact⟨h1,k,arr,by rw[hg];exact h2,h3,h4,h5,h6,by rw[aV];exact h7,h8,(hc arr u p hup).1 h9⟩
  obtain⟨h1,k,arr,h2,h3,h4,h5,h6,h7,h8,h9⟩:=h.2 u p hup;exact⟨h1,k,arr,by rw[<-hg];exact h2,h3,h4,h5,h6,by rw[aV] at h7;exact h7,h8,(hc arr u p hup).2 h9⟩
 |map es ck=>
  have hm:=fun ents=>MRL.rn (Z:=Z) (H:=H) (vs:=ents) (xs:=es) (U:=U) (U':=U') (V:=V) fun e he=>⟨fun i hi'=>hP i ((hi e he).1 i hi'),fun i hi'=>hP i ((hi e he).2 i hi')⟩;show(∃k ents,U g 0=some k/\_)↔∃k ents,U' g' 0=some k/\_;rw[hg];exact⟨fun⟨k,ents,h1,h2,h3,h4,h5⟩=>⟨k,ents,h1,h2,h3,h4,(hm _).1 h5⟩,fun⟨k,ents,h1,h2,h3,h4,h5⟩=>⟨k,ents,h1,h2,h3,h4,(hm _).2 h5⟩⟩
 |iter gm since seen last cur=>
  show(∃k km sn,U g 0=some k/\U gm 0=some km/\_)↔∃k km sn,U' g' 0=some k/\U' (V gm) 0=some km/\_;rw[hg,hP gm hi]
 |loop busy nt tm ps assign body=>
  show(∃k L,U g 0=some k/\_)↔∃k L,U' g' 0=some k/\_;rw[hg];have hs:∀(t:Nat) (v:Value),SRe Z H U v (tm.sl t)↔SRe Z H U' v (tm.sl t):=fun t v=>by
   have h1:=SRe.rn (Z:=Z) (H:=H) (v:=v) (x:=tm.sl t) (U:=U) (U':=U') (V:=fun i=>i) fun i hi'=>by
    have:=hP i (hi t i hi').1;rwa[(hi t i hi').2] at this
   have h2:∀x:EV,mj (fun i=>i) x=x:=fun x=>by cases x<;>simp[mj]
   have h2':mj (fun i=>i)=id:=funext h2;have h3:∀x:EW,je (fun i=>i) x=x:=fun x=>by cases x<;>simp[je,h2']
   have h3':je (fun i=>i)=id:=funext h3;have h4:∀x:ES,jf (fun i=>i) x=x:=fun x=>by cases x<;>simp[jf,h3']
   rwa[h4] at h1
  exact⟨fun⟨k,L,h1,h2,h3,h4,h5,h6,h7,h8,h9,h10,h11⟩=>⟨k,L,h1,h2,h3,h4,h5,h6,h7,h8,h9,h10,fun t=>(hs t _).1 (h11 t)⟩,fun⟨k,L,h1,h2,h3,h4,h5,h6,h7,h8,h9,h10,h11⟩=>⟨k,L,h1,h2,h3,h4,h5,h6,h7,h8,h9,h10,fun t=>(hs t _).2 (h11 t)⟩⟩
 |hid=>exact gC
end
structure Ren(h h':Hp)(Y:Nat->Option Nat)(V:Nat->Nat):Prop where
 inj:∀g g' x,Y g=some x->Y g'=some x->g=g'
 get:∀g g0,Y g=some g0->h' g=(h g0).map (fy V)
 non:∀g,Y g=none->h' g=none
 ids:∀g g0 o,Y g=some g0->h g0=some o->OIds (fun i=>Y (V i)=some i) V o
def ESim.rn{Z:QS}{E:EEnv}{H:ak}{U:Bm}{h h':Hp}{w:World}{Y:Nat->Option Nat}{V:Nat->Nat}(hS:ESim Z E H U h w)(R:Ren h h' Y V)(hE:∀g,E.hid g->Y g=some g) :
 ∃ U',(∀g g0,Y g=some g0->∀u,U' g u=U g0 u)/\ESim Z E H U' h' w:=by
 obtain⟨U',hβ'⟩:∃ U':Bm,∀g u,U' g u=match Y g with|some g0=>U g0 u|none=>none:=⟨_,fun _ _=>rfl⟩
 have hβ:∀g g0,Y g=some g0->∀u,U' g u=U g0 u:=fun g g0 e u=>by rw[hβ',e]
 refine⟨U',hβ,hS.has,hS.below,hS.lo,hS.ext,fun g o hg=>?_,fun g u k hk=>?_,fun g1 g2 u1 u2 k1 k2 e1 e2 he=>?_,fun g hg=>?_⟩
 .
  cases hσ:Y g with
  |none=>rw[R.non g hσ] at hg;cases hg
  |some g0=>
   rw[R.get g g0 hσ] at hg;cases ho:h g0 with
   |none=>rw[ho] at hg;cases hg
   |some o0=>
    rw[ho] at hg;simp only[fE,ai] at hg;subst hg;exact(OR.rn (hβ g g0 hσ) (R.ids g g0 o0 hσ ho) fun i hi u=>hβ _ _ hi u).1 (hS.obj g0 o0 ho)
 .
  cases hσ:Y g with
  |none=>rw[hβ',hσ] at hk;cases hk
  |some g0=>
   rw[hβ g g0 hσ] at hk;obtain⟨a,o,b,c⟩:=hS.dom g0 u k hk;exact⟨a,fy V o,by rw[R.get g g0 hσ,b];rfl,c.imp (fun e=>C9.2 e) fun c=>⟨c.1,by rw[Da];exact c.2⟩⟩
 .
  cases h1:Y g1 with
  |none=>rw[hβ',h1] at e1;cases e1
  |some x1=>cases h2:Y g2 with
   |none=>rw[hβ',h2] at e2;cases e2
   |some x2=>
    rw[hβ g1 x1 h1] at e1;rw[hβ g2 x2 h2] at e2;have:=hS.inj _ _ _ _ _ _ e1 e2 he;subst this;exact R.inj g1 g2 x1 h1 h2
 have hs:=hE g hg;rw[R.get g g hs,(hS.hidb g hg).1];exact⟨rfl,fun u=>by rw[hβ g g hs];exact(hS.hidb g hg).2 u⟩
def ResR(Y:Nat->Option Nat)(rf r:ES):Prop:=∀(Z:QS) (H:ak) (U U':Bm) (v:Value),(∀g g0,Y g=some g0->∀u,U' g u=U g0 u)->SRe Z H U v rf->SRe Z H U' v r
def ResR.unk{Y:Nat->Option Nat}{r:ES}:ResR Y r .unk:=fun _ _ _ _ _ _ _=>trivial
def ResR.rn{Y:Nat->Option Nat}{V:Nat->Nat}{r:ES}(h:∀i∈fP r,Y (V i)=some i):ResR Y r (jf V r):=fun Z H U U' v hb hv=>(SRe.rn fun i hi=>hb _ _ (h i hi)).1 hv
section
variable {X:EX}{nP:Nat}{rd:Bool}{nt:Nat}{s:SS}{K:Exit->SS->Prop}
def WT{c:Code}{s':SS}{Y:Nat->Option Nat}{V:Nat->Nat}(R:Ren s.h s'.h Y V)(ht:∀t,ResR Y (s.tm t) (s'.tm t))(hp:∀g,g<nP->Y g=some g)(hf:s'.fr)(h:SW X nP rd nt c s' K):SW X nP rd nt c s K:=fun ro hro E hI hh w0 H U a w Q hS hQ=>by
 obtain⟨U',k1,k2⟩:=hS.st.sim.rn R fun g hg=>hp g (hh g hg);refine h ro hro E hI hh w0 H U' a w Q ⟨⟨k2,fun t=>ht t _ _ _ _ _ k1 (hS.st.slot t),hS.st.size⟩,hS.mks,hS.sm,hf⟩ fun e s2 a' w' k hp'=>hQ e s2 a' w' k ?_;obtain⟨H2,β2,j1,j2,j3,j4⟩:=hp';exact⟨H2,β2,j1,fun g u k hg hk=>j2 g u k hg (by rw[k1 g g (hp g hg)];exact hk),j3,j4⟩
end
def argS(args:List ES)(t:Nat):ES:=args.getD t .und
def Vo{Z:QS}{H:ak}{U:Bm}{args:List ES}{vs:List Value}{n:Nat}(hv:SREL Z H U vs args):∀t,SRe Z H U ((vs.toArray++Array.replicate (n-vs.toArray.size) undef).getD t undef) (argS args t):=fun t=>by
 have hlen:=hv.length;by_cases ht:t<args.length
 .
  obtain⟨v,h1,h2⟩:=hv.get t (args[t]) (by simp[ht]);have hlt:t<vs.length:=by omega
  have:(vs.toArray++Array.replicate (n-vs.toArray.size) undef).getD t undef=v:=by
   simp[jO,hlt];exact(List.getElem?_eq_some_iff.1 h1).2
  rw[this];have e2:argS args t=args[t]:=by simp[argS,ht]
  rw[e2];exact h2
 have e2:argS args t=.und:=by simp[argS,ht]
 rw[e2];show _=undef;have hge:¬t<vs.length:=by omega
 simp[jO,hge,xq];split<;>rfl
def kh(X:EX)(rs:List ResultVar)(F:Hp->ES->Prop):Exit->SS->Prop
 | .normal,s=>match g7 X.T X.Z s.tm s.h rs with
  |some xs=>F s.h (kj xs)
  |none=>False
 | .ret,s=>match g7 X.T X.Z s.tm s.h rs with
  |some xs=>F s.h (kj xs)
  |none=>False
 |_,_=>False
def QC{X:EX}{rs:List ResultVar}{F:Hp->ES->Prop}{e:Exit}{s:SS}(h:kh X rs F e s):(e=.normal\/e=.ret)/\∃xs,g7 X.T X.Z s.tm s.h rs=some xs/\F s.h (kj xs):=by
 cases e with
 |normal=>
  simp only[kh] at h;split at h
  . exact⟨.inl rfl,_,by assumption,h⟩
  exact h.elim
 |ret=>
  simp only[kh] at h;split at h
  . exact⟨.inr rfl,_,by assumption,h⟩
  exact h.elim
 |_=>exact h.elim
section
variable {X:EX}{nP:Nat}
def EN{f:FuncId}{fn:Func}{c:Code}(hf:X.P.funcs[f]?=some fn)(hb:fn.body=some c){args:List ES}(hx:args.length<=fn.ntmps){h:Hp}{nx:Nat}(hfr:∀g,nx<=g->h g=none){F:Hp->ES->Prop}
 (hw:SW X nP false fn.ntmps c ⟨argS args,h,nx⟩ (kh X fn.results.toList F)) {E:EEnv} (hI:∀w',BelowO E.own E.w0 w'->X.I w') (hh:∀g,E.hid g->g<nP) {H:ak} {U:Bm} {w:World} {vs:List Value} (hS:ESim X.Z E H U h w) (hv:SREL X.Z H U vs args) {R:Ending->World->Prop}
 (hR:∀v H' U' hp' rf w',HLe H H'->BLeP nP U U'->ESim X.Z E H' U' hp' w'->MarkSame w w'->SRe X.Z H' U' v rf->F hp' rf->R (.returned v) w'):Calls X.P f vs.toArray w R:=by
 have hlen:=hv.length;refine(xk (n:=0)).1 (xp hf hb trivial ?_);refine hw none (fun _=>rfl) E hI hh w H U _ w _ ⟨⟨hS,Vo hv,?_⟩,MarksOk.nil _ _,MarkSame.refl _,hfr⟩ fun e s1 a0 w1 hk hp=>?_
 . show(vs.toArray++Array.replicate (fn.ntmps-vs.toArray.size) undef).size=fn.ntmps;simp;omega
 obtain⟨H1,β1,p1,p2,p3,p4⟩:=hp;obtain⟨hne,xs,hr,hF⟩:=QC hk;have fin:LeavesInM (FW none) 0 X.P fn a0.tmps R a0.defers .returning w1:=by
  refine Dn a0.defers p3.st.sim p3.mks p3.sm fun w' hS' hm'=>?_;obtain⟨us,e1,Vz9⟩:=yQ hS' p3.st.slot hr;refine⟨(if h:us.toArray.size=1 then us.toArray[0] else .tuple us.toArray),?_,hR _ H1 β1 s1.h (kj xs) w' p1 p2 hS' hm' (Ks Vz9) hF⟩;unfold results;have e0:(fn.results.mapM fun | .tmp t=>pure (a0.tmps.getD t undef) | .cell a t=>do loadVar t (<- asAddr (a0.tmps.getD a undef)):Sem (Array Value))=List.toArray <$> fn.results.toList.mapM (nn a0.tmps):=by
   rw[FL];rfl
  refine(aL (fun(x:Sem (Array Value))=>(x >>= fun vs=>pure (if h:vs.size=1 then vs[0] else .tuple vs)).run X.P w') e0).trans ?_;simp only[aw,FM,e1,av,aA]
 rcases hne with rfl|rfl
 . exact fin
 exact fin
def WRL.data{Z:QS}{H:ak}{U:Bm}:∀{vs:List Value} {xs:List IV},(xs.all fun x=>!x.isTup)=true->WRL Z H U vs (xs.map dW)->VRL H vs xs
 | [],[],_,_=>.nil
 |v::vs,x::xs,hn,⟨h1,h2⟩=>by
  simp only[dl,aH,gz] at hn;refine VRL.cons _ _ _ _ (DL (Z:=Z) (U:=U) ?_ hn.1) (WRL.data hn.2 h2);have e:dS x=.w (dW x):=by cases x<;>first|rfl|simp[IV.isTup] at hn
  rw[e];exact h1
 | [],_::_,_,h=>h.elim
 |_::_,[],_,h=>h.elim
def SN{Z:QS}{H:ak}{U:Bm}{v:Value}{x:IV}(h:SRe Z H U v (dS x))(ht:qt x=true):VR H v x:=by
 cases hx:x.isTup with
 |false=>exact DL h hx
 |true=>
  cases x<;>first|(simp[IV.isTup] at hx;done)|skip
  rename_i xs;obtain⟨vs,rfl,h1⟩:=h;exact .tup vs xs (WRL.data ht h1)
def SREL.ofData{H:ak}{U:Bm}:∀{vs:List Value} {xs:List IV},VRL H vs xs->kO xs=true->SREL X.Z H U vs (xs.map dS)
 |_,_,.nil,_=>trivial
 |_,_,.cons v x vs xs h t,hn=>by
  simp only[kO,dl,aH,gz] at hn;exact⟨Al h hn.1,SREL.ofData t hn.2⟩
def W9(hbel:∀n w w',X.I w->w.heap.size<=n->Below n w w'->X.I w'){f:FuncId}{fn:Func}{c:Code}(hf:X.P.funcs[f]?=some fn)(hb:fn.body=some c)(hn:(fn.name == "runtime.NumGoroutine")=false){xs:List IV}{r:IV}(hx:Nat.ble xs.length fn.ntmps=true)(hxt:kO xs=true)(hrt:qt r=true)
 (hw:SW X 0 false fn.ntmps c ⟨argS (xs.map dS),fun _=>none,0⟩ (kh X fn.results.toList fun _ rf=>rf=dS r)):aW X.P X.I f xs r:=by
 refine⟨⟨fn,hf,hn,by rw[hb];rfl⟩,fun H w args hIw hH hv=>?_⟩;have hS:ESim X.Z ⟨fun k=>w.heap.size<=k,w,H,fun _=>False,fun _ _=>none⟩ H (fun _ _=>none) (fun _=>none) w :=
  ⟨hH,BelowO.refl _ _,fun k hk=>hk,HExtO.refl _ _,fun g o h=>(by cases h),fun g u k h=>(by cases h),fun g g' u u' k k' h=>(by cases h),fun g h=>h.elim⟩
 refine EN hf hb (by simpa using bl hx) (fun _ _=>rfl) hw (fun w' hb'=>hbel _ w w' hIw (ah _) hb'.below) (fun _ (h:False)=>h.elim) hS (SREL.ofData hv hxt) fun v H' U' hp' rf w' h1 h2 h3 h4 h5 h6=>?_;subst h6;exact⟨v,H',rfl,h3.has,h3.ext,SN h5 hrt,h3.below.below⟩
end
def xQ{Z:QS}{H:ak}{U:Bm}{sz:Nat}:∀{es:List IV} {us:List Value},b7 sz es=true->CRL Z H U us ((es.flatMap IV.cells).map .iv)->∃vs,VRL H vs es/\aX vs=us/\∀v∈vs,v.cells.size=sz
 | [],us,_,h=>by
  cases us with
  |nil=>exact⟨[],.nil,rfl,by simp⟩
  |cons=>exact h.elim
 |x::es,us,hs,h=>by
  simp only[b7,dl,aH,gz] at hs;obtain⟨⟨h1,h2⟩,h3⟩:=hs;have h1:=aB h1;rw[cO,dD] at h;have hl:=h.length;have ht:=h.take sz;have hd:=h.drop sz;have hxl:(x.cells.map EV.iv).length=sz:=by simp[h1]
  rw[jJ (by omega),show(x.cells.map EV.iv).take sz=x.cells.map EV.iv from ay (by omega)] at ht;rw[YW (by omega),show(x.cells.map EV.iv).drop sz=[] from oE (by omega),lF] at hd;obtain⟨vs,k1,k2,k3⟩:=xQ (es:=es) h3 hd;obtain⟨t1,t2⟩:=vU ht;have hv:∃v,VR H v x/\v.cells.toList=us.take sz:=by
   cases hx:x.isAgg with
   |true=>
    cases x<;>first|(simp[IV.isAgg] at hx;done)|skip
    rename_i cs;exact⟨.agg (us.take sz).toArray,.agg _ _ t1 t2,by simp[Value.cells]⟩
   |false=>
    have e:x.cells=[x]:=by cases x<;>first|rfl|simp[IV.isAgg] at hx
    rw[e] at t1;obtain⟨v,hv,hvx⟩:∃v,us.take sz=[v]/\VR H v x:=by
     generalize us.take sz=l at t1;cases t1 with
     |cons v _ l _ a b=>cases b;exact⟨v,rfl,a⟩
    refine⟨v,hvx,?_⟩;rw[hv];have:v.oneCell'=true:=t2 v (by rw[hv];simp);rw[(VR.of_one hvx this).1]
  obtain⟨v,hvx,hvc⟩:=hv;refine⟨v::vs,.cons _ _ _ _ hvx k1,?_,fun u hu=>?_⟩
  . show v.cells.toList++aX vs=us;rw[hvc,k2,kC]
  rcases List.mem_cons.1 hu with rfl|hu
  . rw[<-h1,hvx.size]
  exact k3 u hu
def ESim.freeze{Z:QS}{E:EEnv}{H:ak}{U:Bm}{h:Hp}{w:World}(hS:ESim Z E H U h w){g u p:Nat}{e:TypeId}{cs:List EV}{vs:List (Nat×Nat)}{cnt:Nat}(hg:h g=some (.mem e cs false vs cnt))(hv:(u,p)∈vs) :
 ∃H' k arr,U g u=some k/\HLe H H'/\ESim Z E H' U (az h g (some .hid)) w/\H' k.1=some arr/\CRL Z H U (arr.toList.take p) (cs.take p)/\p<=cs.length/\p<=arr.size:=by
 obtain⟨hn,hall⟩:=hS.obj g _ hg;obtain⟨h1,k,arr,h2,h3,h4,h5,h6,h7,h8,h9⟩:=hall u p hv;simp only[dB,bM] at h4;have hsame:az H k.1 (some arr) k.1=some arr:=a6 _ _ _;have hle:HLe H (az H k.1 (some arr)):=fun b a ha=>by
  by_cases e':b=k.1
  . rw[e',h4] at ha;cases ha
  rw[aI _ _ _ e'];exact ha
 refine⟨az H k.1 (some arr),k,arr,h2,hle,⟨fun b a ha=>?_,hS.below,hS.lo,hS.ext.step (own':=fun b=>b=k.1) ⟨hle,fun b a ha=>?_⟩ (fun b hb=>by rw[hb];exact h3),fun g' o hg'=>?_,fun g' u' k' hk'=>?_,hS.inj,fun g' hg'=>?_⟩,hsame,h9,h7,h8⟩
 . by_cases e':b=k.1
   . rw[e',hsame] at ha;cases ha;rw[e'];exact⟨_,_,h5⟩
   rw[aI _ _ _ e'] at ha;exact hS.has b a ha
 . by_cases e':b=k.1
   . exact .inr e'
   rw[aI _ _ _ e'] at ha;exact .inl ha
 . by_cases e':g'=g
   . subst e';rw[a6] at hg';cases hg';trivial
   rw[aI _ _ _ e'] at hg';refine(hS.obj g' o hg').keep (fun _ _ _=>rfl) (fun u' k' hk' hn'=>?_) hle (BLe.refl _) (fun _=>rfl);rw[aI _ _ _ fun e2=>e' (hS.inj _ _ _ _ _ _ hk' h2 e2)];exact hn'
 . obtain⟨a,o,b,c⟩:=hS.dom g' u' k' hk';by_cases e':g'=g
   . subst e';exact⟨a,.hid,a6 _ _ _,.inl rfl⟩
   exact⟨a,o,by rw[aI _ _ _ e'];exact b,c⟩
 have hne:g'≠g:=fun e'=>by
  have:=(hS.hidb g' hg').1;rw[e',hg] at this;cases this
 exact⟨by rw[aI _ _ _ hne];exact(hS.hidb g' hg').1,(hS.hidb g' hg').2⟩
section
variable {X:EX}{nP:Nat}{rd:Bool}{nt:Nat}{s:SS}{K:Exit->SS->Prop}
end
def qk:List (Nat×ES)->Nat->ES
 | [],_=>.unk
 | (k,v)::l,t=>bif Nat.beq t k then v else qk l t
def dA:List (Nat×EO)->Hp
 | [],_=>none
 | (k,o)::l,g=>bif Nat.beq g k then some o else dA l g
def aR(l:List (Nat×ES))(m:List (Nat×EO))(nx:Nat):SS:=⟨qk l,dA m,nx⟩
def eY:List (Nat×Nat)->Nat->Nat
 | [],g=>g
 | (n,o)::r,g=>bif Nat.beq g n then o else eY r g
def js:List (Nat×Nat)->Nat->Nat
 | [],g=>g
 | (n,o)::r,g=>bif Nat.beq g o then n else js r g
def gu:List (Nat×EO)->Nat->Bool
 | [],_=>false
 | (k,_)::m,g=>Nat.beq g k||gu m g
def oe(r:List (Nat×Nat))(m:List (Nat×EO))(i:Nat):Bool:=gu m (js r i)&&Nat.beq (eY r (js r i)) i
def og(r:List (Nat×Nat))(m:List (Nat×EO))(g:Nat):Option Nat:=match gu m g with
 |true=>some (eY r g)
 |false=>none
def IG{r:List (Nat×Nat)}{m:List (Nat×EO)}{i:Nat}(h:oe r m i=true):og r m (js r i)=some i:=by
 simp only[oe,aH] at h;unfold og;rw[h.1,aB h.2]
def Af(p:Nat->Bool):EO->Bool
 | .mem _ cs _ _ _=>(cs.flatMap bv).all p
 | .map es _=>es.all fun e=>(eM e.1).all p&&(eM e.2.1).all p
 | .iter gm _ _ _ _=>p gm
 | .loop .. => false
 | .hid=>true
def fR:EO->Prop
 | .mem _ cs _ _ _=>cs.flatMap bv=[]
 | .map es _=>∀e∈es,eM e.1=[]/\eM e.2.1=[]
 | .iter .. => False
 | .loop .. => False
 | .hid=>True
def GP{V:Nat->Nat}:∀{x:EV},bv x=[]->mj V x=x
 | .clo f gs,h=>by
  have h:gs=[]:=h;subst h;rfl
 | .iv _,_=>rfl
 | .qc _ _ _,_=>rfl
 | .dp _ _,_=>rfl
 | .cd _ _,_=>rfl
 | .ptr _ _ _,h=>by cases h
 | .slc _ _ _ _ _,h=>by cases h
 | .yld _,h=>by cases h
 | .mp _,h=>by cases h
def Br{V:Nat->Nat}:∀{cs:List EV},cs.flatMap bv=[]->cs.map (mj V)=cs
 | [],_=>rfl
 |c::cs,h=>by
  simp only[cO,xK] at h;rw[aZ,GP h.1,Br h.2]
def xX{V:Nat->Nat}{x:EW}(h:eM x=[]):je V x=x:=by
 cases x with
 |one c=>rw[je,GP h]
 |agg cs=>rw[je,Br h]
 |q=>rfl
def GG{V:Nat->Nat}:∀{xs:List EW},xs.flatMap eM=[]->xs.map (je V)=xs
 | [],_=>rfl
 |c::cs,h=>by
  simp only[cO,xK] at h;rw[aZ,xX h.1,GG h.2]
def GQ{V:Nat->Nat}{x:ES}(h:fP x=[]):jf V x=x:=by
 cases x with
 |unk=>rfl
 |und=>rfl
 |w x=>rw[jf,xX h]
 |tup xs=>rw[jf,GG h]
def BI{V:Nat->Nat}{o:EO}(h:fR o):fy V o=o:=by
 cases o with
 |mem e cs fz vs cnt=>rw[fy,Br h]
 |map es ck=>
  rw[fy];congr 1;conv=>rhs;rw[<-F8 es]
  refine jI fun e he=>?_;rw[xX (h e he).1,xX (h e he).2];rfl
 |iter=>exact h.elim
 |loop=>exact h.elim
 |hid=>rfl
def uZ{cs:List EV}{p i:Nat}(h:i∈(cs.take p).flatMap bv):i∈cs.flatMap bv:=by
 obtain⟨c,hc,hi⟩:=List.mem_flatMap.1 h;exact List.mem_flatMap.2 ⟨c,dY hc,hi⟩
def x5{P:Nat->Prop}{V:Nat->Nat}{o:EO}(h:fR o):OIds P V o:=by
 cases o with
 |mem e cs fz vs cnt=>
  intro u p _ i hi;have hi:=uZ hi;have h:cs.flatMap bv=[]:=h;rw[h] at hi;cases hi
 |map es ck=>exact fun e he=>⟨fun i hi=>(by rw[(h e he).1] at hi;cases hi),fun i hi=>(by rw[(h e he).2] at hi;cases hi)⟩
 |iter=>exact h.elim
 |loop=>exact h.elim
 |hid=>trivial
def Ib{p:Nat->Bool}{P:Nat->Prop}{V:Nat->Nat}(hp:∀i,p i=true->P i){o:EO}(h:Af p o=true):OIds P V o:=by
 cases o with
 |mem e cs fz vs cnt=>exact fun u q _ i hi=>hp i (List.all_eq_true.1 h i (uZ hi))
 |map es ck=>
  intro e he;have:=List.all_eq_true.1 h e he;simp only[aH] at this;exact⟨fun i hi=>hp i (List.all_eq_true.1 this.1 i hi),fun i hi=>hp i (List.all_eq_true.1 this.2 i hi)⟩
 |iter=>exact hp _ h
 |loop=>cases h
 |hid=>trivial
inductive SlotOk(r:List (Nat×Nat))(m:List (Nat×EO)):ES->ES->Prop
 |rn {x y:ES} (h:jf (js r) x=y:=by exact rfl) (hi:(fP x).all (oe r m)=true:=by exact rfl):SlotOk r m x y
 | sm {x y:ES} (h:x=y:=by exact rfl) (hi:fP x=[]:=by exact rfl):SlotOk r m x y
inductive BoxOk(r:List (Nat×Nat))(m:List (Nat×EO)):Option EO->EO->Prop
 |rn {x:Option EO} {o0 o:EO} (h:x=some o0:=by exact rfl) (h2:fy (js r) o0=o:=by exact rfl) (hi:Af (oe r m) o0=true:=by exact rfl):BoxOk r m x o
 | sm {x:Option EO} {o:EO} (h:x=some o:=by exact rfl) (hc:fR o:=by exact rfl):BoxOk r m x o
def zt(r:List (Nat×Nat))(m:List (Nat×EO))(tm:Nat->ES):List (Nat×ES)->Prop
 | []=>True
 | (t,v)::l=>SlotOk r m (tm t) v/\zt r m tm l
def zW(r:List (Nat×Nat))(m:List (Nat×EO))(h:Hp):List (Nat×EO)->Prop
 | []=>True
 | (g,o)::l=>BoxOk r m (h (eY r g)) o/\zW r m h l
def Ag(x:Nat):List Nat->Bool
 | []=>true
 |y::l=>!Nat.beq x y&&Ag x l
def lX:List Nat->Bool
 | []=>true
 |x::l=>Ag x l&&lX l
def ww(r:List (Nat×Nat))(m:List (Nat×EO)):Nat->Bool
 |0=>true
 |n+1=>gu m n&&Nat.beq (eY r n) n&&ww r m n
def po(nx:Nat):List (Nat×EO)->Bool
 | []=>true
 | (g,_)::m=>Nat.blt g nx&&po nx m
def To(nP:Nat)(s s':SS):Prop:=∃ Y V,Ren s.h s'.h Y V/\(∀t,ResR Y (s.tm t) (s'.tm t))/\(∀g,g<nP->Y g=some g)/\s'.fr
def CF{x y:Nat}:∀{l:List Nat},Ag x l=true->y∈l->x≠y
 |z::l,h,hy=>by
  simp only[Ag,aH,gz] at h;rcases List.mem_cons.1 hy with rfl|hy
  . intro e;subst e;rw[bD] at h;cases h.1
  exact CF h.2 hy
def tq{m:List (Nat×EO)}{g:Nat}(h:gu m g=true):∃o,(g,o)∈m/\dA m g=some o:=by
 induction m with
 |nil=>cases h
 |cons p m ih=>
  obtain⟨k,o⟩:=p;simp only[gu,iW] at h;unfold dA;cases hb:Nat.beq g k with
  |true=>exact⟨o,by rw[aB hb];simp,rfl⟩
  |false=>
   rw[hb] at h;obtain⟨o',h1,h2⟩:=ih (h.resolve_left (by simp));exact⟨o',dC _ h1,h2⟩
def Jf{m:List (Nat×EO)}{g:Nat}(h:gu m g=false):dA m g=none:=by
 induction m with
 |nil=>rfl
 |cons p m ih=>
  obtain⟨k,o⟩:=p;simp only[gu,Om] at h;unfold dA;rw[h.1,bh];exact ih h.2
def BK{r:List (Nat×Nat)}{m:List (Nat×EO)}{h:Hp}{g:Nat}{o:EO}:∀{l:List (Nat×EO)},zW r m h l->(g,o)∈l->BoxOk r m (h (eY r g)) o
 | (k,o')::l,⟨h1,h2⟩,hm=>by
   rcases List.mem_cons.1 hm with e|hm
   . cases e;exact h1
   exact BK h2 hm
def B4{f:Nat->Nat}:∀{m:List (Nat×EO)},lX (m.map fun p=>f p.1)=true->∀{g g':Nat},gu m g=true->gu m g'=true->f g=f g'->g=g'
 | [],_,g,g',h,_,_=>by cases h
 | (k,o)::m,h,g,g',h1,h2,he=>by
   simp only[aZ,lX,aH] at h;simp only[gu,iW] at h1 h2;have key:∀{x:Nat},gu m x=true->f k≠f x:=fun{x} hx=>by
    obtain⟨o',hm,_⟩:=tq hx;exact CF h.1 (List.mem_map.2 ⟨(x,o'),hm,rfl⟩)
   rcases h1 with h1|h1
   . have e1:=aB h1;rcases h2 with h2|h2
     . rw[e1,aB h2]
     subst e1;exact absurd he (key h2)
   rcases h2 with h2|h2
   . have e2:=aB h2;subst e2;exact absurd he.symm (key h1)
   exact B4 h.2 h1 h2 he
def ym{nx:Nat}:∀{m:List (Nat×EO)},po nx m=true->∀g,nx<=g->dA m g=none
 | [],_,_,_=>rfl
 | (k,o)::m,h,g,hg=>by
   simp only[po,aH] at h;have hk:k<nx:=by have:=h.1;rwa[dN] at this
   unfold dA;rw[dU,bh];exact ym h.2 g hg
def IY{r:List (Nat×Nat)}{m:List (Nat×EO)}:∀{n:Nat},ww r m n=true->∀g,g<n->og r m g=some g
 |n+1,h,g,hg=>by
  simp only[ww,aH] at h;rcases Nat.lt_succ_iff_lt_or_eq.1 hg with h1|h1
  . exact IY h.2 g h1
  subst h1;unfold og;rw[h.1.1,aB h.1.2]
def To.tab{nP:Nat}{s:SS}(r:List (Nat×Nat)){l:List (Nat×ES)}{m:List (Nat×EO)}{nx:Nat}(h1:zt r m s.tm l)(h2:zW r m s.h m)(h3:(lX (m.map fun p=>eY r p.1)&&(ww r m nP&&po nx m))=true):To nP s (aR l m nx):=by
 simp only[aH] at h3;have hσ:∀{g g0:Nat},og r m g=some g0->gu m g=true/\eY r g=g0:=fun{g g0} h=>by
  unfold og at h;split at h
  . rename_i hk;simp only[ai] at h;exact⟨hk,h⟩
  cases h
 refine⟨og r m,js r,⟨fun g g' x e1 e2=>?_,fun g g0 e=>?_,fun g e=>?_,fun g g0 o e ho=>?_⟩,fun t=>?_,IY h3.2.1,ym h3.2.2⟩
 . obtain⟨a1,a2⟩:=hσ e1;obtain⟨b1,b2⟩:=hσ e2;exact B4 h3.1 a1 b1 (by rw[a2,b2])
 . obtain⟨a1,rfl⟩:=hσ e;obtain⟨o,hm,ht⟩:=tq a1;show dA m g=_;rw[ht];cases BK h2 hm with
   |rn h h' hi=>rw[h,<-h'];rfl
   | sm h hc=>rw[h];show _=some _;rw[BI hc]
 . refine Jf ?_;unfold og at e;split at e
   . cases e
   assumption
 . obtain⟨a1,rfl⟩:=hσ e;obtain⟨o',hm,ht⟩:=tq a1;cases BK h2 hm with
   |rn h h' hi=>rw[h] at ho;cases ho;exact Ib (fun i hi=>IG hi) hi
   | sm h hc=>rw[h] at ho;cases ho;exact x5 hc
 show ResR _ _ (qk l t);induction l with
 |nil=>exact ResR.unk
 |cons p l ih=>
  obtain⟨k,v⟩:=p;unfold qk;cases hb:Nat.beq t k with
  |true=>
   have:=aB hb;subst this;cases h1.1 with
   |rn h hi=>
    rw[al,<-h];exact ResR.rn fun i hi'=>IG (List.all_eq_true.1 hi i hi')
   | sm h hi=>
    rw[al,<-h];have:=ResR.rn (Y:=og r m) (V:=js r) (r:=s.tm t) fun i hi'=>by rw[hi] at hi';cases hi'
    rwa[GQ hi] at this
  |false=>exact ih h1.2
section
variable {X:EX}{nP:Nat}{rd:Bool}{nt:Nat}{s:SS}{K:Exit->SS->Prop}
def SW.to{c:Code}{s':SS}(t:To nP s s')(h:SW X nP rd nt c s' K):SW X nP rd nt c s K:=by
 obtain⟨Y,V,R,ht,hp,hf⟩:=t;exact WT R ht hp hf h
def sT{G:Type _}(nP:Nat)(inv:G->SS)(μ:G->Nat)(g:G)(K:Exit->SS->Prop):Exit->SS->Prop
 | .normal,s=>∃g',To nP s (inv g')/\μ g'<μ g
 |e,s=>K e s
def SSm.to{E:EEnv}(hh:∀g,E.hid g->g<nP){w0:World}{H:ak}{U:Bm}{a:Act}{w:World}{s s':SS}(t:To nP s s')(hS:SSm X E w0 nt H U s a w):∃ U',(∀g,g<nP->∀u,U' g u=U g u)/\SSm X E w0 nt H U' s' a w:=by
 obtain⟨Y,V,R,ht,hp,hf⟩:=t;obtain⟨U',k1,k2⟩:=hS.st.sim.rn R fun g hg=>hp g (hh g hg);exact⟨U',fun g hg=>k1 g g (hp g hg),⟨k2,fun t=>ht t _ _ _ _ _ k1 (hS.st.slot t),hS.st.size⟩,hS.mks,hS.sm,hf⟩
def tc{G:Type _}(inv:G->SS)(μ:G->Nat){c:Code}(g0:G)(h0:To nP s (inv g0))(h:∀g,SW X nP rd nt c (inv g) (sT nP inv μ g K)):SW X nP rd nt (.loop c) s K:=fun ro hro E hI hh w0 H U a w Q hS hQ=>by
 have key:∀(n:Nat) (g:G) (H:ak) (U:Bm) (a:Act) (w:World),μ g<=n->SSm X E w0 nt H U (inv g) a w->(∀e s' a' w',K e s'->SPost X nP E w0 nt H U w s' a' w'->Q e a' w')->Code.roundsIn (FW ro) 0 X.P c Q (n+1) a w:=by
  intro n;induction n with
  |zero=>
   intro g H U a w hn hS hQ;rw[xJ];refine h g ro hro E hI hh w0 H U a w _ hS fun e s1 a1 w1 hk hp=>?_;cases e with
   |normal=>obtain⟨g',_,hg'⟩:=hk;omega
   |_=>exact hQ _ _ _ _ hk hp
  |succ n ih=>
   intro g H U a w hn hS hQ;rw[xJ];refine h g ro hro E hI hh w0 H U a w _ hS fun e s1 a1 w1 hk hp=>?_;cases e with
   |normal=>
    obtain⟨g',ht,hg'⟩:=hk;obtain⟨H1,β1,p1,p2,p3,p4⟩:=hp;obtain⟨β2,k1,k2⟩:=p3.to hh ht;exact ih g' H1 β2 a1 w1 (by omega) k2 fun e s' a' w' k hp'=>hQ e s' a' w' k (hp'.trans p1 (fun g u x hg hx=>by rw[k1 g hg];exact p2 g u x hg hx) p4)
   |_=>exact hQ _ _ _ _ hk hp
 obtain⟨β0,k1,k2⟩:=hS.to hh h0;exact Ol (μ g0+1) (key (μ g0) g0 H β0 a w (ah _) k2 fun e s' a' w' k hp'=>hQ e s' a' w' k (hp'.trans (HLe.refl _) (fun g u x hg hx=>by rw[k1 g hg];exact hx) (MarkSame.refl _)))
end
def gt(zs:List EO):Hp:=fun g=>zs[g]?
def wb:EO->Bool
 | .loop .. => false
 |_=>true
def OIds.chg{P Q:Nat->Prop}{V V':Nat->Nat}{o:EO}(hn:wb o=true)(hPQ:∀i,P i->Q i)(h:OIds P V o):OIds Q V' o:=by
 cases o with
 |mem e cs fz vs cnt=>exact fun u p hup i hi=>hPQ i (h u p hup i hi)
 |map es ck=>exact fun e he=>⟨fun i hi=>hPQ i ((h e he).1 i hi),fun i hi=>hPQ i ((h e he).2 i hi)⟩
 |iter=>exact hPQ _ h
 |loop=>cases hn
 |hid=>trivial
def gj(zs:List EO)(i:Nat):Prop:=i<zs.length/\zs[i]?≠some .hid
structure LocC(X:EX)(f:FuncId)(args:List ES)(zs:List EO)(r:ES)(zs':List EO):Prop where
 call:CallOk X f args (gt zs) r (gt zs')
 le:zs.length<=zs'.length
 a:∀i∈args.flatMap fP,i<zs.length
 z:∀o∈zs,o≠ .hid/\wb o=true/\OIds (fun i=>i<zs.length) id o
 r:∀i∈fP r,gj zs' i
 z':∀o∈zs',wb o=true/\OIds (gj zs') id o
def ny(V:Nat->Nat):Nat->List EO->Wr
 |_,[]=>[]
 |i,o::l=>(V i,fy V o)::ny V (i+1) l
def IA{V:Nat->Nat}{n:Nat}(hρ:∀i j,i<n->j<n->V i=V j->i=j):∀{l:List EO} {k:Nat} {h:Hp},k+l.length<=n->(∀j o,l[j]?=some o->bw h (ny V k l) (V (k+j))=some (fy V o))/\∀g,(∀j,j<l.length->V (k+j)≠g)->bw h (ny V k l) g=h g
 | [],k,h,_=>⟨fun j o hj=>by simp at hj,fun g _=>rfl⟩
 |o::l,k,h,hl=>by
  simp only[aY] at hl;obtain⟨i1,i2⟩:=IA hρ (l:=l) (k:=k+1) (h:=az h (V k) (some (fy V o))) (by omega);refine⟨fun j o' hj=>?_,fun g hg=>?_⟩
  .
   cases j with
   |zero=>
    simp at hj;subst hj;show bw (az h (V k) _) (ny V (k+1) l) (V k)=_;rw[i2 (V k) fun j hj e=>by have:=hρ _ _ (by omega) (by omega) e;omega,a6]
   |succ j=>
    have:=i1 j o' (by simpa using hj);rwa[show k+1+j=k+(j+1) by omega] at this
  show bw (az h (V k) _) (ny V (k+1) l) g=_;rw[i2 g fun j hj=>by have:=hg (j+1) (by simp;omega);rwa[show k+(j+1)=k+1+j by omega] at this,aI _ _ _ fun e=>hg 0 (by simp) (by rw[fF];exact e.symm)]
section
variable {X:EX}
open Classical
def Bt{f:FuncId}{args:List ES}{zs zs':List EO}{r:ES}(L:LocC X f args zs r zs'){V:Nat->Nat}(hρ:∀i j,i<zs'.length->j<zs'.length->V i=V j->i=j){h:Hp}
 (h1:∀i o,zs[i]?=some o->h (V i)=some (fy V o)) (h2:∀i,zs.length<=i->i<zs'.length->h (V i)=none):CallOk X f (args.map (jf V)) h (jf V r) (bw h (ny V 0 zs')):=by
 refine⟨L.call.1,fun E hI H U w vs hS hv=>?_⟩;have hle:=L.le;obtain⟨w1,w2⟩:=IA hρ (l:=zs') (k:=0) (h:=h) (by omega);simp only[a8] at w1 w2
 -- the small heap
 let E1:EEnv:=⟨fun k=>E.own k/\∀g u s,(∀i,i<zs.length->V i≠g)->U g u=some s->s.1≠k,w,H,fun _=>False,fun _ _=>none⟩
 let β1:Bm:=fun i u=>if i<zs.length then U (V i) u else none
 have e1:∀i,i<zs.length->∀u,β1 i u=U (V i) u:=fun i hi u=>au hi;have get:∀{i:Nat} {o:EO},(gt zs) i=some o->i<zs.length/\o∈zs:=fun{i o} ho=>⟨(List.getElem?_eq_some_iff.1 ho).1,bN ho⟩;have hS1:ESim X.Z E1 H β1 (gt zs) w:=by
  refine⟨hS.has,BelowO.refl _ _,fun k hk=>⟨hS.lo k hk,fun g u s _ hs e=>?_⟩,HExtO.refl _ _,fun i o ho=>?_,fun i u k hk=>?_,fun i j u u' k k' hk hk' he=>?_,fun g hg=>hg.elim⟩
  . have:=(hS.dom g u s hs).1;omega
  . obtain⟨hi,hm⟩:=get ho;obtain⟨_,z1,z2⟩:=L.z o hm;have hb:=hS.obj (V i) _ (h1 i o ho);have:=(OR.rn (U:=β1) (U':=U) (g:=i) (g':=V i) (o:=o) (fun u=>(e1 i hi u).symm) (z2.chg (Q:=fun i=>i<zs.length) (V':=V) z1 fun _ h=>h) fun j hj u=>(e1 j hj u).symm).2 hb;refine this.own_mono fun u k hk ho'=>⟨ho',fun g u' s hg hs e=>?_⟩;rw[e1 i hi] at hk;exact hg i hi (hS.inj _ _ _ _ _ _ hk hs e.symm)
  .
   have hi:i<zs.length:=by
    rcases gb i zs.length with h'|h'
    . exact h'
    have:β1 i u=none:=aq (by omega);rw[this] at hk;cases hk
   rw[e1 i hi] at hk;obtain⟨a,o',b,c⟩:=hS.dom _ u k hk;have hz:zs[i]?=some zs[i]:=by simp[hi]
   have hh:=h1 i _ hz;rw[hh] at b;simp only[ai] at b;subst b;refine⟨a,zs[i],hz,c.imp (fun e=>C9.1 e) fun c=>⟨⟨c.1,fun g u' s hg hs e=>?_⟩,by rw[Da] at c;exact c.2⟩⟩;exact hg i hi (hS.inj _ _ _ _ _ _ hk hs e.symm)
  have lt:∀{i u k},β1 i u=some k->i<zs.length:=fun{i u k} hk=>by
   rcases gb i zs.length with h'|h'
   . exact h'
   have:β1 i u=none:=aq (by omega);rw[this] at hk;cases hk
  have hi:=lt hk;have hj:=lt hk';rw[e1 i hi] at hk;rw[e1 j hj] at hk';exact hρ i j (by omega) (by omega) (hS.inj _ _ _ _ _ _ hk hk' he)
 have hv1:SREL X.Z H β1 vs args:=(SREL.rn fun i hi u=>(e1 i (L.a i hi) u).symm).2 hv;refine(L.call.2 E1 (fun w' hb=>hI w' (hS.below.trans (hb.mono fun k hk=>hk.1))) H β1 w vs hS1 hv1).mono ?_;rintro e w' ⟨v,H',β1',rfl,hh,hb1,hS2,hm,hr⟩
 -- the great heap behind the call
 let U':Bm:=fun g u=>if hg:∃i,gj zs' i/\V i=g then β1' hg.choose u else U g u
 have eL:∀i,gj zs' i->∀u,U' (V i) u=β1' i u:=fun i hi u=>by
  have hg:∃j,gj zs' j/\V j=V i:=⟨i,hi,rfl⟩;have hc:=hg.choose_spec;have:hg.choose=i:=hρ _ _ hc.1.1 hi.1 hc.2;show(if hg:∃j,gj zs' j/\V j=V i then β1' hg.choose u else U (V i) u)=_;rw[dif_pos hg,this]
 have eN:∀g,(∀i,gj zs' i->V i≠g)->∀u,U' g u=U g u:=fun g hg u=>dif_neg (fun⟨i,hi,e⟩=>hg i hi e);have hble:BLe U U':=fun g u k hk=>by
  by_cases hg:∃i,gj zs' i/\V i=g
  .
   obtain⟨i,hi,rfl⟩:=hg;rw[eL i hi];have hlt:i<zs.length:=by
    rcases gb i zs.length with h'|h'
    . exact h'
    obtain⟨_,o,ho,_⟩:=hS.dom _ u k hk;rw[h2 i h' hi.1] at ho;cases ho
   exact hb1 i u k (by rw[e1 i hlt];exact hk)
  rw[eN g fun i hi e=>hg ⟨i,hi,e⟩];exact hk
 have hz':∀{i:Nat} {o:EO},zs'[i]?=some o->o≠ .hid->gj zs' i:=fun{i o} ho hn=>⟨(List.getElem?_eq_some_iff.1 ho).1,by rw[ho];simpa using hn⟩
 -- a block of the small heap against one of the others
 have apart:∀i u k g u' k',gj zs' i->β1' i u=some k->(∀j,gj zs' j->V j≠g)->U g u'=some k'->k.1≠k'.1:=fun i u k g u' k' hi hk hg hk' e=>by
  obtain⟨_,o,ho,hc⟩:=hS2.dom i u k hk;have ho:zs'[i]?=some o:=ho;have hown:=(hc.resolve_left fun e'=>hi.2 (by rw[ho,e'])).1;by_cases hin:∃j,j<zs.length/\V j=g
  . obtain⟨j,hj,rfl⟩:=hin;have:=hS2.inj i j u u' k k' hk (hb1 j u' k' (by rw[e1 j hj];exact hk')) e;subst this;exact hg i hi rfl
  exact hown.2 g u' k' (fun j hj e'=>hin ⟨j,hj,e'⟩) hk' e.symm
 have hobj:∀g o,bw h (ny V 0 zs') g=some o->(∃i,i<zs'.length/\V i=g/\zs'[i]?=some zs'[i]!/\o=fy V zs'[i]!)\/((∀i,i<zs'.length->V i≠g)/\h g=some o):=fun g o ho=>by
  by_cases hin:∃i,i<zs'.length/\V i=g
  . obtain⟨i,hi,rfl⟩:=hin;have hz:zs'[i]?=some zs'[i]!:=by rw[F9];simp[hi]
    have:=w1 i _ hz;rw[ho] at this;exact .inl ⟨i,hi,rfl,hz,by simpa using this⟩
  have hin':∀i,i<zs'.length->V i≠g:=fun i hi e=>hin ⟨i,hi,e⟩;rw[w2 g hin'] at ho;exact .inr ⟨hin',ho⟩
 have hsim:ESim X.Z E H' U' (bw h (ny V 0 zs')) w':=by
  refine⟨hS2.has,hS.below.trans (hS2.below.mono fun k hk=>hk.1),fun k hk=>(hS2.lo k hk).1,hS.ext.step (own':=E1.own) ⟨hh,fun b arr hb=>hS2.ext.2 b arr hb⟩ (fun k hk=>hk.1),fun g o hg=>?_,fun g u k hk=>?_,fun g1 g2 u1 u2 k1 k2 hk1 hk2 he=>?_,fun g hg=>?_⟩
  .
   rcases hobj g o hg with⟨i,hi,rfl,hz,rfl⟩|⟨hin,ho⟩
   . by_cases hd:zs'[i]! = .hid
     . rw[hd];trivial
     have hl:=hz' hz hd;obtain⟨z1,z2⟩:=L.z' _ (bN hz);exact((OR.rn (eL i hl) (z2.chg (Q:=gj zs') (V':=V) z1 fun _ h=>h) fun j hj u=>eL j hj u).1 (hS2.obj i _ hz)).own_mono fun _ _ _ ho=>ho.1
   by_cases hd:o=.hid
   . subst hd;trivial
   have hno:∀u k,U g u=some k->¬E1.own k.1:=fun u k hk hown=>hown.2 g u k (fun i hi e=>hin i (by omega) e) hk rfl;refine(hS.obj g o ho).keep (fun u k hk=>hS2.below.block _ (hno u k hk)) (fun u k hk hn=>?_) hh hble (eN g fun i hi=>hin i hi.1);cases hx:H' k.1 with
   |none=>rfl
   |some arr=>
    rcases hS2.ext.2 _ _ hx with h'|h'
    . have h':H k.1=some arr:=h';rw[hn] at h';cases h'
    exact absurd h' (hno u k hk)
  .
   by_cases hg:∃i,gj zs' i/\V i=g
   . obtain⟨i,hi,rfl⟩:=hg;rw[eL i hi] at hk;obtain⟨a,o,ho,c⟩:=hS2.dom i u k hk;have ho:zs'[i]?=some o:=ho;exact⟨a,fy V o,w1 i o ho,.inr (by
      have c:=c.resolve_left fun e'=>hi.2 (by rw[ho,e']);exact⟨c.1.1,by rw[Da];exact c.2⟩)⟩
   have hg':∀i,gj zs' i->V i≠g:=fun i hi e=>hg ⟨i,hi,e⟩;rw[eN g hg'] at hk;obtain⟨a,o,ho,c⟩:=hS.dom g u k hk;by_cases hin:∃i,i<zs'.length/\V i=g
   .
    obtain⟨i,hi,rfl⟩:=hin;have hz:zs'[i]?=some zs'[i]!:=by rw[F9];simp[hi]
    have hd:zs'[i]! = .hid:=by
     rcases Classical.em (zs'[i]! = .hid) with e|e
     . exact e
     exact absurd rfl (hg' i (hz' hz e))
    exact⟨iy a hS2.below.size,.hid,by rw[w1 i _ hz,hd];rfl,.inl rfl⟩
   have hin':∀i,i<zs'.length->V i≠g:=fun i hi e=>hin ⟨i,hi,e⟩;exact⟨iy a hS2.below.size,o,by rw[w2 g hin'];exact ho,c⟩
  .
   by_cases hg1:∃i,gj zs' i/\V i=g1
   . obtain⟨i,hi,rfl⟩:=hg1;rw[eL i hi] at hk1;by_cases hg2:∃i,gj zs' i/\V i=g2
     . obtain⟨j,hj,rfl⟩:=hg2;rw[eL j hj] at hk2;rw[hS2.inj _ _ _ _ _ _ hk1 hk2 he]
     have hg2':∀i,gj zs' i->V i≠g2:=fun i hi e=>hg2 ⟨i,hi,e⟩;rw[eN g2 hg2'] at hk2;exact absurd he (apart i u1 k1 g2 u2 k2 hi hk1 hg2' hk2)
   have hg1':∀i,gj zs' i->V i≠g1:=fun i hi e=>hg1 ⟨i,hi,e⟩;rw[eN g1 hg1'] at hk1;by_cases hg2:∃i,gj zs' i/\V i=g2
   . obtain⟨j,hj,rfl⟩:=hg2;rw[eL j hj] at hk2;exact absurd he.symm (apart j u2 k2 g1 u1 k1 hj hk2 hg1' hk1)
   rw[eN g2 fun i hi e=>hg2 ⟨i,hi,e⟩] at hk2;exact hS.inj _ _ _ _ _ _ hk1 hk2 he
  obtain⟨a,b⟩:=hS.hidb g hg;by_cases hin:∃i,i<zs'.length/\V i=g
  .
   obtain⟨i,hi,rfl⟩:=hin;rcases gb i zs.length with h'|h'
   . have hz:zs[i]?=some zs[i]:=by simp[h']
     have:=h1 i _ hz;rw[a] at this;simp only[ai] at this;exact absurd (C9.1 this.symm) (L.z _ (iw h')).1
   have:=h2 i h' hi;rw[a] at this;cases this
  have hin':∀i,i<zs'.length->V i≠g:=fun i hi e=>hin ⟨i,hi,e⟩;exact⟨by rw[w2 g hin'];exact a,fun u=>(eN g (fun i hi=>hin' i hi.1) u).trans (b u)⟩
 exact⟨v,H',U',rfl,hh,hble,hsim,hm,(SRe.rn fun i hi u=>eL i (L.r i hi) u).1 hr⟩
end
end Go.Proofs.En
namespace Go.Proofs.En
open Go.RowKit Go.Proofs.Fl Go.Shelf Go.Sort
def iZ{α U:Type}{f:α->List U}{k:Nat}:∀{l:List α},(∀a∈l,(f a).length=k)->(l.flatMap f).length=l.length*k
 | [],_=>by simp
 |a::l,h=>by
  rw[cO,bg,h a (by simp),iZ fun b hb=>h b (by simp[hb]),aY,bQ];omega
def flat_get{α U:Type}{f:α->List U}{k:Nat}:∀{l:List α} {i:Nat} {a:α},(∀a∈l,(f a).length=k)->l[i]?=some a->((l.flatMap f).drop (i*k)).take k=f a
 | [],i,a,_,h=>by simp at h
 |b::l,0,a,hl,h=>by
  simp at h;subst h;rw[nN,bW,cO,jJ (by rw[hl b (by simp)];exact ah _),ay (by rw[hl b (by simp)];exact ah _)]
 |b::l,i+1,a,hl,h=>by
  have hb:=hl b (by simp);rw[cO,show(i+1)*k=(f b).length+i*k by rw[hb,bQ];omega,NP,FS,oE (Bf _ _),lF];exact flat_get (fun c hc=>hl c (by simp[hc])) (by simpa using h)
section
variable {X:EX}
def Qt{f g:FuncId}{k n:Nat}{e:TypeId}(hk0:0<k)(hn:0<n)(hsz:n<4611686018427387904)
 {V:Go.Shelf.Ren} (L:SlLaysF0.n6 X.P V) (hf:V.f 6=f) (hF:Aq X f)
 (aE:∀w,(isAgg (V.t 24)).run X.P w=.ok true w) (zE:∀w,(Go.sizeOf (V.t 24)).run X.P w=.ok k w)
 (eg:∀args w,(callFunc g args).run X.P w=.ok (.enter g args) w)
 {rows:Fin n->List EV} (hr:∀i,(rows i).length=k) {xs:Fin n->IV}
 (hv:∀(H:ak) (U:Bm) (vs:List Value) (i:Fin n),CRL X.Z H U vs (rows i)->VR H (.agg vs.toArray) (xs i))
 {cf:Fin n->Fin n->Int} (hc:∀i j,aW X.P X.I g [xs i,xs j] (.int .i64 (cf i j))) (hO:SWO (ltOf cf))
 {ord:List (Fin n)} (hp:ord.Perm (List.finRange n)) (hs:ord.Pairwise fun i j=>cf i j<0) (ht:∀i j,i≠j->cf i j<0\/cf j i<0)
 {cap:Cap} {cnt:Nat} :
 CallOk X f [.w (.one (.slc 0 0 0 n cap)),ae (.fn g)] (gt [.mem e ((List.finRange n).flatMap rows) false [(0,n*k)] cnt]) (.tup []) (gt [.mem e (ord.flatMap rows) false [(0,n*k)] cnt]):=by
 subst hf;refine⟨hF,fun E hI H U w vs hS hvs=>?_⟩
 match vs,hvs with
 | [v0,v1],⟨h0,h1,_⟩=>
 obtain⟨kk,c,hβ,rfl,hnc,hcap⟩:=h0;obtain⟨_,h1⟩:=h1;cases h1;obtain⟨hnone,hver⟩:=hS.obj 0 _ rfl;obtain⟨hu,kk',arr,hβ',hown,hH',hheap,hsize,hp1,hp2,hcr⟩:=hver 0 (n*k) (by simp);have ekk:kk=kk':=by rw[hβ] at hβ';exact Ba hβ'
 subst ekk;have hfl:((List.finRange n).flatMap rows).length=n*k:=by rw[iZ fun a _=>hr a,List.length_finRange]
 rw[ay (jL hfl)] at hcr;have hblk:kk.1<w.heap.size:=(Array.getElem?_eq_some_iff.1 hheap).1;have hrow:∀i:Fin n,CRL X.Z H U (wI arr k i) (rows i):=fun i=>by
  have h:=(hcr.drop (i*k)).take k;rw[flat_get (fun a _=>hr a) (a:=i) (by simp)] at h;have hi:(i:Nat)*k+k<=n*k:=by
   have:=cL k (Nat.succ_le_of_lt i.2);rw[xL] at this;exact this
  have e:((arr.toList.take (n*k)).drop (i*k)).take k=wI arr k i:=by
   unfold wI;rw[mH,cB,ce (by omega)]
  rwa[e] at h
 letI:Inhabited (Fin n):=⟨⟨0,hn⟩⟩
 obtain⟨enc,henc⟩:∃enc:Fin n->List Value,enc=fun i=>wI arr k i.1:=⟨_,rfl⟩;have hrow':∀i:Fin n,CRL X.Z H U (enc i) (rows i):=fun i=>by rw[henc];exact hrow i
 have hke:∀x,(enc x).length=k:=fun i=>(hrow' i).length.trans (hr i);have h1c:∀x,∀v∈enc x,v.oneCell'=true:=fun i=>(hrow' i).one;obtain⟨d,hd⟩:∃d:Array (Fin n),d=(List.finRange n).toArray:=⟨_,rfl⟩;have hds:d.size=n:=by rw[hd];simp
 have hH:HoldsK enc k w kk.1 0 d:=fun t htk=>by
  rw[size_flatK,hds] at htk;have hq:t/k<n:=(nR hk0).2 htk;have hm:t%k<k:=ib _ hk0;have e1:d[t/k]! = ⟨t/k,hq⟩:=by
   rw[hd,AV _ _ (by simpa using hq)];simp
  have hta:t<arr.size:=iy htk hp2;have e2:(enc ⟨t/k,hq⟩)[t%k]! = arr[t]:=by
   have:t/k*k+t%k=t:=by rw[dw];exact oH t k
   rw[henc];simp only[wI];rw[F9,dt,au hm,sk,this];simp[hta]
  rw[get_flatK _ _ _ _ (by rw[hds];exact htk),e1,e2];refine⟨?_,?_⟩
  . simp[World.cell?,hheap,hta]
  simp[World.frozen?,hheap]
 have hother:∀(m:Nat) (dk:Array (Fin n)) (os:Array Obj) (b:Nat),b<w.heap.size->b≠kk.1->(sortWorldK enc k w kk.1 0 m dk os).heap[b]?=w.heap[b]?:=fun m dk os b hb hne=>by
  rw[Hr hb,aq (lE hne)]
 have hbel:∀(m:Nat) (dk:Array (Fin n)) (os:Array Obj),BelowO E.own w (sortWorldK enc k w kk.1 0 m dk os):=fun m dk os=>
  ⟨rfl,rfl,rfl,BA,fun b hb=>by
   rcases gb b w.heap.size with h|h
   . exact hother m dk os b h fun e=>hb (by rw[e];exact hown)
   exact absurd (hS.lo b h) hb⟩
 have hHn:H kk.1=none:=hnone rfl 0 kk hβ;have hhas:∀(m:Nat) (dk:Array (Fin n)) (os:Array Obj),HeapHas (sortWorldK enc k w kk.1 0 m dk os) H:=fun m dk os b a hb=>by
  obtain⟨t,fr,h⟩:=hS.has b a hb;exact⟨t,fr,(hother m dk os b (hS.has.lt hb) fun e=>by rw[e,hHn] at hb;cases hb).trans h⟩
 have hcmp:CmpLays X.P g #[] enc k cf kk.1 0 d.size w:=fun m os dk _ x y=>
  QI (hc x y) (hI _ (hS.below.trans (hbel m dk os))) (hhas m dk os) (.cons _ _ _ _ (hv H U _ x (hrow' x)) (.cons _ _ _ _ (hv H U _ y (hrow' y)) .nil))
 have key:=AnyQ.slices_SortFunc L k aE zE enc hke h1c cf hO g #[] kk.1 0 c d w eg hcmp hH hblk (by rw[hds];exact hsz);rw[hds] at key;refine key.mono ?_;rintro en w' ⟨rfl,d',m,os,hperm,hsort,rfl⟩;have hd's:d'.size=n:=hperm.1.trans hds;have hordl:ord.length=n:=by rw[hp.length_eq,List.length_finRange]
 have ex:∀a:Array (Fin n),a.size=n->a.extract 0 n=a:=fun a h=>(aL (fun x=>a.extract 0 x) h.symm).trans Array.extract_size;have hord:ord=d'.toList:=by
  refine LJ (R:=fun i j=>cf i j<0) (fun a b h1 h2=>?_) ?_ hs ?_ (hp.nodup_iff.2 (List.nodup_finRange n)) fun a _ b _ hab=>ht a b hab
  . have h3:=hO.trans a b a (bB h1) (bB h2);rw[hO.irrefl] at h3;cases h3
  . have h4:=hperm.2.2;rw[ex d' hd's,ex d hds] at h4;refine hp.trans (List.Perm.symm ?_);rwa[hd,List.toList_toArray] at h4
  rw[List.pairwise_iff_getElem];intro i j hi hj hij h;have hi':i<d'.size:=by simpa using hi
  have hj':j<d'.size:=by simpa using hj
  have h5:=hsort i j (ba _) hij (by omega);rw[AV d' i hi',AV d' j hj'] at h5;have h6:ltOf cf d'[j] d'[i]=true:=bB h;rw[h5] at h6;cases h6
 have harr:(putCells id 0 (flatK enc k d') arr).toList.take (n*k)=d'.toList.flatMap enc:=by
  have hl:(d'.toList.flatMap enc).length=n*k:=by rw[iZ fun a _=>hke a];simp[hd's]
  apply qE;intro t;rcases gb t (n*k) with h|h
  .
   have hq:t/k<n:=(nR hk0).2 h;have hm:t%k<k:=ib _ hk0;have htt:t/k*k+t%k=t:=by rw[dw];exact oH t k
   have hta:t<arr.size:=iy h hp2;have e1:(d'.toList.flatMap enc)[t]?=(enc d'[t/k]!)[t%k]?:=by
    have h7:=flat_get (l:=d'.toList) (i:=t/k) (a:=d'[t/k]!) (fun a _=>hke a) (by
     rw[uK,AV _ _ (by omega)];simp[hd's,hq])
    rw[<-h7,dt,au hm,sk,htt]
   rw[e1,dt,au h];unfold putCells;have h8:t<(enc d'[t/k]!).length->True:=fun _=>trivial;rw[uK,Array.getElem?_mapIdx];simp only[size_flatK,hd's,a8,ba,true_and,h,bL,uS,hta,Array.getElem?_eq_getElem,fE,id];rw[get_flatK _ _ _ _ (by rw[hd's];exact h)];have hlt:t%k<(enc d'[t/k]!).length:=by rw[hke];exact hm
   rw[F9,bi hlt];rfl
  rw[sq (by rw[bG];omega),sq (by rw[hl];exact h)]
 have hheap':(sortWorldK enc k w kk.1 0 m d' os).heap[kk.1]?=some (.cells (putCells id 0 (flatK enc k d') arr) e (0,0)):=by
  rw[Hr hblk,au rfl,hheap];rfl
 have hsz':(putCells id 0 (flatK enc k d') arr).size=arr.size:=by unfold putCells;simp
 refine⟨.tuple #[],H,U,rfl,HLe.refl _,BLe.refl _,?_,fun D hD=>hother m d' os D (Array.getElem?_eq_some_iff.1 hD).1 fun e'=>(by rw[e',hheap] at hD;cases hD),⟨[],rfl,aa⟩⟩;have T:=hS.turn (g:=0) (o:=.mem e (ord.flatMap rows) false [(0,n*k)] cnt) (w':=sortWorldK enc k w kk.1 0 m d' os) (U':=U) (fun h=>by cases h) rfl rfl rfl BA
  (fun j hj h=>hother m d' os j hj fun e'=>h 0 kk hβ e'.symm) (fun u s hs=>hnone rfl u s hs) (BLe.refl _) (fun _ _ _=>rfl)
  (fun u s hs=>by
    obtain⟨a,o',b,c'⟩:=hS.dom 0 u s hs;cases b;rcases c' with c'|c'
    . cases c'
    exact⟨c'.2,iy a BA,c'.1,.inl ⟨u,s,hs,rfl⟩⟩)
  ⟨fun _=>hnone rfl,fun u p hup=>by
   rw[fg] at hup;cases hup;refine⟨hu,kk,putCells id 0 (flatK enc k d') arr,hβ,hown,hH',hheap',by rw[hsz'];exact hsize,?_,by rw[hsz'];exact hp2,?_⟩
   . rw[iZ fun a _=>hr a,hordl];exact ah _
   rw[harr,<-hord,ay (by rw[iZ fun a _=>hr a,hordl];exact ah _)];exact CRL.flatMap fun a _=>hrow' a⟩
 have e9:az (gt [.mem e ((List.finRange n).flatMap rows) false [(0,n*k)] cnt]) 0 (some (.mem e (ord.flatMap rows) false [(0,n*k)] cnt))=gt [.mem e (ord.flatMap rows) false [(0,n*k)] cnt]:=by
  funext g';cases g' with
  |zero=>rw[a6];rfl
  |succ g'=>rw[aI _ _ _ (Nat.succ_ne_zero _)];rfl
 rw[e9] at T;exact T
end
end Go.Proofs.En
namespace Go.Proofs
open Go.Shelf
end Go.Proofs
namespace Go.Proofs.En
open Go.RowKit Go.Proofs.Fl Go.Proofs.Dig
noncomputable def ZZ:QS:=⟨fun n d=>qr (mkRat n d),3,fun n d=>⟨_,rfl,rfl⟩⟩
def nF:Nat:=79228162514264337593543950336
def iS(n:Int)(d:Nat):Bool:=Nat.blt n.natAbs nF&&(Nat.blt 0 d&&Nat.blt d nF)
def nj{a b:Nat}(h:Nat.blt a b=true):a<b:=by rwa[dN] at h
def zH{n:Int}{d:Nat}(h:iS n d=true):n.natAbs<nF/\0<d/\d<nF:=by
 simp only[iS,aH] at h;exact⟨nj h.1,nj h.2.1,nj h.2.2⟩
def zI{n:Nat}(h:n<nF:=by decide):ln n<=4:=mc (FI h (by decide))
def D6{n:Int}{d:Nat}(h:iS n d=true):aU (mkRat n d)<=8:=by
 obtain⟨h1,h2,h3⟩:=zH h;have e1:=qU (z:=n) h2;have e2:=s0 (z:=n) h2;have e3:(mkRat n d).num.natAbs=n.natAbs/Nat.gcd n.natAbs d:=by
  rw[e1];have hs:∀(b:Bool) (k:Nat),(sv b k).natAbs=k:=by intro b k;cases b<;>simp[sv]
  exact hs _ _
 unfold aU;rw[e3,e2];have a1:=zI (n:=n.natAbs/Nat.gcd n.natAbs d) (jN (mR _ _) h1);have a2:=zI (n:=d/Nat.gcd n.natAbs d) (jN (mR _ _) h3);omega
def m5{n:Int}{d:Nat}(h:iS n d=true):aU (mkRat n d)<2^38:=by have:=D6 h;omega
def jk(n:Int)(d:Nat):Option EW :=
 zP n fun n=>bJ d fun d=>bJ (Nat.gcd n.natAbs d) fun g=>match n with
  | .ofNat m=>bJ (m/g) fun m'=>bJ (d/g) fun d'=>bif Nat.beq (m'*d) (m*d')&&Nat.blt 0 d' then some (.q (.ofNat m') d') else none
  | .negSucc m=>bJ ((m+1)/g-1) fun m'=>bJ (d/g) fun d'=>bif Nat.beq ((m'+1)*d) ((m+1)*d')&&Nat.blt 0 d' then some (.q (.negSucc m') d') else none
def LM{n:Int}{d:Nat}{x:EW}(hd:d≠0)(h:jk n d=some x):∃n' d',x=.q n' d'/\mkRat n' d'=mkRat n d:=by
 unfold jk at h;rw[Ch,bz,bz] at h;split at h
 .
  rename_i m;rw[bz,bz,Bool.cond_eq_ite] at h;split at h
  . rename_i hc;simp only[ai] at h;simp only[aH] at hc;obtain⟨c1,c2⟩:=hc;have c1:=aB c1;have c2:=nj c2;refine⟨_,_,h.symm,(Ga (by omega) hd).2 ?_⟩;rw[iA,iA]
    exact_mod_cast c1
  cases h
 rename_i m;rw[bz,bz,Bool.cond_eq_ite] at h;split at h
 . rename_i hc;simp only[ai] at h;simp only[aH] at hc;obtain⟨c1,c2⟩:=hc;have c1:=aB c1;have c2:=nj c2;refine⟨_,_,h.symm,(Ga (by omega) hd).2 ?_⟩;rw[Int.negSucc_eq,Int.negSucc_eq,lG,lG];congr 1
   exact_mod_cast c1
 cases h
noncomputable def AL:ES->Option IV
 | .w (.q n d)=>some (qr (mkRat n d))
 | .w (.one (.iv x))=>some x
 |_=>none
def Lp{H:ak}{U:Bm}:∀{vs:List Value} {args:List ES} {xs:List IV},args.map AL=xs.map some->SREL ZZ H U vs args->VRL H vs xs
 | [],[],[],_,_=>.nil
 |v::vs,a::args,x::xs,he,⟨h1,h2⟩=>by
  simp only[aZ,oK] at he;refine .cons _ _ _ _ ?_ (Lp he.2 h2);have he:=he.1;unfold AL at he;split at he
  . simp only[ai] at he;subst he;exact h1
  . simp only[ai] at he;subst he;exact h1.2
  cases he
 | [],_::_,_,_,h=>h.elim
 |_::_,[],_,_,h=>h.elim
 | [],[],_::_,he,_=>by simp at he
 |_::_,_::_,[],he,_=>by simp at he
def RetE(r:IV)(res:ES):Prop:=∀H U v,VR H v r->SRe ZZ H U v res
def RetE.q{n:Int}{d:Nat}{q:Rat}(h:mkRat n d=q):RetE (qr q) (.w (.q n d)):=fun H U v hv=>by subst h;exact hv
def RetE.int(k:IntKind)(n:Int):RetE (.int k n) (ae (.int k n)):=fun H U v hv=>by
 have:=hv.asInt;subst this;exact⟨rfl,hv⟩
def RetE.str(s:List UInt8):RetE (.str s) (ae (.str s)):=fun H U v hv=>by
 obtain⟨t,rfl,_⟩:=jU hv;exact⟨rfl,hv⟩
def WM{H:ak}{v:Value}{x y:IV}(h:VR H v (.tup [x,y])):∃a b,v=.tuple #[a,b]/\VR H a x/\VR H b y:=by
 cases h with
 |tup vs xs hs=>
  obtain⟨a,b,rfl,h1,h2⟩:=hs.two;exact⟨a,b,rfl,h1,h2⟩
def Nx:EW:=.one (.iv (.int .i64 0))
def Vr{n:Int}{d:Nat}{q:Rat}(h:mkRat n d=q):RetE (.tup [qr q,.int .i64 0]) (.tup [.q n d,Nx]):=fun H U v hv=>by
 subst h;obtain⟨a,b,rfl,h1,h2⟩:=WM hv;have:=h2.asInt;subst this;exact⟨[a,.int .i64 0],rfl,h1,⟨rfl,h2⟩,aa⟩
section
variable (J:Keep)
def O2{X:EX}(hZ:X.Z=ZZ){f:FuncId}{xs:List IV}{r:IV}{args:List ES}{res:ES}{h:Hp}(hc:aW X.P X.I f xs r)(ha:args.map AL=xs.map some)(hr:RetE r res):CallOk X f args h res h:=by
 refine⟨hc.1,fun E hI H U w vs hs hv=>?_⟩;rw[hZ] at hv;refine(hc.2 H w vs (hI w hs.below) hs.has (Lp ha hv)).mono ?_;rintro e w' ⟨v,H',rfl,h1,h2,h3,h4⟩;refine⟨v,H',U,rfl,h2.1,BLe.refl _,hs.grow h4 h1 h2,MarkSame.below h4,?_⟩;rw[hZ];exact hr _ _ _ h3
def gZ(f:FuncId)(o:List ES->Option ES):Prop:=∀args res,o args=some res->∃xs r,C J f xs r/\args.map AL=xs.map some/\RetE r res
def r8(k:Int->Nat->Int->Nat->Option ES):List ES->Option ES
 | [.w (.q a b),.w (.q c d)]=>bif iS a b&&iS c d then k a b c d else none
 |_=>none
def ur(k:Int->Nat->Option ES):List ES->Option ES
 | [.w (.q a b)]=>bif iS a b then k a b else none
 |_=>none
def oh:Option EW->Option ES
 |some x=>some (.w x)
 |none=>none
def As:Option EW->Option ES
 |some x=>some (.tup [x,Nx])
 |none=>none
def wa{f:FuncId}{k:Int->Nat->Int->Nat->Option ES}(h:∀a b c d res,iS a b=true->iS c d=true->k a b c d=some res->∃r,C J f [qr (mkRat a b),qr (mkRat c d)] r/\RetE r res):gZ J f (r8 k):=by
 intro args res he;unfold r8 at he;split at he
 .
  rename_i a b c d;cases hc:(iS a b&&iS c d) with
  |false=>rw[hc] at he;cases he
  |true=>
   rw[hc] at he;simp only[aH] at hc;obtain⟨r,h1,h2⟩:=h a b c d res hc.1 hc.2 he;exact⟨_,r,h1,rfl,h2⟩
 cases he
def zG{f:FuncId}{k:Int->Nat->Option ES}(h:∀a b res,iS a b=true->k a b=some res->∃r,C J f [qr (mkRat a b)] r/\RetE r res):gZ J f (ur k):=by
 intro args res he;unfold ur at he;split at he
 .
  rename_i a b;cases hc:iS a b with
  |false=>rw[hc] at he;cases he
  |true=>
   rw[hc] at he;obtain⟨r,h1,h2⟩:=h a b res hc he;exact⟨_,r,h1,rfl,h2⟩
 cases he
def rg{n:Int}{d:Nat}{res:ES}{q:Rat}(hd:d≠0)(he:oh (jk n d)=some res)(hq:mkRat n d=q):RetE (qr q) res:=by
 cases hm:jk n d with
 |none=>rw[hm] at he;cases he
 |some x=>
  rw[hm] at he;simp only[oh,ai] at he;subst he;obtain⟨n',d',rfl,e⟩:=LM hd hm;exact RetE.q (e.trans hq)
def Ke{n:Int}{d:Nat}{res:ES}{q:Rat}(hd:d≠0)(he:As (jk n d)=some res)(hq:mkRat n d=q):RetE (.tup [qr q,.int .i64 0]) res:=by
 cases hm:jk n d with
 |none=>rw[hm] at he;cases he
 |some x=>
  rw[hm] at he;simp only[As,ai] at he;subst he;obtain⟨n',d',rfl,e⟩:=LM hd hm;exact Vr (e.trans hq)
def gY{n:Int}{d:Nat}(h:iS n d=true):d≠0:=by have:=(zH h).2.1;omega
def M8:List ES->Option ES:=r8 fun a b c d=>oh (jk (a*c) (b*d))
def Nb:List ES->Option ES:=r8 fun a b c d=>oh (jk (a*d+c*b) (b*d))
def M6:List ES->Option ES:=r8 fun a b c d=>oh (jk (a*d-c*b) (b*d))
def M7:List ES->Option ES:=ur fun a b=>oh (jk (-a) b)
def Nc:List ES->Option ES:=ur fun a b=>oh (jk a.natAbs b)
def Ug(B:Base J):gZ J 71 M8:=wa J fun a b c d res h1 h2 he=>
 ⟨_,px B (m5 h1) (m5 h2),rg (sE (gY h1) (gY h2)) he (Bg _ _ _ _).symm⟩
def Ul(B:Base J):gZ J 73 Nb:=wa J fun a b c d res h1 h2 he=>
 ⟨_,wk B (m5 h1) (m5 h2),rg (sE (gY h1) (gY h2)) he (On _ _ (gY h1) (gY h2)).symm⟩
def Ud(B:Base J):gZ J 164 M6:=wa J fun a b c d res h1 h2 he=>
 ⟨_,Em B (m5 h1) (m5 h2),rg (sE (gY h1) (gY h2)) he (by
  rw[Rat.sub_eq_add_neg,Rat.neg_mkRat,On _ _ (gY h1) (gY h2),lG,<-Int.sub_eq_add_neg])⟩
def Uf:gZ J 29 M7:=zG J fun a b res h1 he=>
 ⟨_,Ek J _,rg (gY h1) he (Rat.neg_mkRat _ _).symm⟩
def WS{a:Int}{b:Nat}(hb:0<b):qd ((mkRat a b).num.natAbs:Int) (mkRat a b).den=qr (mkRat (a.natAbs:Int) b):=by
 have key:∀c:Int,0<=c->qd ((mkRat c b).num.natAbs:Int) (mkRat c b).den=qr (mkRat c b):=fun c hc=>by
  have hn:0<=(mkRat c b).num:=by
   rw[qU hb,bE (by omega)];exact Int.natCast_nonneg _
  show qd _ _=qd _ _;rw[Int.natAbs_of_nonneg hn]
 by_cases h:0<=a
 . rw[Int.natAbs_of_nonneg h];exact key a h
 have e:a = -(a.natAbs:Int):=by omega
 rw[e,<-Rat.neg_mkRat,A7,xD,F1,key _ (by omega)];congr 2<;>(congr 1;omega)
def Um:gZ J 166 Nc:=zG J fun a b res h1 he=>by
 refine⟨_,?_,rg (gY h1) he rfl⟩;rw[<-WS (zH h1).2.1];exact L0 J _
end
section
variable (J:Keep)
def x9{x y k:Int}(hk:0<k:=by omega):a7 (x*k) (y*k)=a7 x y:=by
 unfold a7;have h1:(x*k<y*k)=(x<y):=propext ⟨fun h=>Int.lt_of_mul_lt_mul_right h (by omega),fun h=>YX h hk⟩;have h2:(y*k<x*k)=(y<x):=propext ⟨fun h=>Int.lt_of_mul_lt_mul_right h (by omega),fun h=>YX h hk⟩;simp only[h1,h2]
def Eb{a:Int}{b:Nat}(hb:b≠0):a*((mkRat a b).den:Int)=(mkRat a b).num*(b:Int):=by
 refine(Ga hb (mkRat a b).den_nz).1 ?_;rw[Rat.mkRat_self]
def Tc{a:Int}{b:Nat}(hb:b≠0):a7 (mkRat a b).num 0=a7 a 0:=by
 have h:=Eb (a:=a) hb;have hd:=dZ (mkRat a b);rw[<-x9 (x:=(mkRat a b).num) (k:=(b:Int)),<-h,<-x9 (x:=a) (y:=0) (k:=((mkRat a b).den:Int)),sD,sD]
def WH{a c:Int}{b d:Nat}(hb:b≠0)(hd:d≠0):cw (mkRat a b) (mkRat c d)=a7 (a*d) (c*b):=by
 have h1:=Eb (a:=a) hb;have h2:=Eb (a:=c) hd;have d1:=dZ (mkRat a b);have d2:=dZ (mkRat c d);unfold cw;generalize (mkRat a b).num=p at h1 ⊢;generalize (mkRat a b).den=q at h1 d1 ⊢;generalize (mkRat c d).num=r at h2 ⊢;generalize (mkRat c d).den=s at h2 d2 ⊢;rw[<-x9 (x:=p*(s:Int)) (k:=(b:Int)*(d:Int)) (xE (by omega) (by omega)),<-x9 (x:=a*(d:Int)) (k:=(q:Int)*(s:Int)) (xE (by omega) (by omega))];congr 1
 . calc p*(s:Int)*((b:Int)*d)=(p*b)*(s*d):=by ac_rfl
    _=(a*q)*(s*d):=by rw[h1]
    _=_:=by ac_rfl
 calc r*(q:Int)*((b:Int)*d)=(r*d)*(q*b):=by ac_rfl
  _=(c*s)*(q*b):=by rw[h2]
  _=_:=by ac_rfl
def Na:List ES->Option ES:=r8 fun a b c d=>some (ae (.int .i64 (bif decide (a*d<c*b) then -1 else bif decide (c*b<a*d) then 1 else 0)))
def Uk:gZ J 116 Na:=wa J fun a b c d res h1 h2 he=>by
 simp only[ai] at he;subst he;refine⟨_,L4 (m5 h1) (m5 h2),?_⟩;rw[WH (gY h1) (gY h2)];have e:a7 (a*d) (c*b)=(bif decide (a*d<c*b) then -1 else bif decide (c*b<a*d) then 1 else 0):=by
  unfold a7;by_cases h:a*(d:Int)<c*b
  . rw[au h,bB h];rfl
  rw[aq h,bE h];by_cases h':c*(b:Int)<a*d
  . rw[au h',bB h'];rfl
  rw[aq h',bE h'];rfl
 rw[e];exact RetE.int _ _
def MW:Int->Int
 | .ofNat n=>bif Nat.beq n 0 then 0 else 1
 | .negSucc _ => -1
def Mw:List ES->Option ES:=ur fun a b=>some (ae (.int .i64 (MW a)))
def R9:gZ J 63 Mw:=zG J fun a b res h1 he=>by
 simp only[ai] at he;subst he;refine⟨_,tG J _,?_⟩;rw[Tc (gY h1)];have e:a7 a 0=MW a:=by
  unfold a7;cases a with
  |ofNat n=>
   have h0:¬(Int.ofNat n<0):=by rw[iA];omega
   rw[aq h0];cases n with
   |zero=>rfl
   |succ n=>
    have h2:(0:Int)<Int.ofNat (n+1):=by rw[iA];omega
    rw[au h2];rfl
  |negSucc n=>rw[au (Int.negSucc_lt_zero n)];rfl
 rw[e];exact RetE.int _ _
def i64(n:Int):Bool:=Nat.blt n.natAbs 9223372036854775808
def Eh{n:Int}(h:i64 n=true) : -9223372036854775808<=n/\n<=9223372036854775807:=by
 have:=nj h;omega
def E4:List ES->Option ES
 | [.w (.one (.iv (.int .i64 n)))]=>bif i64 n then oh (jk n 1) else none
 |_=>none
def Ui:gZ J 44 E4:=by
 intro args res he;unfold E4 at he;split at he
 .
  rename_i n;cases hn:i64 n with
  |false=>rw[hn] at he;cases he
  |true=>
   rw[hn] at he;have:=Eh hn;refine⟨_,_,zR J this.1 this.2,rfl,rg (by decide) he (Rat.mkRat_one n)⟩
 cases he
def rJ(c a:Int):Int:=match c with
 | .ofNat _=>a
 | .negSucc _ => -a
def LO{n m:Int}:mkRat (rJ m n) m.natAbs=(n:Rat)/(m:Rat):=by
 rw[<-Rat.divInt_eq_div];cases m with
 |ofNat k=>rw[iA,Og];rfl
 |negSucc k=>
  show mkRat (-n) (k+1)=Rat.normalize (-n) (k+1) (by simp);rw[Rat.normalize_eq_mkRat]
def Fq:List ES->Option ES
 | [.w (.one (.iv (.int .i64 n))),.w (.one (.iv (.int .i64 m)))]=>bif i64 n&&(i64 m&&Nat.blt 0 m.natAbs) then As (jk (rJ m n) m.natAbs) else none
 |_=>none
def Wf(B:Base J):gZ J 13 Fq:=by
 intro args res he;unfold Fq at he;split at he
 .
  rename_i n m;cases hn:(i64 n&&(i64 m&&Nat.blt 0 m.natAbs)) with
  |false=>rw[hn] at he;cases he
  |true=>
   rw[hn] at he;simp only[aH] at hn;have h1:=Eh hn.1;have h2:=Eh hn.2.1;have h3:=nj hn.2.2;exact⟨_,_,LZ B h1.1 h1.2 h2.1 h2.2 (by omega),rfl,Ke (by omega) he LO⟩
 cases he
def Qw(c a:Int):rJ c a*c=a*(c.natAbs:Int):=by
 cases c with
 |ofNat n=>rfl
 |negSucc n=>
  show -a*Int.negSucc n=a*((n+1:Nat):Int);rw[Int.negSucc_eq,FZ];rfl
def M9:List ES->Option ES:=r8 fun a b c d=>bif Nat.blt 0 c.natAbs then As (jk (rJ c (a*d)) (b*c.natAbs)) else none
def Uj(B:Base J):gZ J 48 M9:=wa J fun a b c d res h1 h2 he=>by
 cases hc:Nat.blt 0 c.natAbs with
 |false=>rw[hc] at he;cases he
 |true=>
  rw[hc] at he;have hc:=nj hc;have h1':=gY h1;have h2':=gY h2;have hz:mkRat c d≠0:=by rw[Rat.mkRat_ne_zero h2'];omega
  refine⟨_,El B (m5 h1) (m5 h2) hz,Ke (sE h1' (by omega)) he ?_⟩;have e:mkRat (rJ c (a*d)) (b*c.natAbs)*mkRat c d=mkRat a b:=by
   rw[Bg,Qw];refine(Ga (sE (sE h1' (by omega)) h2') h1').2 ?_;rw[kB,kB]
   ac_rfl
  rw[<-e,Rat.mul_div_cancel hz]
def LN(a:Int)(b:Nat):∀n:Nat,mkRat a b^n=mkRat (a^n) (b^n)
 |0=>by simp;rfl
 |n+1=>by rw[Bh,LN a b n,Bg,mS,bX]
def E2:List ES->Option ES
 | [.w (.q a b),.w (.one (.iv (.int .i64 (.ofNat n))))]=>bif iS a b&&Nat.ble n 1000 then oh (jk (a^n) (b^n)) else none
 |_=>none
def Ue:gZ J 132 E2:=by
 intro args res he;unfold E2 at he;split at he
 .
  rename_i a b n;cases hn:(iS a b&&Nat.ble n 1000) with
  |false=>rw[hn] at he;cases he
  |true=>
   rw[hn] at he;simp only[aH] at hn;have h1:=gY hn.1;have h2:=bl hn.2;have hq:=D6 hn.1;refine⟨_,_,Wu (J:=J) (a:=mkRat a b) (by omega) (Int.ofNat n),rfl,rg (gB (by omega) |> Nat.pos_iff_ne_zero.1) he ?_⟩;have e:pF (Int.ofNat n) 1000=n:=by unfold pF;rw[iA];omega
   rw[e,LN]
 cases he
def digs:Nat->Nat->List UInt8->List UInt8
 |0,n,acc=>eG n::acc
 |f+1,n,acc=>bif Nat.blt n 10 then eG n::acc else digs f (n/10) (eG (n%10)::acc)
def zb:∀(f n:Nat) (acc:List UInt8),n<10^(f+1)->digs f n acc=br n++acc
 |0,n,acc,h=>by
  rw[digs,kF (by simpa using h)];rfl
 |f+1,n,acc,h=>by
  rw[digs];cases hb:Nat.blt n 10 with
  |true=>rw[kF (nj hb)];rfl
  |false=>
   have h10:10<=n:=by
    rcases gb n 10 with h|h
    . have:Nat.blt n 10=true:=by rw[dN];exact h
      rw[this] at hb;cases hb
    exact h
   rw[bh,zb f _ _ (by rw[bX] at h;omega),q8 h10,dI];rfl
def Ey(n:Int)(d:Nat):List UInt8 :=
 let t:=bif Nat.beq d 1 then [] else 47::digs 40 d []
 match n with
 | .ofNat m=>digs 40 m t
 | .negSucc m=>45::digs 40 (m+1) t
def Mv:List ES->Option ES:=ur fun a b=>bif Nat.beq (Nat.gcd a.natAbs b) 1 then gE (Ey a b) fun l=>some (ae (.str l)) else none
def S6{a:Int}{b:Nat}(hb:0<b)(ha:a.natAbs<nF)(hb':b<nF)(hg:Nat.gcd a.natAbs b=1):eX (mkRat a b)=Ey a b:=by
 have e1:=qU (z:=a) hb;have e2:=s0 (z:=a) hb;rw[hg,oJ] at e1 e2;rw[pf] at e1;have hl:nF<10^(40+1):=by decide
 unfold eX Ey eE;rw[e1,e2,zb 40 b [] (by omega),eS];have key:(if b=1 then(if a<0 then [45] else [])++br a.natAbs else(if a<0 then [45] else [])++br a.natAbs ++ [47]++br b)=(if a<0 then [45] else [])++(br a.natAbs++bif Nat.beq b 1 then [] else 47::br b):=by
  by_cases h:b=1
  . subst h;simp
  rw[aq h,dU h];simp
 rw[key];cases a with
 |ofNat m=>
  have h0:¬(Int.ofNat m<0):=by rw[iA];omega
  rw[aq h0];show _=digs 40 m _;rw[zb 40 m _ (by have:m<nF:=ha;omega)];rfl
 |negSucc m=>
  rw[au (Int.negSucc_lt_zero m)];show _=45::digs 40 (m+1) _;rw[zb 40 (m+1) _ (by have:m+1<nF:=ha;omega)];rfl
def R8(L:LibI J):gZ J 17 Mv:=zG J fun a b res h1 he=>by
 cases hg:Nat.beq (Nat.gcd a.natAbs b) 1 with
 |false=>rw[hg] at he;cases he
 |true=>
  rw[hg,al,dE] at he;simp only[ai] at he;subst he;have:=D6 h1;obtain⟨c1,c2,c3⟩:=zH h1;refine⟨_,Eo L (q:=mkRat a b),?_⟩;rw[S6 c2 c1 c3 (aB hg)];exact RetE.str _
def E3:List ES->Option ES
 | [.w (.one (.iv (.int .u64 (.ofNat n))))]=>bif Nat.ble n 18446744073709551615 then bJ (Lib.bitLen n) fun m=>some (ae (.int .i64 (.ofNat m))) else none
 |_=>none
def Uh:gZ J 143 E3:=by
 intro args res he;unfold E3 at he;split at he
 .
  rename_i n;cases hn:Nat.ble n 18446744073709551615 with
  |false=>rw[hn] at he;cases he
  |true=>
   rw[hn,al,bz] at he;simp only[ai] at he;subst he;have hn:=bl hn;refine⟨[.int .u64 (Int.ofNat n)],.int .i64 (Int.ofNat (Lib.bitLen n)),vG ⟨_,Tryz.func143,rfl,rfl⟩ fun H w args hI hargs=>?_,rfl,RetE.int _ _⟩;obtain⟨u,rfl,hu⟩:=hargs.one;rw[VR.asInt hu];refine(Tryz.bits_Len (Int.ofNat n) w (by rw[iA];omega) (by rw[iA];omega)).mono ?_;rintro e w' ⟨rfl,rfl⟩;exact⟨_,rfl,fun H=>.int _ _,kA _ _⟩
 cases he
def E0:List (Nat×(List ES->Option ES)):=[(71,M8),(73,Nb),(164,M6),(116,Na),(63,Mw),(44,E4),(13,Fq),(48,M9),(29,M7),(132,E2),(166,Nc),(17,Mv),(143,E3)]
def Av(f:Nat)(args:List ES):List (Nat×(List ES->Option ES))->Option ES
 | []=>none
 | (g,o)::l=>bif Nat.beq f g then o args else Av f args l
def Au(f:FuncId)(args:List ES)(s:Hs):Option (ES×Hs):=match Av f args E0 with
 |some r=>some (r,s)
 |none=>none
def Ko{f:Nat}{args:List ES}{res:ES}:∀{l:List (Nat×(List ES->Option ES))},(∀p∈l,gZ J p.1 p.2)->Av f args l=some res->∃o,gZ J f o/\o args=some res
 | [],_,h=>by cases h
 | (g,o)::l,hl,h=>by
   rw[Av] at h;cases hb:Nat.beq f g with
   |true=>
    rw[hb] at h;have:=aB hb;subst this;exact⟨o,hl (f,o) (by simp),h⟩
   |false=>
    rw[hb] at h;exact Ko (fun p hp=>hl p (by simp[hp])) h
def T0(L:LibI J):∀p∈E0,gZ J p.1 p.2:=by
 have B:=base J;intro p hp;simp only[E0,fD,bR,or_false] at hp;rcases hp with rfl|rfl|rfl|rfl|rfl|rfl|rfl|rfl|rfl|rfl|rfl|rfl|rfl
 . exact Ug J B
 . exact Ul J B
 . exact Ud J B
 . exact Uk J
 . exact R9 J
 . exact Ui J
 . exact Wf J B
 . exact Uj J B
 . exact Uf J
 . exact Ue J
 . exact Um J
 . exact R8 J L
 exact Uh J
def Kn(L:LibI J){X:EX}(hP:X.P=Tryz.prog)(hI:X.I=J.I)(hZ:X.Z=ZZ):jv X Au:=by
 intro f args s r s' he;unfold Au at he;split at he
 . rename_i r0 hr;simp only[ai,aC] at he;obtain⟨rfl,rfl⟩:=he;obtain⟨o,h1,h2⟩:=Ko J (T0 J L) hr;obtain⟨xs,r,h3,h4,h5⟩:=h1 args r0 h2;exact⟨LogOk.refl _,O2 hZ (by rw[hP,hI];exact h3) h4 h5⟩
 cases he
end
def uj:List IV->List EV
 | .sl [] :: .bool false :: .sl []::l=>.iv (.sl []) :: .iv (.bool false) :: .iv (.sl [])::uj l
 | .sl []::l=>.iv (.nil 3)::uj l
 |x::l=>.iv x::uj l
 | []=>[]
def Eu:IV->EW
 | .agg cs=>.agg (uj cs)
 | .sl []=>.one (.iv (.nil 3))
 |x=>.one (.iv x)
def uk:List IV->List EV
 | .sl [] :: .bool false :: .sl []::l=>.qc 0 1 0 :: .qc 0 1 1 :: .qc 0 1 2::uk l
 | .sl []::l=>.iv (.nil 3)::uk l
 |x::l=>.iv x::uk l
 | []=>[]
def Ev:IV->EW
 | .agg cs=>(match uk cs with
  | [.qc 0 1 0,.qc 0 1 1,.qc 0 1 2]=>.q 0 1
  |l=>.agg l)
 | .sl []=>.one (.iv (.nil 3))
 |x=>.one (.iv x)
def lN{Z:QS}{H:ak}{U:Bm}{v:Value}{x:IV}(h:pK false v=some x):CR Z H U v (.iv x)/\(x=.sl []->CR Z H U v (.iv (.nil 3))):=by
 obtain⟨h1,h2,_⟩:=C4 h;refine⟨⟨h2,h1 H⟩,fun e=>?_⟩;subst e;unfold pK at h;split at h<;>first|(simp at h;done)|exact⟨rfl,.nilS⟩
def mV{vs:List Value}{x:IV}{xs:List IV}(h:ik false vs=some (x::xs)):∃v vs',vs=v::vs'/\pK false v=some x/\ik false vs'=some xs:=by
 cases vs with
 |nil=>simp[ik] at h
 |cons v vs=>
  simp only[ik] at h;split at h
  . rename_i y ys h1 h2;simp only[ai,oK] at h;obtain⟨rfl,rfl⟩:=h;exact⟨v,vs,rfl,h1,h2⟩
  cases h
def Iz{vs:List Value}(h:ik false vs=some []):vs=[]:=by
 cases vs with
 |nil=>rfl
 |cons v vs=>
  simp only[ik] at h;split at h<;>simp at h
def Vs{Z:QS}{H:ak}{U:Bm}{xs:List IV}:∀{vs:List Value},ik false vs=some xs->CRL Z H U vs (uj xs):=by
 fun_induction uj xs with
 |case1 l ih=>
  intro vs h;obtain⟨v1,vs,rfl,h1,h⟩:=mV h;obtain⟨v2,vs,rfl,h2,h⟩:=mV h;obtain⟨v3,vs,rfl,h3,h⟩:=mV h;exact⟨(lN h1).1,(lN h2).1,(lN h3).1,ih h⟩
 |case2 l _ ih=>
  intro vs h;obtain⟨v1,vs,rfl,h1,h⟩:=mV h;exact⟨(lN h1).2 rfl,ih h⟩
 |case3 x l _ _ ih=>
  intro vs h;obtain⟨v1,vs,rfl,h1,h⟩:=mV h;exact⟨(lN h1).1,ih h⟩
 |case4=>
  intro vs h;rw[Iz h];exact trivial
def D7{H:ak}{U:Bm}{v:Value}{j:Nat}{x:IV}(hj:(IV.agg [.sl [],.bool false,.sl []]).cells[j]?=some x)(h:CR ZZ H U v (.iv x)):CR ZZ H U v (.qc 0 1 j):=by
 refine⟨h.1,x,?_,h.2⟩;have:ZZ.qv 0 1=.agg [.sl [],.bool false,.sl []]:=by
  show qr (mkRat 0 1)=_;rw[show mkRat 0 1=0 by rfl];exact sY
 rw[this];exact hj
def Vt{H:ak}{U:Bm}{xs:List IV}:∀{vs:List Value},ik false vs=some xs->CRL ZZ H U vs (uk xs):=by
 fun_induction uk xs with
 |case1 l ih=>
  intro vs h;obtain⟨v1,vs,rfl,h1,h⟩:=mV h;obtain⟨v2,vs,rfl,h2,h⟩:=mV h;obtain⟨v3,vs,rfl,h3,h⟩:=mV h;exact⟨D7 rfl (lN h1).1,D7 rfl (lN h2).1,D7 rfl (lN h3).1,ih h⟩
 |case2 l _ ih=>
  intro vs h;obtain⟨v1,vs,rfl,h1,h⟩:=mV h;exact⟨(lN h1).2 rfl,ih h⟩
 |case3 x l _ _ ih=>
  intro vs h;obtain⟨v1,vs,rfl,h1,h⟩:=mV h;exact⟨(lN h1).1,ih h⟩
 |case4=>
  intro vs h;rw[Iz h];exact trivial
def yv{Z:QS}{H:ak}{U:Bm}{v:Value}{x:IV}(hx:x.isAgg=false)(h:nB false v=some x):CR Z H U v (.iv x)/\(x=.sl []->CR Z H U v (.iv (.nil 3))):=by
 unfold nB at h;split at h
 . rename_i cs;cases hz:ik false cs.toList with
   |none=>rw[hz] at h;simp at h
   |some ys=>rw[hz] at h;simp at h;subst h;simp[IV.isAgg] at hx
 exact lN h
def JR{v:Value}{cs:List IV}(h:nB false v=some (.agg cs)):∃us:List Value,v=.agg us.toArray/\ik false us=some cs:=by
 unfold nB at h;split at h
 . rename_i us;cases hz:ik false us.toList with
   |none=>rw[hz] at h;simp at h
   |some ys=>rw[hz] at h;simp at h;subst h;exact⟨us.toList,by simp,hz⟩
 rename_i hn;unfold pK at h;split at h<;>simp at h
def Rw{Z:QS}{H:ak}{U:Bm}{v:Value}{x:IV}(h:nB false v=some x):WR Z H U v (Eu x):=by
 unfold Eu;split
 . obtain⟨us,rfl,hu⟩:=JR h;exact⟨us,rfl,Vs hu⟩
 . exact(yv (Z:=Z) (H:=H) (U:=U) rfl h).2 rfl
 rename_i h1 h2;exact(yv (Z:=Z) (H:=H) (U:=U) (by cases x<;>first|rfl|exact absurd rfl (h1 _)) h).1
def Rx{H:ak}{U:Bm}{v:Value}{x:IV}(h:nB false v=some x):WR ZZ H U v (Ev x):=by
 unfold Ev;split
 . obtain⟨us,rfl,hu⟩:=JR h;have hc:=Vt (H:=H) (U:=U) hu;split
   . rename_i he;rw[he] at hc;exact IP (Z:=ZZ) (r:=0) (d:=1) hc
   exact⟨us,rfl,hc⟩
 . exact(yv (Z:=ZZ) (H:=H) (U:=U) rfl h).2 rfl
 rename_i h1 h2;exact(yv (Z:=ZZ) (H:=H) (U:=U) (by cases x<;>first|rfl|exact absurd rfl (h1 _)) h).1
noncomputable def pe(t:TypeId):Option EW:=match TT t with
 |some ty=>bif tY t then none else some (Eu ty.zero)
 |none=>none
noncomputable def DO(t:TypeId):Option EW:=match TT t with
 |some ty=>bif tY t then none else some (Ev ty.zero)
 |none=>none
def HP{t:TypeId}{ty:TY}(h:TT t=some ty)(hn:tY t=false):∃i z,Tryz.prog.info? t=some i/\i.zero=some z/\nB false z=some ty.zero:=by
 have h':=Ap t ty h;unfold wF at h';split at h'
 .
  rename_i i d h1 h2;split at h'
  . rename_i z h3;split at h'
    . rename_i zz fs h4 h5;simp only[ai] at h';subst h';rw[hn] at h4;exact⟨i,z,h1,h3,h4⟩
    cases h'
  cases h'
 cases h'
def Qn(t:TypeId)(y:EW)(h:pe t=some y):∃i z,Tryz.prog.info? t=some i/\i.zero=some z/\∀H U,WR ZZ H U z y:=by
 unfold pe at h;split at h
 .
  rename_i ty ht;cases hn:tY t with
  |true=>rw[hn] at h;cases h
  |false=>
   rw[hn] at h;simp only[bh,ai] at h;subst h;obtain⟨i,z,h1,h2,h3⟩:=HP ht hn;exact⟨i,z,h1,h2,fun H U=>Rw h3⟩
 cases h
def Qo(t:TypeId)(y:EW)(h:DO t=some y):∃i z,Tryz.prog.info? t=some i/\i.zero=some z/\∀H U,WR ZZ H U z y:=by
 unfold DO at h;split at h
 .
  rename_i ty ht;cases hn:tY t with
  |true=>rw[hn] at h;cases h
  |false=>
   rw[hn] at h;simp only[bh,ai] at h;subst h;obtain⟨i,z,h1,h2,h3⟩:=HP ht hn;exact⟨i,z,h1,h2,fun H U=>Rx h3⟩
 cases h
def pL(n:Int):Bool:=Nat.blt n.natAbs 9223372036854775808
def lW(n:Nat):KV->Bool
 | .ints l=>Nat.beq l.length n&&l.all pL
 |_=>false
def nr:KV->Bool
 | .str s=>Nat.ble s.length 1000000
 |_=>false
def oo(t:TypeId):Option (TypeId×TypeId×(KV->Bool)) :=
 bif Nat.beq t 237 then some (235,55,lW 5) else
 bif Nat.beq t 208 then some (9,3,nr) else
 bif Nat.beq t 272 then some (228,3,lW 4) else none
def SU{n:Int}(h:pL n=true):(Lit.int .i64 n).wf=true:=by
 have h:=nj h;have e1:IntKind.i64.min = -9223372036854775808:=rfl;have e2:IntKind.i64.max=9223372036854775807:=rfl;simp only[Lit.wf,aH,ff];rw[e1,e2];omega
def Pv{P:Program}{k e:TypeId}{n d:Nat}(hk:P.underlying k=some (.array n e))(he:P.underlying e=some (.int .i64))(c1:P.cellsOf k=n)(c2:P.cellsOf e=1){l:List Int}(hl:l.length=n)(hw:∀x∈l,pL x=true) :
 ∃r,P.keyLits (d+2) k (l.map (Value.int .i64))=some r:=by
 have one:∀x,pL x=true->P.keyLits (d+1) e [Value.int .i64 x]=some [.int .i64 x]:=fun x hx=>by
  unfold Program.keyLits;rw[he];simp only[true_and,SU hx,bL]
 have key:∀(is:List Nat),(∀i∈is,i<n)->∃rs,(is.mapM fun i=>P.keyLits (d+1) e (((l.map (Value.int .i64)).drop (i*P.cellsOf e)).take (P.cellsOf e)))=some rs:=by
  intro is;induction is with
  |nil=>intro _;exact⟨[],rfl⟩
  |cons i is ih=>
   intro hi;obtain⟨rs,hr⟩:=ih fun j hj=>hi j (by simp[hj]);have hlt:i<l.length:=by rw[hl];exact hi i (by simp)
   have ec:((l.map (Value.int .i64)).drop (i*P.cellsOf e)).take (P.cellsOf e)=[Value.int .i64 l[i]]:=by
    rw[c2,eB,gS (by simpa using hlt)];simp
   refine⟨[.int .i64 l[i]]::rs,?_⟩;rw[A1,ec,one _ (hw _ (iw hlt)),hr];rfl
 obtain⟨rs,hr⟩:=key (List.range n) fun i hi=>List.mem_range.1 hi;refine⟨rs.flatten,?_⟩;unfold Program.keyLits;rw[hk];simp only[aV,hl,c1,bL,hr,fE]
def Q7{P:Program}{k e:TypeId}{n:Nat}(A:WideMaps.ArrKey P k e n)(he:P.underlying e=some (.int .i64))(hsz:∃m,P.types.size=m+1){l:List Int}(hl:l.length=n)(hw:∀x∈l,pL x=true):∃r,keyOf P k (.agg (l.map (Value.int .i64)).toArray)=some r:=by
 obtain⟨m,hm⟩:=hsz;obtain⟨r,hr⟩:=Pv (d:=m) A.hu he A.size A.one hl hw;refine⟨.string (keyBytes r),?_⟩;unfold keyOf;rw[A.hu];have hf:Value.formed P k (.agg (l.map (Value.int .i64)).toArray)=true:=by
  unfold Value.formed;rw[A.hu];simp[hl,A.size]
 simp only[A.keyType ⟨m,hm⟩,hf,mT,bL];rw[hm];show Option.map _ (P.keyLits (m+1+1) k (l.map (Value.int .i64)))=_;rw[hr];rfl
def Mg:WideMaps.ArrKey Tryz.prog 235 3 5:=⟨by kernel_rfl,by kernel_rfl,by kernel_rfl,by kernel_rfl⟩
def Mh:WideMaps.ArrKey Tryz.prog 228 3 4:=⟨by kernel_rfl,by kernel_rfl,by kernel_rfl,by kernel_rfl⟩
def XF:Tryz.prog.underlying 3=some (.int .i64):=by kernel_rfl
def XY:∃m,Tryz.prog.types.size=m+1:=⟨_,(by kernel_rfl:Tryz.prog.types.size=345+1)⟩
def Hg{k e:TypeId}{n:Nat}(A:WideMaps.ArrKey Tryz.prog k e n)(he:e=3)(v:Value)(kv:KV)(h1:KVR v kv)(h2:lW n kv=true):∃l,keyOf Tryz.prog k v=some l:=by
 subst he;cases h1 with
 |str s=>cases h2
 |ints l=>
  simp only[lW,aH] at h2;exact Q7 A XF XY (aB h2.1) (List.all_eq_true.1 h2.2)
def Kv(t k e:TypeId)(ok:KV->Bool)(h:oo t=some (k,e,ok)):Tryz.prog.underlying t=some (.map k e)/\Maps.Keyed Tryz.prog k/\∀v kv,KVR v kv->ok kv=true->∃l,keyOf Tryz.prog k v=some l:=by
 unfold oo at h;cases h1:Nat.beq t 237 with
 |true=>
  rw[h1] at h;simp only[al,ai,aC] at h;obtain⟨rfl,rfl,rfl⟩:=h;have:=aB h1;subst this;exact⟨by kernel_rfl,Oo Mg.law,Hg Mg rfl⟩
 |false=>
  rw[h1,bh] at h;cases h2:Nat.beq t 208 with
  |true=>
   rw[h2] at h;simp only[al,ai,aC] at h;obtain⟨rfl,rfl,rfl⟩:=h;have:=aB h2;subst this;have hs:Tryz.prog.underlying 9=some .string:=by kernel_rfl
   refine⟨by kernel_rfl,Oo (WideMaps.string_law hs),fun v kv k1 k2=>?_⟩;cases k1 with
   |ints l=>cases k2
   |str s=>
    refine⟨.string s.data.toList,?_⟩;have hle:=bl k2;unfold keyOf;rw[hs];simp only[mapKey,hs];rw[au];have:s.size=s.data.toList.length:=by rw[fC];rfl
    unfold maxLen;omega
  |false=>
   rw[h2,bh] at h;cases h3:Nat.beq t 272 with
   |true=>
    rw[h3] at h;simp only[al,ai,aC] at h;obtain⟨rfl,rfl,rfl⟩:=h;have:=aB h3;subst this;exact⟨by kernel_rfl,Oo Mh.law,Hg Mh rfl⟩
   |false=>rw[h3] at h;cases h
noncomputable def BS:Tab:=⟨TT,pe,oo⟩
noncomputable def BE:Tab:=⟨TT,DO,oo⟩
def mixed:Tryz.prog.follows .mixedOrders=true:=by kernel_rfl
noncomputable def XS(J:Keep):EX:=⟨Tryz.prog,BS,Ap,mixed,J.I,ZZ,Qn,Kv⟩
noncomputable def XE(J:Keep):EX:=⟨Tryz.prog,BE,Ap,mixed,J.I,ZZ,Qo,Kv⟩
end Go.Proofs.En
namespace Go.Proofs.En
open Go.RowKit Go.Proofs.Fl
def mf:Nat->List EO->List (Nat×EO)
 |_,[]=>[]
 |i,o::l=>(i,o)::mf (i+1) l
def ID:∀{l:List EO} {i g:Nat},dA (mf i l) g=if i<=g then l[g-i]? else none
 | [],i,g=>by simp[mf,dA]
 |o::l,i,g=>by
  unfold mf dA;by_cases h:g=i
  . subst h;simp[bD]
  rw[dU h,bh,ID];by_cases h1:i+1<=g
  . rw[au h1,au (by omega),show g-i=(g-(i+1))+1 by omega];simp
  rw[aq h1,aq (by omega)]
def Rz(l:List EO):dA (mf 0 l)=gt l:=by
 funext g;rw[ID];simp[gt]
inductive ArgOk(k:Nat):ES->Prop
 |c {x:ES} (h:(fP x).all (fun i=>Nat.blt i k)=true):ArgOk k x
 |d {x:ES} (h:fP x=[]):ArgOk k x
def zZ(k:Nat):List ES->Prop
 | []=>True
 |x::l=>ArgOk k x/\zZ k l
inductive ObjOk(p:Nat->Bool):EO->Prop
 |c {o:EO} (h:Af p o=true):ObjOk p o
 |d {o:EO} (h:fR o):ObjOk p o
def tE(p:Nat->Bool):List EO->Prop
 | []=>True
 |o::l=>ObjOk p o/\tE p l
def MC:EO->Bool
 | .hid=>true
 |_=>false
def tO(zs:List EO)(i:Nat):Bool:=match zs[i]? with
 |some .hid=>false
 |some _=>true
 |none=>false
def I7{zs:List EO}{i:Nat}(h:tO zs i=true):gj zs i:=by
 unfold tO at h;split at h
 . cases h
 . rename_i o hn ho;exact⟨(List.getElem?_eq_some_iff.1 ho).1,fun e=>by rw[ho] at e;cases e;exact absurd rfl (hn)⟩
 cases h
def Iw{k:Nat}:∀{l:List ES},zZ k l->∀i∈l.flatMap fP,i<k
 | [],_,i,hi=>by cases hi
 |x::l,⟨h1,h2⟩,i,hi=>by
  simp only[cO,qB] at hi;rcases hi with hi|hi
  . cases h1 with
    |c h=>have:=List.all_eq_true.1 h i hi;rwa[dN] at this
    |d h=>rw[h] at hi;cases hi
  exact Iw h2 i hi
def R7{p:Nat->Bool}{P:Nat->Prop}(hp:∀i,p i=true->P i){o:EO}(h:ObjOk p o):wb o=true/\OIds P id o:=by
 cases h with
 |c h=>exact⟨(by cases o<;>first|rfl|cases h),Ib hp h⟩
 |d h=>exact⟨(by cases o<;>first|rfl|exact h.elim),x5 h⟩
def B2{p:Nat->Bool}{P:Nat->Prop}(hp:∀i,p i=true->P i):∀{l:List EO},tE p l->∀o∈l,wb o=true/\OIds P id o
 |x::l,⟨h1,h2⟩,o,ho=>by
  rcases List.mem_cons.1 ho with rfl|ho
  . exact R7 hp h1
  exact B2 hp h2 o ho
section
variable {X:EX}
def cF(ids:List Nat)(i:Nat):Nat:=ids.getD i 0
inductive MZ(V:Nat->Nat):Option EO->EO->Prop
 |c {x:Option EO} {o:EO} (h:x=some (fy V o)):MZ V x o
 |d {x:Option EO} {o:EO} (h:x=some o) (hc:fR o):MZ V x o
def pj(h:Hp)(V:Nat->Nat):Nat->List EO->Prop
 |_,[]=>True
 |i,o::l=>MZ V (h (V i)) o/\pj h V (i+1) l
def pU(h:Hp)(V:Nat->Nat):Nat->Nat->Prop
 |_,0=>True
 |i,n+1=>h (V i)=none/\pU h V (i+1) n
inductive OZ(V:Nat->Nat):EO->EO->Prop
 |c {o o':EO} (h:fy V o=o'):OZ V o o'
 |d {o:EO} (hc:fR o):OZ V o o
def pR(V:Nat->Nat):List EO->List EO->Prop
 | [],[]=>True
 |o::l,o'::l'=>OZ V o o'/\pR V l l'
 |_,_=>False
inductive RZ(V:Nat->Nat):ES->ES->Prop
 |c {x y:ES} (h:jf V x=y):RZ V x y
 |d {x:ES} (hc:fP x=[]):RZ V x x
def argZ(V:Nat->Nat):List ES->List ES->Prop
 | [],[]=>True
 |o::l,o'::l'=>RZ V o o'/\argZ V l l'
 |_,_=>False
def mg:List Nat->List EO->Wr
 |g::gs,o::l=>(g,o)::mg gs l
 |_,_=>[]
def RZ.eq{V:Nat->Nat}{x y:ES}(h:RZ V x y):jf V x=y:=by
 cases h with
 |c h=>exact h
 |d h=>exact GQ h
def argZ.eq{V:Nat->Nat}:∀{l l':List ES},argZ V l l'->l.map (jf V)=l'
 | [],[],_=>rfl
 |_::_,_::_,⟨h1,h2⟩=>by rw[aZ,h1.eq,argZ.eq h2]
 | [],_::_,h=>h.elim
 |_::_,[],h=>h.elim
def yi{h:Hp}{V:Nat->Nat}:∀{l:List EO} {k:Nat},pj h V k l->∀i o,l[i]?=some o->h (V (k+i))=some (fy V o)
 |o::l,k,⟨h1,h2⟩,0,o',hi=>by
  simp at hi;subst hi;cases h1 with
  |c h=>exact h
  |d h hc=>rw[BI hc];exact h
 |o::l,k,⟨h1,h2⟩,i+1,o',hi=>by
  have:=yi h2 i o' (by simpa using hi);rwa[show k+1+i=k+(i+1) by omega] at this
def yW{h:Hp}{V:Nat->Nat}:∀{n k:Nat},pU h V k n->∀i,i<n->h (V (k+i))=none
 |n+1,k,⟨h1,h2⟩,0,_=>h1
 |n+1,k,⟨h1,h2⟩,i+1,hi=>by
  have:=yW h2 i (by omega);rwa[show k+1+i=k+(i+1) by omega] at this
def x7:∀{ids:List Nat},lX ids=true->∀i j,i<ids.length->j<ids.length->ids.getD i 0=ids.getD j 0->i=j
 | [],_,i,_,h,_,_=>by simp at h
 |x::l,h,i,j,hi,hj,e=>by
  simp only[lX,aH] at h;have key:∀{k:Nat},k<l.length->x≠l.getD k 0:=fun{k} hk=>CF h.1 (by rw[cn,bi hk];exact iw hk);cases i with
  |zero=>cases j with
   |zero=>rfl
   |succ j=>simp only[List.getD_cons_zero,xy] at e;exact absurd e (key (by simpa using hj))
  |succ i=>cases j with
   |zero=>simp only[List.getD_cons_zero,xy] at e;exact absurd e.symm (key (by simpa using hi))
   |succ j=>
    simp only[xy] at e;rw[x7 h.2 i j (by simpa using hi) (by simpa using hj) e]
def yU{ids:List Nat}:∀{l l':List EO} {k:Nat},k+l.length=ids.length->pR (cF ids) l l'->ny (cF ids) k l=mg (ids.drop k) l'
 | [],[],k,_,_=>by
  cases ids.drop k<;>rfl
 |o::l,o'::l',k,hl,⟨h1,h2⟩=>by
  simp only[aY] at hl;have hk:k<ids.length:=by omega
  rw[gS hk];have e1:cF ids k=ids[k]:=by simp[cF,hk]
  have e2:fy (cF ids) o=o':=by
   cases h1 with
   |c h=>exact h
   |d h=>exact BI h
  show(cF ids k,fy (cF ids) o)::ny (cF ids) (k+1) l=(ids[k],o')::mg (ids.drop (k+1)) l';rw[e1,e2,yU (k:=k+1) (by omega) h2]
 | [],_::_,_,_,h=>h.elim
 |_::_,[],_,_,h=>h.elim
def vA:∀{ids:List Nat} {l:List EO} {p:Nat×EO},p∈mg ids l->p.1∈ids
 |g::gs,o::l,p,h=>by
  rcases List.mem_cons.1 h with rfl|h
  . simp
  exact dC _ (vA h)
 | [],_,_,h=>by cases h
 |_::_,[],_,h=>by cases h
def iB{nx:Nat}{f:FuncId}{args args0:List ES}{zs zs' zo:List EO}{r0 r:ES}{h:Hp}{K:ES->Wr->Nat->Option (List Nat)->Prop}(L:LocC X f args0 zs r0 zs')(ids:List Nat)(b:Nat)
 (hn:(Nat.beq ids.length zs'.length&&(lX ids&&ids.all fun i=>Nat.blt i (nx+b)))=true) (ha:argZ (cF ids) args0 args) (hz:pj h (cF ids) 0 zs) (hnew:pU h (cF ids) zs.length (zs'.length-zs.length)) (ho:pR (cF ids) zs' zo) (hr:RZ (cF ids) r0 r)
 (hK:K r (mg ids zo) b none):ct X nx f args h K:=by
 simp only[aH] at hn;have hlen:=aB hn.1;have hle:=L.le;have hc:=Bt L (V:=cF ids) (fun i j hi hj e=>x7 hn.2.1 i j (by omega) (by omega) e) (h:=h) (fun i o hi=>by have:=yi hz i o hi;rwa[a8] at this) fun i h1 h2=>by
  have:=yW hnew (i-zs.length) (by omega);rwa[show zs.length+(i-zs.length)=i by omega] at this
 rw[ha.eq,hr.eq,yU (by omega) ho,bW] at hc;refine .inr (.inl ⟨r,mg ids zo,b,hc,fun p hp=>.inl ?_,hK⟩);have:=List.all_eq_true.1 hn.2.2 p.1 (vA hp);rwa[dN] at this
def HH{nx:Nat}{f:FuncId}{args args0:List ES}{zs zs' zo:List EO}{r0 r:ES}{h:Hp}{K:ES->Wr->Nat->Option (List Nat)->Prop}(L:LocC X f args0 zs r0 zs')(ids:List Nat)(b:Nat)
 (hn:(Nat.beq ids.length zs'.length&&(lX ids&&ids.all fun i=>Nat.blt i (nx+b)))=true) (ha:argZ (cF ids) args0 args) (hz:pj h (cF ids) 0 zs) (hnew:pU h (cF ids) zs.length (zs'.length-zs.length)) (ho:pR (cF ids) zs' zo) (hr:RZ (cF ids) r0 r)
 (hK:K r (mg ids zo) b (some ids)):ct X nx f args h K:=by
 simp only[aH] at hn;have hlen:=aB hn.1;have hle:=L.le;have hmem:∀i,i<zs'.length->cF ids i∈ids:=fun i hi=>by
  unfold cF;rw[cn,bi (by omega)];exact iw _
 have key:∀h:Hp,pj h (cF ids) 0 zs->pU h (cF ids) zs.length (zs'.length-zs.length)->CallOk X f args h r (bw h (mg ids zo)):=fun h hz hnew=>by
  have hc:=Bt L (V:=cF ids) (fun i j hi hj e=>x7 hn.2.1 i j (by omega) (by omega) e) (h:=h) (fun i o hi=>by have:=yi hz i o hi;rwa[a8] at this) fun i h1 h2=>by
   have:=yW hnew (i-zs.length) (by omega);rwa[show zs.length+(i-zs.length)=i by omega] at this
  rwa[ha.eq,hr.eq,yU (by omega) ho,bW] at hc
 have hv:∀i,i<zs'.length->dF (fun g=>bV g ids) h (cF ids i)=h (cF ids i):=fun i hi=>qV (jT.2 (hmem i hi));have m2:∀{l:List EO} {k:Nat},k+l.length<=zs'.length->pj h (cF ids) k l->pj (dF (fun g=>bV g ids) h) (cF ids) k l:=by
  intro l;induction l with
  |nil=>intro k _ _;trivial
  |cons o l ih=>
   intro k hk hm;simp only[aY] at hk;exact⟨by rw[hv k (by omega)];exact hm.1,ih (by omega) hm.2⟩
 have n2:∀{n k:Nat},k+n<=zs'.length->pU h (cF ids) k n->pU (dF (fun g=>bV g ids) h) (cF ids) k n:=by
  intro n;induction n with
  |zero=>intro k _ _;trivial
  |succ n ih=>intro k hk hm;exact⟨by rw[hv k (by omega)];exact hm.1,ih (by omega) hm.2⟩
 refine .inr (.inr ⟨r,mg ids zo,b,ids,key h hz hnew,key _ (m2 (by omega) hz) (n2 (by omega) hnew),fun p hp=>⟨.inl ?_,vA hp⟩,hK⟩);have:=List.all_eq_true.1 hn.2.2 p.1 (vA hp);rwa[dN] at this
end
def c7(X:EX)(nP:Nat)(rd:Bool)(nt:Nat)(m:Nat)(c:Code)(s:SS)(K:Exit->SS->Prop):Prop :=
 ∀ro,(rd=false->ro=none)->∀(E:EEnv),(∀w',BelowO E.own E.w0 w'->X.I w')->(∀g,E.hid g->g<nP)->∀(w0:World) (H:ak) (U:Bm) (a:Act) (w:World) (Q:Exit->Act->World->Prop),SSm X E w0 nt H U s a w->
  (∀e s' a' w',K e s'->SPost X nP E w0 nt H U w s' a' w'->Q e a' w')->Code.roundsIn (FW ro) 0 X.P c Q m a w
section
variable {X:EX}{nP:Nat}{rd:Bool}{nt:Nat}{s:SS}{K:Exit->SS->Prop}
end
def YK{a:Int}{j:Nat}{K:Nat->Prop}(h:a=(j:Int))(k:K j):∃m:Nat,a=(m:Int)/\K m:=⟨j,h,k⟩
def XJ{l u n:Nat}{z:Bool}{K:Prop}(h1:l<=u)(h2:u<=n)(h3:l=0\/z=true)(k:K):l<=u/\u<=n/\(l=0\/z=true)/\K:=⟨h1,h2,h3,k⟩
def pW{a:Nat->cc}{nx:Nat}{r:ES}{ws:Wr}{K:Nat->Nat->ES->Wr->Prop}(k:K nx 1 r ws)(h:a nx=some (r,ws):=by exact rfl):∃g b r ws,a g=some (r,ws)/\g<nx+b/\K g b r ws:=⟨nx,1,r,ws,h,uT _,k⟩
variable {J:Keep}
def pS{f:FuncId}{fn:Func}{c:Code}(hf:Tryz.prog.funcs[f]?=some fn)(hb:fn.body=some c)(hn:(fn.name == "runtime.NumGoroutine")=false){xs:List IV}{r:IV}(hx:Nat.ble xs.length fn.ntmps=true)(hxt:kO xs=true)(hrt:qt r=true)
 (hw:SW (XS J) 0 false fn.ntmps c ⟨argS (xs.map dS),fun _=>none,0⟩ (kh (XS J) fn.results.toList fun _ rf=>rf=dS r)):C J f xs r :=
 W9 (X:=XS J) J.bel hf hb hn hx hxt hrt hw
def lB{a b:Bool}{K:Bool->Prop}(k:K b)(h:a=b:=by exact rfl):∃n,a=n/\K n:=⟨b,h,k⟩
def yT{α:Sort _}{a:α}{p:Prop}[Decidable p]{K:Bool->Prop}(k:K true)(h:p:=by omega):a=a/\∃n,decide p=n/\K n:=⟨rfl,true,bB h,k⟩
def yF{α:Sort _}{a:α}{p:Prop}[Decidable p]{K:Bool->Prop}(k:K false)(h:¬p:=by omega):a=a/\∃n,decide p=n/\K n:=⟨rfl,false,bE h,k⟩
def aM{a b:Int}{K:Int->Prop}(h:a=b)(k:K b):∃n,a=n/\K n:=⟨b,h,k⟩
def iH{a b:Nat}{K:Nat->Prop}(k:K b)(h:a=b:=by exact rfl):∃n,a=n/\K n:=⟨b,h,k⟩
def dH{a:Option EO}{o:EO}{K:EO->Prop}(k:K o)(h:a=some o:=by exact rfl):∃o,a=some o/\K o:=⟨o,h,k⟩
def cz{a:Option (List EV)}{o:List EV}{K:List EV->Prop}(k:K o)(h:a=some o:=by exact rfl):∃o,a=some o/\K o:=⟨o,h,k⟩
def lA{a:cc}{r:ES}{K:ES->Prop}(h:a=some (r,[]))(k:K r):∃r,a=some (r,[])/\K r:=⟨r,h,k⟩
def YJ{a:cc}{r:ES}{ws:Wr}{K:ES->Wr->Prop}(h:a=some (r,ws))(k:K r ws):∃r ws,a=some (r,ws)/\K r ws:=⟨r,ws,h,k⟩
def qy{a:cc}{g:Nat}{o:EO}{K:Nat->EO->Prop}(h:a=some (.und,[(g,o)]))(k:K g o):∃g o,a=some (.und,[(g,o)])/\K g o:=⟨g,o,h,k⟩
def Ng{a:Option EO}{es:List (EW×EW×Nat)}{ck:Nat}{K:Nat->Prop}(h:a=some (.map es ck))(k:K ck):∃es ck,a=some (.map es ck)/\K ck:=⟨es,ck,h,k⟩
def aO{a:Int}{es:List IV}{sz j:Nat}{y:IV}{K:IV->Prop}(k:K y)(h:a=(j:Int))(h1:es[j]?=some y)(h2:y.cells.length=sz:=by exact rfl):∃(j:Nat) (y:IV),a=(j:Int)/\es[j]?=some y/\y.cells.length=sz/\K y:=⟨j,y,h,h1,h2,k⟩
def jh{a:Int}{n off sz j o:Nat}{K:Nat->Prop}(k:K o)(h:a=(j:Int):=by exact rfl)(h1:j<n:=by omega)(h2:off+j*sz=o:=by exact rfl):∃j:Nat,a=(j:Int)/\j<n/\∃o,off+j*sz=o/\K o:=⟨j,h,h1,o,h2,k⟩
def wR{a:Int}{n j:Nat}{cs:List EV}{c:EV}{K:EV->Prop}(k:K c)(h:a=(j:Int):=by exact rfl)(h1:j<n:=by omega)(h2:cs[j]?=some c:=by exact rfl):∃(j:Nat) (c:EV),a=(j:Int)/\j<n/\cs[j]?=some c/\K c:=⟨j,c,h,h1,h2,k⟩
def bK{a:Nat->cc}{nx:Nat}{g b:Nat}{r:ES}{ws:Wr}{K:Nat->Nat->ES->Wr->Prop}(h:a g=some (r,ws))(h1:g<nx+b)(k:K g b r ws):∃g b r ws,a g=some (r,ws)/\g<nx+b/\K g b r ws:=⟨g,b,r,ws,h,h1,k⟩
def be{p q:Prop}(h:q)(f:Fl.Hid q->p:=by intro h;(repeat ((first|refine SW.R ?_|refine SW.c ?_|refine SW.RS ?_|refine SW.ret ?_|refine SW.skip ?_|refine cy ?_|refine yT ?_|refine yF ?_|refine And.intro rfl (lB (b:=true) ?_ (bne_iff_ne.2 (by omega)))|refine And.intro rfl (lB (b:=false) ?_ (bne_eq_false_iff_eq.2 (by omega)))|refine aM rfl ?_|refine lB ?_|refine iH ?_|refine dH ?_|refine cz ?_|refine pW ?_|refine And.intro (uv) ?_);conv=>whnf));exact h.1):p:=f ⟨h⟩
def aG{p q:Prop}(h:q)(f:Fl.Hid q->p:=by intro h;((first|refine SW.R ?_|refine SW.c ?_|refine SW.RS ?_|refine SW.ret ?_|refine SW.skip ?_);conv=>whnf);(repeat ((first|refine SW.R ?_|refine SW.c ?_|refine SW.RS ?_|refine SW.ret ?_|refine SW.skip ?_);conv=>whnf));exact h.1):p:=f ⟨h⟩
def aJ{p q:Prop}(h:q)(f:Fl.Hid q->p:=by intro h;((first|refine cy ?_|refine yT ?_|refine yF ?_|refine And.intro rfl (lB (b:=true) ?_ (bne_iff_ne.2 (by omega)))|refine And.intro rfl (lB (b:=false) ?_ (bne_eq_false_iff_eq.2 (by omega)))|refine aM rfl ?_|refine lB ?_|refine iH ?_|refine dH ?_|refine cz ?_|refine pW ?_|refine And.intro (uv) ?_);conv=>whnf);exact h.1):p:=f ⟨h⟩
def Fy(ag:Bool)(sz:Nat)(cs:List IV):IV:=match ag with
 |true=>.agg (cs.take sz)
 |false=>cs.headD (.bool false)
def fW(ag:Bool)(sz:Nat):Nat->List IV->List IV
 |0,_=>[]
 |n+1,cs=>Fy ag sz cs::fW ag sz n (cs.drop sz)
def cT{α U:Type}(f:α->Option U):List α->Option (List U)
 | []=>some []
 |a::l=>match f a with
  |some b=>match cT f l with
   |some bs=>some (b::bs)
   |none=>none
  |none=>none
def cb(T:TypeId->Option TY)(Z:QS)(S:Nat->Bool)(h:Hp):Nat->EV->Option IV
 |_,.iv x=>match x with
  | .nil 3=>some (.sl [])
  |x=>some x
 |_,.qc n d j=>(Z.qv n d).cells[j]?
 |f+1,.slc g u off n _=>match S g with
  |true=>match h g with
   |some (.mem e cs _ vs _)=>match T e,cW u vs with
    |some te,some p=>bif Nat.ble (off+n*te.size) p then(match cT (cb T Z S h f) ((cs.drop off).take (n*te.size)) with
     |some xs=>bif b7 te.size (fW te.sh.agg te.size n xs)&&(te.sh.agg||(Nat.beq te.size 1&&xs.all fun x=>!x.isAgg)) then some (.sl (fW te.sh.agg te.size n xs)) else none
     |none=>none) else none
    |_,_=>none
   |_=>none
  |false=>none
 |_,_=>none
def rS(T:TypeId->Option TY)(Z:QS)(S:Nat->Bool)(h:Hp)(f:Nat):EW->Option IV
 | .one c=>cb T Z S h f c
 | .agg cs=>match cT (cb T Z S h f) cs with
  |some xs=>some (.agg xs)
  |none=>none
 | .q n d=>some (Z.qv n d)
def iN(T:TypeId->Option TY)(Z:QS)(S:Nat->Bool)(h:Hp)(f:Nat):ES->Option IV
 | .w x=>rS T Z S h f x
 | .tup xs=>match cT (rS T Z S h f) xs with
  |some ys=>some (.tup ys)
  |none=>none
 |_=>none
def CN(ag:Bool)(sz:Nat):∀(n:Nat) (cs:List IV),(fW ag sz n cs).length=n
 |0,_=>rfl
 |n+1,cs=>by rw[fW,aY,CN ag sz n]
def Ht{ag:Bool}{sz:Nat}:∀{n:Nat} {cs:List IV},cs.length=n*sz->(ag=true\/(sz=1/\∀x∈cs,x.isAgg=false))->(fW ag sz n cs).flatMap IV.cells=cs
 |0,cs,h,_=>by
  rw[nN] at h;rw[ss h];rfl
 |n+1,cs,h,ha=>by
  rw[xL] at h;have ih:=Ht (ag:=ag) (sz:=sz) (n:=n) (cs:=cs.drop sz) (by rw[nO];omega) (ha.imp id fun k=>⟨k.1,fun x hx=>k.2 x (jK hx)⟩);rw[fW,cO,ih];cases ag with
  |true=>exact kC _ _
  |false=>
   obtain⟨h1,hb⟩:sz=1/\∀x∈cs,x.isAgg=false:=ha.resolve_left (by simp);subst h1;cases cs with
   |nil=>simp at h
   |cons x cs=>
    have:=hb x (by simp);have e:x.cells=[x]:=by cases x<;>first|rfl|simp[IV.isAgg] at this
    show x.cells++cs=x::cs;rw[e];rfl
noncomputable def gJ(U:Bm)(S:Nat->Bool)(h:Hp)(H:ak)(w:World):ak:=fun b=>match H b with
 |some a=>some a
 |none=>open Classical in if ∃g u k e cs fz vs cnt p,S g=true/\h g=some (.mem e cs fz vs cnt)/\(u,p)∈vs/\U g u=some k/\k.1=b then(match w.heap[b]? with
  |some (.cells arr _ _)=>some arr
  |_=>none) else none
section
variable {Z:QS}{E:EEnv}{H:ak}{U:Bm}{h:Hp}{w:World}{T:TypeId->Option TY}{S:Nat->Bool}
def nZ:HLe H (gJ U S h H w):=fun b arr hb=>by unfold gJ;rw[hb]
def Im(hh:HeapHas w H):HeapHas w (gJ U S h H w):=fun b arr hb=>by
 unfold gJ at hb;split at hb
 . rename_i a ha;simp only[ai] at hb;subst hb;exact hh b a ha
 split at hb
 . split at hb
   . rename_i arr' e fr he;simp only[ai] at hb;subst hb;exact⟨_,_,he⟩
   cases hb
 cases hb
def Rb(hS:ESim Z E H U h w){g u p:Nat}{e:TypeId}{cs:List EV}{fz:Bool}{vs:List (Nat×Nat)}{cnt:Nat}(hs:S g=true)(hg:h g=some (.mem e cs fz vs cnt))(hv:(u,p)∈vs) :
 ∃k arr,U g u=some k/\gJ U S h H w k.1=some arr/\E.own k.1/\w.heap[k.1]?=some (.cells arr e (0,0))/\p<=arr.size/\p<=cs.length/\CRL Z H U (arr.toList.take p) (cs.take p):=by
 obtain⟨_,hall⟩:=hS.obj g _ hg;obtain⟨h1,k,arr,h2,h3,h4,h5,h6,h7,h8,h9⟩:=hall u p hv;refine⟨k,arr,h2,?_,h3,h5,h8,h7,h9⟩;unfold gJ;cases fz with
 |true=>rw[au rfl] at h4;rw[h4]
 |false=>
  rw[aq (by simp)] at h4;rw[h4];simp only;rw[au ⟨g,u,k,e,cs,false,vs,cnt,p,hs,hg,hv,h2,rfl⟩,h5]
def Cf(hS:ESim Z E H U h w){b:Nat}{arr:Array Value}(hb:gJ U S h H w b=some arr):H b=some arr\/(E.own b/\∃g u k e cs fz vs cnt p,S g=true/\h g=some (.mem e cs fz vs cnt)/\(u,p)∈vs/\U g u=some k/\k.1=b):=by
 unfold gJ at hb;split at hb
 . rename_i a ha;simp only[ai] at hb;subst hb;exact .inl ha
 split at hb
 . rename_i hx;obtain⟨g,u,k,e,cs,fz,vs,cnt,p,h1,h2,h3,h4,h5⟩:=hx;obtain⟨_,hall⟩:=hS.obj g _ h2;obtain⟨_,k',arr',k1,k2,_⟩:=hall u p h3;rw[h4] at k1;cases k1;exact .inr ⟨by rw[<-h5];exact k2,g,u,k,e,cs,fz,vs,cnt,p,h1,h2,h3,h4,h5⟩
 cases hb
def DJ{H':ak}{f:EV->Option IV}:∀{cs:List EV} {us:List Value} {xs:List IV},(∀v x y,CR Z H U v x->f x=some y->VR H' v y)->CRL Z H U us cs->cT f cs=some xs->CRL Z H' U us (xs.map .iv)/\xs.length=cs.length
 | [],[],xs,_,_,h=>by
  simp only[cT,ai] at h;subst h;exact⟨trivial,rfl⟩
 |c::cs,u::us,xs,hf,⟨h1,h2⟩,h=>by
  unfold cT at h;split at h
  . rename_i b hb;split at h
    . rename_i bs hbs;simp only[ai] at h;subst h;obtain⟨i1,i2⟩:=DJ hf h2 hbs;exact⟨⟨⟨h1.one,hf _ _ _ h1 hb⟩,i1⟩,by simp[i2]⟩
    cases h
  cases h
 | [],_::_,_,_,h,_=>h.elim
 |_::_,[],_,_,h,_=>h.elim
def K7(hS:ESim Z E H U h w):∀{f:Nat} {x:EV} {v:Value} {y:IV},CR Z H U v x->cb T Z S h f x=some y->VR (gJ U S h H w) v y:=by
 intro f;induction f with
 |zero=>
  intro x v y hv hd;unfold cb at hd;split at hd
  . split at hd
    . simp only[ai] at hd;subst hd;have:=hv.2;cases this;exact .sl0 _ _
    simp only[ai] at hd;subst hd;exact hv.2.mono nZ
  . obtain⟨_,x,h1,h2⟩:=hv;rw[h1] at hd;simp only[ai] at hd;subst hd;exact h2.mono nZ
  . contradiction
  cases hd
 |succ f ih=>
  intro x v y hv hd;unfold cb at hd;split at hd
  . split at hd
    . simp only[ai] at hd;subst hd;have:=hv.2;cases this;exact .sl0 _ _
    simp only[ai] at hd;subst hd;exact hv.2.mono nZ
  . obtain⟨_,x,h1,h2⟩:=hv;rw[h1] at hd;simp only[ai] at hd;subst hd;exact h2.mono nZ
  .
   rename_i f' g u off n cap hf;cases hf;split at hd
   .
    rename_i hs;split at hd
    .
     rename_i e cs fz vs cnt hg;split at hd
     .
      rename_i te p ht hp;cases hb:Nat.ble (off+n*te.size) p with
      |false=>rw[hb] at hd;cases hd
      |true=>
       rw[hb,al] at hd;have hb:=bl hb;split at hd
       .
        rename_i xs hxs;cases hc:(b7 te.size (fW te.sh.agg te.size n xs)&&(te.sh.agg||(Nat.beq te.size 1&&xs.all fun x=>!x.isAgg))) with
        |false=>rw[hc] at hd;cases hd
        |true=>
         rw[hc,al] at hd;simp only[ai] at hd;subst hd;simp only[aH,iW,mN,gz] at hc;obtain⟨k,arr,k1,k2,_,k3,k4,k5,k6⟩:=Rb (S:=S) hS hs hg (oX hp);obtain⟨k',c,e1,rfl,e2,e3⟩:=hv;rw[k1] at e1;cases e1;have h5:=(k6.drop off).take (n*te.size);rw[mH,mH,cB,cB,ce (by omega)] at h5;obtain⟨a1,a2⟩:=DJ (H':=gJ U S h H w) (fun v x y hv hd=>ih hv hd) h5 hxs;have hl:xs.length=n*te.size:=by rw[a2,bG,nO];omega
         have hcells:=Ht (ag:=te.sh.agg) hl (hc.2.imp id fun k=>⟨aB k.1,k.2⟩);rw[<-hcells] at a1;obtain⟨vs',v1,v2,v3⟩:=xQ hc.1 a1;have hln:=v1.length;rw[CN] at hln;refine VR.sl k.1 off n c te.size arr vs' _ k2 v1 (CN _ _ _ _).symm e2 v3 ?_;rw[v2,hln]
       cases hd
     cases hd
    cases hd
   cases hd
  cases hd
def K6(hS:ESim Z E H U h w){f:Nat}{x:EW}{v:Value}{y:IV}(hv:WR Z H U v x)(hd:rS T Z S h f x=some y):VR (gJ U S h H w) v y:=by
 unfold rS at hd;split at hd
 . exact K7 hS hv hd
 . split at hd
   . rename_i cs xs hxs;simp only[ai] at hd;subst hd;obtain⟨us,rfl,hu⟩:=hv;obtain⟨a1,a2⟩:=DJ (H':=gJ U S h H w) (fun v x y hv hd=>K7 hS hv hd) hu hxs;obtain⟨b1,b2⟩:=vU a1;exact .agg _ _ b1 b2
   cases hd
 simp only[ai] at hd;subst hd;exact VR.mono nZ hv
def Lm(hS:ESim Z E H U h w){f:Nat}:∀{xs:List EW} {us:List Value} {ys:List IV},WRL Z H U us xs->cT (rS T Z S h f) xs=some ys->VRL (gJ U S h H w) us ys
 | [],[],ys,_,hd=>by
  simp only[cT,ai] at hd;subst hd;exact .nil
 |x::xs,u::us,ys,⟨h1,h2⟩,hd=>by
  unfold cT at hd;split at hd
  . rename_i b hb;split at hd
    . rename_i bs hbs;simp only[ai] at hd;subst hd;exact .cons _ _ _ _ (K6 hS h1 hb) (Lm hS h2 hbs)
    cases hd
  cases hd
 | [],_::_,_,h,_=>h.elim
 |_::_,[],_,h,_=>h.elim
def K8(hS:ESim Z E H U h w){f:Nat}{x:ES}{v:Value}{y:IV}(hv:SRe Z H U v x)(hd:iN T Z S h f x=some y):VR (gJ U S h H w) v y:=by
 unfold iN at hd;split at hd
 . exact K6 hS hv hd
 . split at hd
   . rename_i ys hys;simp only[ai] at hd;subst hd;obtain⟨us,rfl,hu⟩:=hv;exact .tup _ _ (Lm hS hu hys)
   cases hd
 cases hd
end
def wE:Nat->PT ES
 |0=>.nil
 |n+1=>(wE n).set n .unk
def qp(nt:Nat):List (Nat×ES)->PT ES
 | []=>wE nt
 | (n,x)::l=>(qp nt l).set n x
def oy:List (Nat×EO)->PT EO
 | []=>.nil
 | (n,x)::l=>(oy l).set n x
def J1:∀{nt n:Nat},(wE nt).sl n=if n<nt then .unk else .und
 |0,n=>by simp[wE,PT.sl,PT.get]
 |k+1,n=>by
  have ih:=J1 (nt:=k) (n:=n);unfold PT.sl at ih ⊢;rw[wE,nV];by_cases h:n=k
  . subst h;simp
  rw[aq h,ih];by_cases h2:n<k
  . rw[au h2,au (by omega)]
  rw[aq h2,aq (by omega)]
def LI{nt:Nat}{Z:QS}{H:ak}{U:Bm}{f:Nat->Value}(hf:∀t,nt<=t->f t=undef):∀{l:List (Nat×ES)} {t:Nat},SRe Z H U (f t) (qk l t)->SRe Z H U (f t) ((qp nt l).sl t)
 | [],t,h=>by
  rw[qp,J1];by_cases h:t<nt
  . rw[au h];exact trivial
  rw[aq h];exact hf t (by omega)
 | (n,x)::l,t,h=>by
   unfold PT.sl;rw[qp,nV];rw[qk] at h;by_cases h2:t=n
   . subst h2;rw[bD,al] at h;simp only[bL];exact h
   rw[dU h2,bh] at h;rw[aq h2];exact LI hf h
def Di:∀(l:List (Nat×EO)),(oy l).get=dA l
 | []=>by funext n;simp[oy,PT.get,dA]
 | (n,x)::l=>by
   funext m;have ih:=congrFun (Di l) m;rw[oy,nV,dA];by_cases h:m=n
   . subst h;simp[bD]
   rw[aq h,dU h,bh];exact ih
def rY(nx:Nat):List Nat->Bool
 | []=>true
 |g::l=>Nat.blt g nx&&rY nx l
def Lu{nx:Nat}:∀{l:List Nat},rY nx l=true->∀g∈l,g<nx
 |x::l,h,g,hg=>by
  simp only[rY,aH] at h;rcases List.mem_cons.1 hg with rfl|hg
  . have:=h.1;rwa[dN] at this
  exact Lu h.2 g hg
section
variable {X:EX}{nP:Nat}{rd:Bool}{nt:Nat}{K:Exit->SS->Prop}
def Cs{F:FuncId->Option FnE}{orc:FuncId->List ES->Hs->Option (ES×Hs)}(hF:∀f q,F f=some q->∃fn,FnOk X f q fn)(horc:jv X orc)(n:Nat){code:Code}{l:List (Nat×ES)}{m:List (Nat×EO)}{nx:Nat}{e:Exit}{s':Sg}
 (he:AO (X.ee F orc) n rd nt code ⟨qp nt l,⟨oy m,nx,[]⟩⟩=some (e,s')) (hw:rY (s'.s.nx+nx) s'.s.wl=true) (hfr:po nx m=true) (hk:K e ⟨s'.tm.sl,s'.s.h.get,s'.s.nx+nx⟩):SW X nP rd nt code (aR l m nx) K:=fun ro hro E hI hh w0 H U a w Q hS hQ=>by
 have ho:=(Wz hF horc n rd nt code _ e s' he).1;refine ho.2 ro hro E hI w0 H U a w Q ⟨?_,hS.mks,hS.sm⟩ fun a' w' hp=>hQ e _ a' w' hk ?_
 . show ESt X E nt H U (qp nt l).sl (oy m).get a w;rw[Di];exact⟨hS.st.sim,fun t=>LI (f:=fun t=>a.tmps.getD t undef) (fun t ht=>by
    have:=hS.st.size;simp[FB,uO (show a.tmps.size<=t by omega)]) (hS.st.slot t),hS.st.size⟩
 obtain⟨H',U',h1,h2,⟨h3,h4,h5⟩,h6⟩:=hp;refine⟨H',U',h1,BLeP.of h2,⟨h3,h4,h5,fun g hg=>?_⟩,h6⟩;show s'.s.h.get g=none;have hg':s'.s.nx+nx<=g:=hg;rw[ho.1.1 g fun hm=>?_]
 . show(oy m).get g=none;rw[Di];exact ym hfr g (by omega)
 have:=Lu hw g hm;omega
end
section
variable {X:EX}
def EG(hbel:∀n w w',X.I w->w.heap.size<=n->Below n w w'->X.I w'){f:FuncId}{fn:Func}{c:Code}(hf:X.P.funcs[f]?=some fn)(hb:fn.body=some c)(hn:(fn.name == "runtime.NumGoroutine")=false){xs:List IV}{r:IV}(hx:Nat.ble xs.length fn.ntmps=true)(hxt:kO xs=true)(fu:Nat)
 (hw:SW X 0 false fn.ntmps c ⟨argS (xs.map dS),fun _=>none,0⟩ (kh X fn.results.toList fun h rf=>iN X.T X.Z (fun _=>true) h fu rf=some r)):aW X.P X.I f xs r:=by
 refine⟨⟨fn,hf,hn,by rw[hb];rfl⟩,fun H w args hIw hH hv=>?_⟩;have hS:ESim X.Z ⟨fun k=>w.heap.size<=k,w,H,fun _=>False,fun _ _=>none⟩ H (fun _ _=>none) (fun _=>none) w :=
  ⟨hH,BelowO.refl _ _,fun k hk=>hk,HExtO.refl _ _,fun g o h=>(by cases h),fun g u k h=>(by cases h),fun g g' u u' k k' h=>(by cases h),fun g h=>h.elim⟩
 refine EN hf hb (by simpa using bl hx) (fun _ _=>rfl) hw (fun w' hb'=>hbel _ w w' hIw (ah _) hb'.below) (fun _ (h:False)=>h.elim) hS (SREL.ofData hv hxt) fun v H' U' hp' rf w' h1 h2 h3 h4 h5 h6=>?_;refine⟨v,gJ U' (fun _=>true) hp' H' w',rfl,Im h3.has,⟨h1.trans nZ,fun b arr hb=>?_⟩,K8 h3 h5 h6,h3.below.below⟩;rcases Cf h3 hb with e|e
 . exact h3.ext.2 b arr e
 exact .inr e.1
end
end Go.Proofs.En
