/-
  RegionMonomials: the monomials are the document's, or the error is, for every input; no condition.
-/
import Derived.Test.YtidnkcdelnfkjaaGreatDoorM2
import Derived.LoopNIn
import Derived.Test.YtidnkcdelnfkjaaGreatDoorProg
import Derived.KernelRfl
import Derived.Shelf.Strings.BuilderK
import Derived.Shelf.Strings.Builder1
import Derived.Shelf.Strings.Builder2
import Derived.Shelf.Small.Bits
import Derived.Shelf.Small.Wraps
import Derived.Shelf.Strings.BuilderF
import Derived.Shelf.Strings.Builder2Cap
import Derived.Shelf.Strconv.Itoa0
import Derived.Shelf.Strconv.Itoa1
import Derived.Shelf.LaysM
import Derived.Shelf.Strconv.Itoa2
import Derived.Shelf.Strconv.Itoa3
import Derived.Shelf.Strings.Prefix
import Derived.Shelf.Bits.Mul64
import Derived.Shelf.Strings.Repeat
import Derived.Shelf.Strings.BuilderCap
import Derived.Ground.Names2Prog
import Derived.Shelf.Slices.Clone
import Derived.Shelf.Slices.SearchI
import Derived.Ground.SlgnProg
import Derived.Shelf.SlicesE.Clone
namespace Go.Proofs.En
open Go.RowKit Go.Proofs.Fl
structure FnE where
 nt:Nat
 rs:List ResultVar
 body:Code
structure Hs where
 h:PT EO
 nx:Nat
 wl:List Nat
structure Sg where
 tm:PT ES
 s:Hs
structure EE where
 Z:QS
 B:Tab
 F:FuncId→Option FnE
 orc:FuncId→List ES→Hs→Option (ES×Hs)
def wrP(h:PT EO):Wr→PT EO
 | []=>h
 | (g,o)::l=>wrP (h.set g o) l
theorem wrP_get:∀(ws:Wr) (h:PT EO),(wrP h ws).get=wrs h.get ws
 | [],_=>rfl
 | (g,o)::l,h=>by
   rw[wrP,wrP_get l,wrs]
   congr 1
   funext m
   rw[PT.get_set]
   by_cases e:m=g
   · subst e;rw[if_pos rfl,upd_same]
   · rw[if_neg e,upd_other _ _ _ e]
def Hs.put(s:Hs)(g:Nat)(o:EO):Hs:=⟨s.h.set g o,s.nx,g::s.wl⟩
def forceES{α:Sort _}(x:ES)(k:ES→α):α:=match x with
 | .unk=>k .unk
 | .und=>k .und
 | .tup xs=>k (.tup xs)
 | .w (.one (.iv x))=>k (.w (.one (.iv x)))
 | .w (.one (.ptr g u o))=>k (.w (.one (.ptr g u o)))
 | .w (.one (.slc g u o n c))=>k (.w (.one (.slc g u o n c)))
 | .w (.one c)=>k (.w (.one c))
 | .w (.agg cs)=>k (.w (.agg cs))
 | .w (.q n d)=>k (.w (.q n d))
theorem forceES_eq{α:Sort _}(x:ES)(k:ES→α):forceES x k=k x:=by
 unfold forceES
 split<;>rfl
def forceLS{α:Sort _}:List ES→(List ES→α)→α
 | [],k=>k []
 |x::xs,k=>forceES x fun x=>forceLS xs fun xs=>k (x::xs)
theorem forceLS_eq{α:Sort _}:∀(l:List ES) (k:List ES→α),forceLS l k=k l
 | [],_=>rfl
 |x::xs,k=>by rw[forceLS,forceES_eq,forceLS_eq xs]
def memN(n:Nat):List Nat→Bool
 | []=>false
 |m::l=>bif Nat.beq n m then true else memN n l
theorem memN_iff{n:Nat}:∀{l:List Nat},memN n l=true↔n∈l
 | []=>by simp[memN]
 |m::l=>by
  unfold memN
  cases h:Nat.beq n m with
  |true=>have:=Nat.eq_of_beq_eq_true h;subst this;simp
  |false =>
   have hne:n≠m:=fun e=>by subst e;rw[Nat.beq_refl] at h;cases h
   simp only[cond_false,memN_iff (l:=l),List.mem_cons]
   exact⟨.inr,fun h=>h.resolve_left hne⟩
def rdE:ES→List Nat
 | .w (.one (.ptr g _ _))=>[g]
 | .w (.one (.slc g _ _ _ _))=>[g]
 | .w (.one (.mp g))=>[g]
 |_=>[]
def ysE(all:Array Oper)(tm:Nat→ES)(o:Oper):Option Bool :=
 match o.guard with
 |none=>some true
 |some (j,want)=>match(all[j]?).bind (·.dst) with
  |none=>some false
  |some t=>match tm t with
   | .w (.one (.iv (.bool b)))=>some (b==want)
   | .und=>some false
   |_=>none
def capE(gs:List Nat):List ES:=gs.map fun g=>.w (.one (.ptr g 0 0))
section
variable (Y:EE)(call:FuncId→List ES→Hs→Option (ES×Hs))(yld:Nat→List ES→Hs→Option Hs)
def callE(fo:ES)(args:List ES)(s:Hs):Option (ES×Hs) :=
 match fo with
 | .w (.one (.iv (.fn f)))=>match Y.orc f args s with
  |some x=>some x
  |none=>call f args s
 | .w (.one (.clo f gs))=>match Y.orc f (args++capE gs) s with
  |some x=>some x
  |none=>call f (args++capE gs) s
 | .w (.one (.yld g))=>match yld g args s with
  |some s'=>some (iv1 (.bool true),s')
  |none=>none
 |_=>none
def isCall:Op→Option (Operand×List Operand)
 | .call { callee:=.value fo,args,argTypes:=_ }=>some (fo,args.toList)
 |_=>none
def evOne(o:Op)(ρ:Operand→ES)(s:Hs):Option (ES×Hs) :=
 match isCall o with
 |some (fo,args)=>forceLS (args.map ρ) fun args=>callE Y call yld (ρ fo) args s
 |none=>forceN s.nx fun g=>match eOp Y.Z Y.B o ρ s.h.get g with
  |some (r,ws)=>forceN (g+1) fun n=>(wrP s.h ws).force fun h=>some (r,⟨h,n,ws.map Prod.fst++s.wl⟩)
  |none=>none
def putT(tm:PT ES)(dst:Option Nat)(r:ES):PT ES :=
 match dst with
 |some d=>tm.set d r
 |none=>tm
theorem putT_sl(tm:PT ES)(dst:Option Nat)(r:ES):(putT tm dst r).sl=putE tm.sl dst r:=by
 cases dst with
 |none=>rfl
 |some d =>
  funext t
  show((tm.set d r).get t).getD .und=upd tm.sl d r t
  rw[PT.get_set]
  by_cases h:t=d
  · subst h;rw[if_pos rfl,upd_same];rfl
  · rw[if_neg h,upd_other _ _ _ h];rfl
def evOps(all:Array Oper):List Oper→Sg→Option Sg
 | [],s=>some s
 |o::os,s=>match ysE all s.tm.sl o with
  |some true=>match evOne Y call yld o.op (evE s.tm.sl) s.s with
   |some (r,hs)=>forceES r fun r=>(putT s.tm o.dst r).force fun tm=>evOps all os ⟨tm,hs⟩
   |none=>none
  |some false=>(putT s.tm o.dst .und).force fun tm=>evOps all os ⟨tm,s.s⟩
  |none=>none
structure Le where
 only:Bool
 ids:List Nat
 wr:Wr
 deriving Inhabited
def Le.vis(l:Le)(g:Nat):Bool:=bif l.only then memN g l.ids else !memN g l.ids
def hideF(l:Le)(h:Hp):Hp:=fun g=>bif l.vis g then h g else some .hid
def makes:Op→Bool
 | .alloc _ | .box _ _ | .buildSlice _ _ _ | .makeSlice _ _ _ | .makeMap _ _=>true
 | .call { callee:=.builtin .append,args:=_,argTypes:=_ }=>true
 |_=>false
def hidL(tab:List Nat)(k:Nat):List Le→Nat→List Nat
 | [],_=>[]
 |l::ls,j=>match l.wr with
  | []=>hidL tab k ls (j-1)
  |ws=>bif near tab k (j-1) then hidL tab k ls (j-1) else ws.map Prod.fst++hidL tab k ls (j-1)
def freshL(tab:List Nat)(nx0 k:Nat):List Oper→Nat→List Nat
 | [],_=>[]
 |o::os,j=>bif makes o.op then(bif near tab k j then freshL tab nx0 k os (j+1) else(nx0+j)::freshL tab nx0 k os (j+1)) else freshL tab nx0 k os (j+1)
def hideP(h:PT EO):List Nat→PT EO
 | []=>h
 |g::gs=>hideP (h.set g .hid) gs
def getsW(h:PT EO):List Nat→Wr
 | []=>[]
 |g::gs=>match h.get g with
  |some o=>(g,o)::getsW h gs
  |none=>getsW h gs
def maskE(l:List Nat)(tm:Nat→ES)(t:Nat):ES:=bif memN t l then tm t else .unk
def subN(l:List Nat):Wr→Bool
 | []=>true
 |p::ws=>memN p.1 l&&subN l ws
def fpD(o:Op)(ρ:Operand→ES):List Nat:=match o with
 | .move _ | .assign _=>[]
 |o=>o.operands.toList.flatMap fun x=>rdE (ρ x)
def evOneD(tab:List Nat)(nx0 k:Nat)(log:List Le)(os:List Oper)(o:Op)(ρ:Operand→ES)(s:Hs):Option (ES×Hs×Le) :=
 match isCall o with
 |some (fo,args)=>match hidL tab k log k++freshL tab nx0 k os (k+1) with
  |N=>match callE Y call yld (ρ fo) (args.map ρ) ⟨hideP s.h N,s.nx,[]⟩ with
   |some (r,s')=>match getsW s'.h s'.wl with
    |ws=>bif ws.all (fun p=>!memN p.1 N) then some (r,⟨match N with
     | []=>s'.h
     |_=>wrP s.h ws,s'.nx,s'.wl++s.wl⟩,⟨false,N,ws⟩) else none
   |none=>none
 |none=>forceN (nx0+k) fun g=>match g::fpD o ρ with
  |l=>match eOp Y.Z Y.B o ρ (hideF ⟨true,l,[]⟩ s.h.get) g with
   |some (r,ws)=>bif subN l ws then(wrP s.h ws).force fun h=>some (r,⟨h,s.nx,ws.map Prod.fst++s.wl⟩,⟨true,l,ws⟩) else none
   |none=>none
def evDraw(all:Array Oper)(tab:List Nat)(nx0:Nat):List Oper→Nat→List Le→Sg→Option (Sg×List Le)
 | [],_,log,s=>some (s,log)
 |o::os,k,log,s=>match maskE (looksB all o) s.tm.sl with
  |m=>match ysE all m o with
   |some true=>match evOneD Y call yld tab nx0 k log os o.op (evE m) s.s with
    |some (r,hs,l)=>forceES r fun r=>(putT s.tm o.dst r).force fun tm=>evDraw all tab nx0 os (k+1) (l::log) ⟨tm,hs⟩
    |none=>none
   |some false=>(putT s.tm o.dst .und).force fun tm=>evDraw all tab nx0 os (k+1) (⟨true,[],[]⟩::log) ⟨tm,s.s⟩
   |none=>none
def confRowE(tab:List Nat)(i:Nat)(ws:Wr):List Le→Nat→Bool
 | [],_=>true
 |l::ls,j=>(near tab i j||ws.all fun p=>!l.vis p.1)&&confRowE tab i ws ls (j+1)
def confE(tab:List Nat)(all:List Le):List Le→Nat→Bool
 | [],_=>true
 |l::ls,i=>(match l.wr with
  | []=>true
  |ws=>confRowE tab i ws all 0)&&confE tab all ls (i+1)
def evReg(nt:Nat)(all:Array Oper)(draw:Bool)(s:Sg):Option Sg :=
 bif dstsOk nt all.toList then(match draw with
  |false=>evOps Y call yld all all.toList s
  |true=>bif flowOk all (ancs all.toList) then(match evDraw Y call yld all (ancs all.toList) s.s.nx all.toList 0 [] ⟨s.tm,⟨s.s.h,s.s.nx+all.size,s.s.wl⟩⟩ with
   |some (s',log)=>match log.reverse with
    |log=>bif confE (ancs all.toList) log log 0 then some s' else none
   |none=>none) else none) else none
end
def resE(T:TypeId→Option TY)(Z:QS)(tm:Nat→ES)(h:Hp):List ResultVar→Option (List EW)
 | []=>some []
 | .tmp t::rs=>match tm t,resE T Z tm h rs with
  | .w x,some xs=>some (x::xs)
  |_,_=>none
 | .cell a t::rs=>match eLoad T Z h t (tm a),resE T Z tm h rs with
  |some (.w x,[]),some xs=>some (x::xs)
  |_,_=>none
def oneE:List EW→ES
 | [x]=>.w x
 |xs=>.tup xs
def argT:List ES→Nat→PT ES→PT ES
 | [],_,t=>t
 |x::xs,i,t=>argT xs (i+1) (t.set i x)
def putsE(nt:Nat):PT ES→List Nat→List ES→Option (PT ES)
 |t,[],[]=>some t
 |t,p::ps,x::xs=>bif Nat.blt p nt then putsE nt (t.set p x) ps xs else none
 |_,_,_=>none
section
variable (Y:EE)(ev:Bool→Nat→Code→Sg→Option (Exit×Sg))
def callF(f:FuncId)(args:List ES)(s:Hs):Option (ES×Hs) :=
 match Y.F f with
 |some q=>bif Nat.ble args.length q.nt then(match ev false q.nt q.body ⟨argT args 0 .nil,s⟩ with
  |some (.normal,s')=>match resE Y.B.T Y.Z s'.tm.sl s'.s.h.get q.rs with
   |some xs=>some (oneE xs,s'.s)
   |none=>none
  |some (.ret,s')=>match resE Y.B.T Y.Z s'.tm.sl s'.s.h.get q.rs with
   |some xs=>some (oneE xs,s'.s)
   |none=>none
  |_=>none) else none
 |none=>none
def yieldE(g:Nat)(args:List ES)(s:Hs):Option Hs :=
 match s.h.get g with
 |some (.loop false nt tm ps assign body)=>match putsE nt tm ps args with
  |some tm'=>match ev true nt assign ⟨tm',s⟩ with
   |some (.normal,s1)=>match s1.s.h.get g with
    |some (.loop false nt1 tm1 ps1 as1 bo1)=>match ev true nt body ⟨s1.tm,s1.s.put g (.loop true nt1 tm1 ps1 as1 bo1)⟩ with
     |some (.normal,s2)=>match s2.s.h.get g with
      |some (.loop true nt2 tm2 ps2 as2 bo2)=>some (s2.s.put g (.loop false nt2 tm2 ps2 as2 bo2))
      |_=>none
     |_=>none
    |_=>none
   |_=>none
  |none=>none
 |_=>none
def rangeE(nt:Nat)(fo:ES)(ps:List Nat)(assign body:Code)(s:Sg):Option Sg :=
 match s.s.h.get s.s.nx with
 |none=>forceN s.s.nx fun gl=>forceN (gl+1) fun n=>match(⟨s.s.h.set gl (.loop false nt s.tm ps assign body),n,gl::s.s.wl⟩:Hs) with
  |hs=>match(match fo with
   | .w (.one (.clo f gs))=>callF Y ev f (.w (.one (.yld gl))::capE gs) hs
   | .w (.one (.iv (.fn f)))=>callF Y ev f [.w (.one (.yld gl))] hs
   |_=>none) with
   |some (_,hs')=>match hs'.h.get gl with
    |some (.loop false _ _ _ _ _)=>some ⟨s.tm,hs'.put gl .hid⟩
    |_=>none
   |none=>none
 |some _=>none
def stepC(rd:Bool)(nt:Nat)(c:Code)(s:Sg):Option (Exit×Sg) :=
 match c with
 | .skip=>some (.normal,s)
 | .label _=>some (.normal,s)
 | .ret=>some (.ret,s)
 | .exit i=>some (.exit i,s)
 | .seq a b=>match ev rd nt a s with
  |some (.normal,s')=>ev rd nt b s'
  |r=>r
 | .cond c a b=>match evE s.tm.sl c with
  | .w (.one (.iv (.bool true)))=>ev rd nt a s
  | .w (.one (.iv (.bool false)))=>ev rd nt b s
  |_=>none
 | .block id b=>match ev rd nt b s with
  |some (.exit i,s')=>bif Nat.beq i id then some (.normal,s') else some (.exit i,s')
  |r=>r
 | .loop b=>match ev rd nt b s with
  |some (.normal,s')=>ev rd nt (.loop b) s'
  |r=>r
 | .region _ ops draw=>match evReg Y (callF Y ev) (yieldE ev) nt ops draw s with
  |some s'=>some (.normal,s')
  |none=>none
 | .rangeFunc g ps assign body=>match rd with
  |false=>match rangeE Y ev nt (evE s.tm.sl g) ps.toList assign body s with
   |some s'=>some (.normal,s')
   |none=>none
  |true=>none
 |_=>none
end
noncomputable def evC(Y:EE)(n:Nat):Bool→Nat→Code→Sg→Option (Exit×Sg) :=
 Nat.rec (fun _ _ _ _=>none) (fun _ ih=>stepC Y ih) n
theorem wrs_other{g:Nat}:∀{ws:Wr} {h:Hp},(∀p∈ws,p.1≠g)→wrs h ws g=h g
 | [],_,_=>rfl
 | (g',o)::l,h,hn=>by
   rw[wrs,wrs_other fun p hp=>hn p (by simp[hp])]
   exact upd_other _ _ _ (fun e=>hn (g',o) (by simp) e.symm)
theorem wrs_congr{g:Nat}:∀{ws:Wr} {h h':Hp},h g=h' g→wrs h ws g=wrs h' ws g
 | [],_,_,e=>e
 | (g',o)::l,h,h',e=>by
   rw[wrs,wrs]
   refine wrs_congr ?_
   by_cases e':g=g'
   · subst e';rw[upd_same,upd_same]
   · rw[upd_other _ _ _ e',upd_other _ _ _ e',e]
theorem wrs_set{g:Nat}{x:Option EO}:∀{ws:Wr} {h:Hp},(∀p∈ws,p.1=g→some p.2=x)→((∃p∈ws,p.1=g)∨h g=x)→wrs h ws g=x
 | [],h,_,h2=>by
  rcases h2 with⟨p,hp,_⟩|h2
  · cases hp
  · exact h2
 | (g',o)::l,h,h1,h2=>by
   rw[wrs]
   refine wrs_set (fun p hp=>h1 p (by simp[hp])) ?_
   by_cases e:g'=g
   · subst e
     right;rw[upd_same];exact h1 (g',o) (by simp) rfl
   · rcases h2 with⟨p,hp,hpg⟩|h2
     · rcases List.mem_cons.1 hp with rfl|hp
       · exact absurd hpg e
       · exact .inl ⟨p,hp,hpg⟩
     · right;rw[upd_other _ _ _ (Ne.symm e)];exact h2
theorem OR.own_mono{Z:QS}{own own':Nat→Prop}{w:World}{H:Heap}{β:Bm}{g:Nat}{o:EO}(hs:∀u k,β g u=some k→own k.1→own' k.1)(h:OR Z own w H β g o):OR Z own' w H β g o:=by
 cases o with
 |mem e cs fz vs cnt=>exact⟨h.1,fun u p hup=>by
  obtain⟨h1,k,arr,h2,h3,h4⟩:=h.2 u p hup
  exact⟨h1,k,arr,h2,hs u k h2 h3,h4⟩⟩
 |map es ck=>obtain⟨k,ents,h1,h2,h3⟩:=h;exact⟨k,ents,h1,hs 0 k h1 h2,h3⟩
 |iter gm since seen last cur=>obtain⟨k,km,sn,h1,h2,h3,h4⟩:=h;exact⟨k,km,sn,h1,h2,hs 0 k h1 h3,h4⟩
 |loop busy nt tm ps assign body=>obtain⟨k,L,h1,h2,h3⟩:=h;exact⟨k,L,h1,hs 0 k h1 h2,h3⟩
 |hid=>trivial
def hideV(vis:Nat→Bool)(h:Hp):Hp:=fun g=>bif vis g then h g else some .hid
def hidE(E:EEnv)(vis:Nat→Bool)(h:Hp)(H:Heap)(β:Bm)(w:World):EEnv where
 own k:=E.own k∧∀g u s,vis g=false→h g≠some .hid→β g u=some s→s.1≠k
 w0:=w
 H0:=H
 hid g:=vis g=false∨E.hid g
 β0:=β
section
variable {Z:QS}{E:EEnv}{H H':Heap}{β β':Bm}{h:Hp}{w w':World}{vis:Nat→Bool}
theorem hideV_vis{g:Nat}(hv:vis g=true):hideV vis h g=h g:=by unfold hideV;rw[hv];rfl
theorem hideV_hid{g:Nat}(hv:vis g=false):hideV vis h g=some .hid:=by unfold hideV;rw[hv];rfl
theorem ESim.hide(h0:ESim Z E H β h w)(vis:Nat→Bool):ESim Z (hidE E vis h H β w) H β (hideV vis h) w where
 has:=h0.has
 below:=BelowO.refl _ _
 lo k hk:=⟨h0.lo k hk,fun g u s _ _ hs e=>by have:=(h0.dom g u s hs).1;omega⟩
 ext:=HExtO.refl _ _
 obj g o hg:=by
  cases hv:vis g with
  |true =>
   rw[hideV_vis hv] at hg
   exact(h0.obj g o hg).own_mono fun u k hk ho=>⟨ho,fun g' u' s hv' _ hs e=>by
    have:=h0.inj _ _ _ _ _ _ hs hk e
    subst this;rw[hv] at hv';cases hv'⟩
  |false =>
   rw[hideV_hid hv] at hg;cases hg;trivial
 dom g u k hk:=by
  obtain⟨a,o,b,c⟩:=h0.dom g u k hk
  cases hv:vis g with
  |true =>
   refine⟨a,o,by rw[hideV_vis hv];exact b,c.imp id fun c=>⟨⟨c.1,fun g' u' s hv' _ hs e=>?_⟩,c.2⟩⟩
   have:=h0.inj _ _ _ _ _ _ hs hk e
   subst this;rw[hv] at hv';cases hv'
  |false=>exact⟨a,.hid,hideV_hid hv,.inl rfl⟩
 inj:=h0.inj
 hidb g hg:=by
  refine⟨?_,fun _=>rfl⟩
  cases hv:vis g with
  |false=>exact hideV_hid hv
  |true =>
   rcases hg with hg|hg
   · rw[hv] at hg;cases hg
   · rw[hideV_vis hv];exact(h0.hidb g hg).1
theorem ESim.unhide{ws:Wr}(h0:ESim Z E H β h w)(hle:HLe H H')(hb:BLe β β')(h1:ESim Z (hidE E vis h H β w) H' β' (wrs (hideV vis h) ws) w')(hw:∀p∈ws,vis p.1=true):ESim Z E H' β' (wrs h ws) w':=by
 have ev:∀g,vis g=true→wrs (hideV vis h) ws g=wrs h ws g:=fun g hv=>wrs_congr (hideV_vis hv)
 have eh:∀g,vis g=false→wrs h ws g=h g:=fun g hv=>wrs_other fun p hp e=>by
  have:=hw p hp;rw[e,hv] at this;cases this
 have βh:∀g,vis g=false→∀u,β' g u=β g u:=fun g hv=>(h1.hidb g (.inl hv)).2
 refine⟨h1.has,h0.below.trans (h1.below.mono fun k hk=>hk.1),fun k hk=>(h1.lo k hk).1,h0.ext.step (own':=(hidE E vis h H β w).own) ⟨hle,fun b arr hb'=>h1.ext.2 b arr hb'⟩ (fun k hk=>hk.1),fun g o hg=>?_,fun g u k hk=>?_,h1.inj,fun g hg=>?_⟩
 · cases hv:vis g with
   |true=>exact(h1.obj g o (by rw[ev g hv];exact hg)).own_mono fun _ _ _ ho=>ho.1
   |false =>
    rw[eh g hv] at hg
    by_cases ho:o=.hid
    · subst ho;trivial
    · have hno:∀u k,β g u=some k→¬(hidE E vis h H β w).own k.1:=fun u k hk hown=>hown.2 g u k hv (by rw[hg];simpa using ho) hk rfl
      refine(h0.obj g o hg).keep (fun u k hk=>h1.below.block _ (hno u k hk)) (fun u k hk hn=>?_) hle hb (βh g hv)
      cases hx:H' k.1 with
      |none=>rfl
      |some arr =>
       rcases h1.ext.2 _ _ hx with h2|h2
       · have h2:H k.1=some arr:=h2
         rw[hn] at h2;cases h2
       · exact absurd h2 (hno u k hk)
 · cases hv:vis g with
   |true =>
    obtain⟨a,o,b,c⟩:=h1.dom g u k hk
    exact⟨a,o,by rw[←ev g hv];exact b,c.imp id fun c=>⟨c.1.1,c.2⟩⟩
   |false =>
    rw[βh g hv] at hk
    obtain⟨a,o,b,c⟩:=h0.dom g u k hk
    exact⟨Nat.lt_of_lt_of_le a h1.below.size,o,by rw[eh g hv];exact b,c⟩
 · obtain⟨a,b⟩:=h1.hidb g (.inr hg)
   obtain⟨c,d⟩:=h0.hidb g hg
   refine⟨?_,fun u=>(b u).trans (d u)⟩
   cases hv:vis g with
   |true=>rw[←ev g hv];exact a
   |false=>rw[eh g hv];exact c
end
section
variable (X:EX)
def OneOk(o:Oper)(tm:Nat→ES)(h:Hp)(r:ES)(h':Hp):Prop :=
 ∀(ro:Option Nat) (E:EEnv),(∀w',BelowO E.own E.w0 w'→X.I w')→∀(nt:Nat) (H:Heap) (β:Bm) (a:Act) (w:World) (K:Act→World→Prop) (Q:Exit→Act→World→Prop),ESt X E nt H β tm h a w→
  (∀v H' β' w',HLe H H'→BLe β β'→ESim X.Z E H' β' h' w'→MarkSame w w'→SRe X.Z H' β' v r→K (a.put o.dst v) w')→o.wpIn (FW ro) 0 X.P a w K Q
theorem OneOk.eOp{X:EX}{o:Oper}{tm:Nat→ES}{h:Hp}{g:Nat}{r:ES}{ws:Wr}(he:eOp X.Z X.B o.op (evE tm) h g=some (r,ws)):OneOk X o tm h r (wrs h ws):=by
 intro ro E hI nt H β a w K Q hS hK
 obtain⟨v,w',β',hr,hb,hs,hm,hv⟩:=eOp_ok hS he
 refine op_in (fun c hc=>?_) ?_
 · rw[hc] at he;cases he
 · unfold Oper.wp
   have hk:=hK v H β' w' (HLe.refl _) hb hs hm hv
   rcases hr with hr|⟨rfl,hr⟩
   · rw[hr];exact hk
   · rw[hr];exact hk
def SREL(Z:QS)(H:Heap)(β:Bm):List Value→List ES→Prop
 | [],[]=>True
 |v::vs,x::xs=>SRe Z H β v x∧SREL Z H β vs xs
 |_,_=>False
theorem SREL.length{Z:QS}{H:Heap}{β:Bm}:∀{vs:List Value} {xs:List ES},SREL Z H β vs xs→vs.length=xs.length
 | [],[],_=>rfl
 |_::_,_::_,⟨_,h2⟩=>by simp[SREL.length h2]
 | [],_::_,h=>h.elim
 |_::_,[],h=>h.elim
theorem SREL.get{Z:QS}{H:Heap}{β:Bm}:∀{vs:List Value} {xs:List ES},SREL Z H β vs xs→∀(i:Nat) (x:ES),xs[i]?=some x→∃v,vs[i]?=some v∧SRe Z H β v x
 | [],[],_,i,x,h=>by simp at h
 |v::_,_::_,⟨h1,_⟩,0,x,h=>by simp at h;subst h;exact⟨v,rfl,h1⟩
 |_::_,_::_,⟨_,h2⟩,i+1,x,h=>by simp at h;simpa using SREL.get h2 i x h
 | [],_::_,h,_,_,_=>h.elim
 |_::_,[],h,_,_,_=>h.elim
theorem SREL.append{Z:QS}{H:Heap}{β:Bm}:∀{vs:List Value} {xs:List ES} {us:List Value} {ys:List ES},SREL Z H β vs xs→SREL Z H β us ys→SREL Z H β (vs++us) (xs++ys)
 | [],[],_,_,_,h=>by simpa using h
 |_::_,_::_,_,_,⟨h1,h2⟩,h=>by simpa using(show SREL Z H β (_::_) (_::_) from⟨h1,SREL.append h2 h⟩)
 | [],_::_,_,_,h,_=>h.elim
 |_::_,[],_,_,h,_=>h.elim
theorem SREL.map{Z:QS}{H:Heap}{β:Bm}{ρ:Operand→Value}{f:Operand→ES}(hρ:∀x,SRe Z H β (ρ x) (f x)):∀l:List Operand,SREL Z H β (l.map ρ) (l.map f)
 | []=>trivial
 |x::l=>⟨hρ x,SREL.map hρ l⟩
theorem SREL.mono{Z:QS}{H H':Heap}{β β':Bm}(hh:HLe H H')(hb:BLe β β'):∀{vs:List Value} {xs:List ES},SREL Z H β vs xs→SREL Z H' β' vs xs
 | [],[],_=>trivial
 |_::_,_::_,⟨h1,h2⟩=>⟨h1.mono hh hb,SREL.mono hh hb h2⟩
 | [],_::_,h=>h.elim
 |_::_,[],h=>h.elim
def HasFn(f:FuncId):Prop:=∃fn,X.P.funcs[f]?=some fn∧(fn.name == "runtime.NumGoroutine")=false∧fn.body.isNone=false
def RetPost(E:EEnv)(H:Heap)(β:Bm)(w:World)(h':Hp)(r:ES)(e:Ending)(w':World):Prop :=
 ∃v H' β',e=.returned v∧HLe H H'∧BLe β β'∧ESim X.Z E H' β' h' w'∧MarkSame w w'∧SRe X.Z H' β' v r
def CallOk(f:FuncId)(args:List ES)(h:Hp)(r:ES)(h':Hp):Prop :=
 HasFn X f∧∀(E:EEnv),(∀w',BelowO E.own E.w0 w'→X.I w')→∀(H:Heap) (β:Bm) (w:World) (vs:List Value),ESim X.Z E H β h w→SREL X.Z H β vs args→
  Calls X.P f vs.toArray w (RetPost X E H β w h' r)
def YldOk(g:Nat)(args:List ES)(h h':Hp):Prop :=
 ∀(ro:Option Nat) (E:EEnv),(∀w',BelowO E.own E.w0 w'→X.I w')→∀(H:Heap) (β:Bm) (w:World) (vs:List Value) (k:Nat×Nat),ESim X.Z E H β h w→SREL X.Z H β vs args→β g 0=some k→
  YieldAt (FW ro) 0 X.P k.1 vs.toArray w (RetPost X E H β w h' (iv1 (.bool true)))
theorem isCall_some{o:Op}{fo:Operand}{args:List Operand}(h:isCall o=some (fo,args)):∃ax ats,o=.call { callee:=.value fo,args:=ax,argTypes:=ats }∧ax.toList=args:=by
 unfold isCall at h
 split at h
 · simp only[Option.some.injEq,Prod.mk.injEq] at h
   obtain⟨rfl,rfl⟩:=h
   exact⟨_,_,rfl,rfl⟩
 · cases h
variable {X}
theorem OneOk.call{o:Oper}{tm:Nat→ES}{h h':Hp}{r:ES}{fo:Operand}{ax:Array Operand}{ats:Array TypeId}{f:FuncId}{gs:List Nat}(ho:o.op=.call { callee:=.value fo,args:=ax,argTypes:=ats })
 (hf:(evE tm fo=.w (.one (.iv (.fn f)))∧gs=[])∨evE tm fo=.w (.one (.clo f gs))) (hc:CallOk X f (ax.toList.map (evE tm)++capE gs) h r h'):OneOk X o tm h r h':=by
 intro ro E hI nt H β a w K Q hS hK
 obtain⟨⟨fn,hf1,hf2,hf3⟩,hc⟩:=hc
 have hv:=ev_okE hS fo
 have hcap:∃cs:List Value,a.eval fo=.func (.func f) #[] cs.toArray∧SREL X.Z H β cs (capE gs):=by
  rcases hf with⟨hf,rfl⟩|hf
  · rw[hf] at hv
    refine⟨[],VR.asFn hv.2,trivial⟩
  · rw[hf] at hv
    obtain⟨h1,h2⟩:=hv
    refine⟨_,h2,?_⟩
    clear h2 hf hc
    induction gs with
    |nil=>trivial
    |cons g gs ih =>
     obtain⟨k,hk⟩:=h1 g (by simp)
     refine⟨⟨k,hk,?_⟩,ih fun g hg=>h1 g (by simp[hg])⟩
     unfold cptr;rw[hk]
 obtain⟨cs,e1,hcs⟩:=hcap
 have hcall:=hc E hI H β w (ax.toList.map a.eval++cs) hS.sim ((SREL.map (ev_okE hS) _).append hcs)
 have hrun:(execOp a.eval o).run X.P w=.ok (.enter f (ax.toList.map a.eval++cs).toArray) w:=by
  simp only[execOp,ho,resolve,e1,Deferred.ofValue,Sem.run_bind,Sem.run_pure,Result.andThen_ok,invoke,callFunc,run_program,hf1,hf2,hf3,Bool.false_eq_true,if_false]
  congr 2
  apply Array.ext'
  simp
 refine op_in (fun c hc=>by rw[ho] at hc;cases hc) ?_
 unfold Oper.wp
 rw[hrun]
 refine hcall.mono ?_
 rintro e w' ⟨v,H',β',rfl,h1,h2,h3,h4,h5⟩
 exact hK v H' β' w' h1 h2 h3 h4 h5
theorem OneOk.yld{o:Oper}{tm:Nat→ES}{h h':Hp}{fo:Operand}{ax:Array Operand}{ats:Array TypeId}{g:Nat}(ho:o.op=.call { callee:=.value fo,args:=ax,argTypes:=ats })
 (hf:evE tm fo=.w (.one (.yld g))) (hc:YldOk X g (ax.toList.map (evE tm)) h h'):OneOk X o tm h (iv1 (.bool true)) h':=by
 intro ro E hI nt H β a w K Q hS hK
 have hv:=ev_okE hS fo
 rw[hf] at hv
 obtain⟨k,hk,e1⟩:=hv
 obtain⟨fn,tmps,assign,body,hyr,hR⟩:=hc ro E hI H β w (ax.toList.map a.eval) k hS.sim (SREL.map (ev_okE hS) _) hk
 have hrun:(execOp a.eval o).run X.P w=.ok (.round k.1 fn tmps assign body) w:=by
  have ea:(ax.toList.map a.eval).toArray=ax.map a.eval:=by apply Array.ext';simp
  rw[ea] at hyr
  simp only[execOp,ho,resolve,e1,Deferred.ofValue,Sem.run_bind,Sem.run_pure,Result.andThen_ok,invoke]
  simpa using hyr
 refine⟨fun _ _=>trivial,?_⟩
 rw[show(FW ro).round=ro from rfl,Oper.semAt_eq ro a.eval o (fun c hc=>by rw[ho] at hc;cases hc),hrun]
 refine⟨fun e=>(by cases e),hR.mono ?_⟩
 rintro e w' ⟨v,H',β',rfl,h1,h2,h3,h4,h5⟩
 exact hK v H' β' w' h1 h2 h3 h4 h5
def LogOk(s s':Hs):Prop:=(∀g,g∉s'.wl→s'.h.get g=s.h.get g)∧(∀g∈s.wl,g∈s'.wl)∧∀g,s'.h.get g=none→s.h.get g=none
theorem LogOk.refl(s:Hs):LogOk s s:=⟨fun _ _=>rfl,fun _ h=>h,fun _ h=>h⟩
theorem LogOk.trans{a b c:Hs}(h:LogOk a b)(k:LogOk b c):LogOk a c :=
 ⟨fun g hg=>(k.1 g hg).trans (h.1 g fun hb=>hg (k.2.1 g hb)),fun g hg=>k.2.1 g (h.2.1 g hg),fun g hg=>h.2.2 g (k.2.2 g hg)⟩
theorem LogOk.wr(s:Hs)(ws:Wr)(n:Nat):LogOk s ⟨wrP s.h ws,n,ws.map Prod.fst++s.wl⟩:=by
 refine⟨fun g hg=>?_,fun g hg=>List.mem_append_right _ hg,fun g hg=>?_⟩
 · show(wrP s.h ws).get g=_
   rw[wrP_get]
   exact wrs_other fun p hp e=>hg (List.mem_append_left _ (List.mem_map.2 ⟨p,hp,e⟩))
 · have hg:(wrP s.h ws).get g=none:=hg
   rw[wrP_get] at hg
   cases hx:s.h.get g with
   |none=>rfl
   |some o0 =>
    exfalso
    have key:∀(ws:Wr) (h:Hp),h g≠none→wrs h ws g≠none:=by
     intro ws
     induction ws with
     |nil=>intro h hh;exact hh
     |cons p l ih =>
      intro h hh
      refine ih _ ?_
      by_cases e:g=p.1
      · rw[e,upd_same];simp
      · rw[upd_other _ _ _ e];exact hh
    exact key ws s.h.get (by rw[hx];simp) hg
theorem LogOk.put(s:Hs)(g:Nat)(o:EO):LogOk s (s.put g o):=LogOk.wr s [(g,o)] s.nx
theorem Hs.put_get(s:Hs)(g:Nat)(o:EO):(s.put g o).h.get=upd s.h.get g (some o):=by
 have:=wrP_get [(g,o)] s.h
 exact this
end
section
variable {X:EX}
theorem wantedE{E:EEnv}{nt:Nat}{H:Heap}{β:Bm}{tm:Nat→ES}{h:Hp}{a:Act}{w:World}{all:Array Oper}{o:Oper}(hS:ESt X E nt H β tm h a w){c:Bool}(hy:ysE all tm o=some c):Region.wanted o (yielded all a.tmps)=c:=by
 unfold ysE at hy
 unfold Region.wanted
 split at hy
 · rename_i hg;simp only[hg];simpa using hy
 · rename_i j want hg
   simp only[hg]
   split at hy
   · rename_i hd
     simp only[yielded,hd,Option.bind_none]
     simpa using hy
   · rename_i t hd
     simp only[yielded,hd,Option.bind_some]
     have hs:=hS.slot t
     split at hy
     · rename_i b ht
       rw[ht] at hs
       have e:=SRe.bool hs
       cases hx:a.tmps[t]? with
       |none=>simp[hx,undef] at e
       |some u=>simp[hx] at e;subst e;simpa using hy
     · rename_i ht
       rw[ht] at hs
       change a.tmps.getD t undef=undef at hs
       cases hx:a.tmps[t]? with
       |none=>simpa using hy
       |some u=>simp[hx] at hs;subst hs;simpa[undef] using hy
     · cases hy
theorem put_defers(a:Act)(d:Option Tmp)(v:Value):(a.put d v).defers=a.defers:=by
 cases d<;>rfl
def mo(E:EEnv)(w0:World)(k:Nat):Prop:=E.own k∧w0.heap[k]?≠some (.deferred (some []))
def ESm(X:EX)(E:EEnv)(w0:World)(nt:Nat)(H:Heap)(β:Bm)(s:Sg)(a:Act)(w:World):Prop :=
 ESt X E nt H β s.tm.sl s.s.h.get a w∧MarksOk (mo E w0) a.defers w∧MarkSame w0 w
def EPost(X:EX)(E:EEnv)(w0:World)(nt:Nat)(H:Heap)(β:Bm)(w:World)(s':Sg)(a':Act)(w':World):Prop :=
 ∃H' β',HLe H H'∧BLe β β'∧ESm X E w0 nt H' β' s' a' w'∧MarkSame w w'
theorem MarkSame.trans{w w' w'':World}(h:MarkSame w w')(k:MarkSame w' w''):MarkSame w w'':=fun D hD=>by
 have:=h D hD
 rw[←this]
 exact k D (by rw[this];exact hD)
theorem EPost.refl{E:EEnv}{w0:World}{nt:Nat}{H:Heap}{β:Bm}{s:Sg}{a:Act}{w:World}(h:ESm X E w0 nt H β s a w):EPost X E w0 nt H β w s a w :=
 ⟨H,β,HLe.refl _,BLe.refl _,h,MarkSame.refl _⟩
theorem EPost.trans{E:EEnv}{wm:World}{nt:Nat}{H H':Heap}{β β':Bm}{s':Sg}{a':Act}{w w0 w':World}(hh:HLe H H')(hb:BLe β β')(hm:MarkSame w w0)(k:EPost X E wm nt H' β' w0 s' a' w'):EPost X E wm nt H β w s' a' w':=by
 obtain⟨H2,β2,k1,k2,k3,k4⟩:=k
 exact⟨H2,β2,hh.trans k1,hb.trans k2,k3,hm.trans k4⟩
def EX.ee(X:EX)(F:FuncId→Option FnE)(orc:FuncId→List ES→Hs→Option (ES×Hs)):EE:=⟨X.Z,X.B,F,orc⟩
structure FnOk(X:EX)(f:FuncId)(q:FnE)(fn:Func):Prop where
 has:X.P.funcs[f]?=some fn
 body:fn.body=some q.body
 nt:fn.ntmps=q.nt
 rs:fn.results.toList=q.rs
 name:(fn.name == "runtime.NumGoroutine")=false
def CallsOk(X:EX)(call:FuncId→List ES→Hs→Option (ES×Hs)):Prop:=∀f args s r s',call f args s=some (r,s')→LogOk s s'∧CallOk X f args s.h.get r s'.h.get
def OrcOk(X:EX)(orc:FuncId→List ES→Hs→Option (ES×Hs)):Prop:=CallsOk X orc
def YldsOk(X:EX)(yld:Nat→List ES→Hs→Option Hs):Prop:=∀g args s s',yld g args s=some s'→LogOk s s'∧YldOk X g args s.h.get s'.h.get
variable {F:FuncId→Option FnE}{orc:FuncId→List ES→Hs→Option (ES×Hs)}{call:FuncId→List ES→Hs→Option (ES×Hs)}{yld:Nat→List ES→Hs→Option Hs}
theorem callE_ok(horc:OrcOk X orc)(hcall:CallsOk X call)(hyld:YldsOk X yld){o:Oper}{tm:Nat→ES}{fo:Operand}{ax:Array Operand}{ats:Array TypeId}(ho:o.op=.call { callee:=.value fo,args:=ax,argTypes:=ats }){s s':Hs}{r:ES}
 (he:callE (X.ee F orc) call yld (evE tm fo) (ax.toList.map (evE tm)) s=some (r,s')):LogOk s s'∧OneOk X o tm s.h.get r s'.h.get:=by
 unfold callE at he
 split at he
 · rename_i f hf
   have ec:∀l:List ES,l++capE []=l:=fun l=>by simp[capE]
   split at he
   · rename_i x horc'
     simp only[Option.some.injEq] at he
     subst he
     obtain⟨h1,h2⟩:=horc _ _ _ _ _ horc'
     refine⟨h1,OneOk.call ho (.inl ⟨hf,rfl⟩) ?_⟩
     rw[ec];exact h2
   · obtain⟨h1,h2⟩:=hcall _ _ _ _ _ he
     refine⟨h1,OneOk.call ho (.inl ⟨hf,rfl⟩) ?_⟩
     rw[ec];exact h2
 · rename_i f gs hf
   split at he
   · rename_i x horc'
     simp only[Option.some.injEq] at he
     subst he
     obtain⟨h1,h2⟩:=horc _ _ _ _ _ horc'
     exact⟨h1,OneOk.call ho (.inr hf) h2⟩
   · obtain⟨h1,h2⟩:=hcall _ _ _ _ _ he
     exact⟨h1,OneOk.call ho (.inr hf) h2⟩
 · rename_i g hf
   split at he
   · rename_i s2 hs
     simp only[Option.some.injEq,Prod.mk.injEq] at he
     obtain⟨rfl,rfl⟩:=he
     obtain⟨h1,h2⟩:=hyld _ _ _ _ hs
     exact⟨h1,OneOk.yld ho hf h2⟩
   · cases he
 · cases he
theorem evOne_ok(horc:OrcOk X orc)(hcall:CallsOk X call)(hyld:YldsOk X yld){o:Oper}{tm:Nat→ES}{s s':Hs}{r:ES}
 (he:evOne (X.ee F orc) call yld o.op (evE tm) s=some (r,s')):LogOk s s'∧OneOk X o tm s.h.get r s'.h.get:=by
 unfold evOne at he
 split at he
 · rename_i fo args hc
   obtain⟨ax,ats,ho,rfl⟩:=isCall_some hc
   rw[forceLS_eq] at he
   exact callE_ok horc hcall hyld ho he
 · rw[forceN_eq] at he
   split at he
   · rename_i r0 ws hop
     rw[forceN_eq,PT.force_eq] at he
     simp only[Option.some.injEq,Prod.mk.injEq] at he
     obtain⟨rfl,rfl⟩:=he
     refine⟨LogOk.wr _ _ _,?_⟩
     show OneOk X o tm s.h.get r0 (wrP s.h ws).get
     rw[wrP_get]
     exact OneOk.eOp hop
   · cases he
theorem stepE{ro:Option Nat}{E:EEnv}(hI:∀w',BelowO E.own E.w0 w'→X.I w'){nt:Nat}{H:Heap}{β:Bm}{tm:Nat→ES}{h h':Hp}{a:Act}{w:World}{all:Array Oper}{o:Oper}{r:ES}(hd:∀d,o.dst=some d→d<nt)
 (hS:ESt X E nt H β tm h a w) {mo:Nat→Prop} (hM:MarksOk mo a.defers w) (hf:(ysE all tm o=some true∧OneOk X o tm h r h')∨(ysE all tm o=some false∧r=.und∧h'=h)) {K:Act→World→Prop} {Q:Exit→Act→World→Prop}
 (hK:∀H' β' a' w',HLe H H'→BLe β β'→ESt X E nt H' β' (putE tm o.dst r) h' a' w'→MarksOk mo a'.defers w'→MarkSame w w'→K a' w') :
 if Region.wanted o (yielded all a.tmps) then o.wpIn (FW ro) 0 X.P a w K Q else(∀f,o.about X.P w a.eval=some f→(FW ro).fn f)∧K (a.put o.dst undef) w:=by
 rcases hf with⟨hy,ho⟩|⟨hy,rfl,rfl⟩
 · rw[wantedE hS hy]
   simp only[if_true]
   refine ho ro E hI nt H β a w K Q hS fun v H' β' w' h1 h2 h3 h4 h5=>?_
   exact hK H' β' _ w' h1 h2 (hS.fin hd h1 h2 h3 h5) (by rw[put_defers];exact hM.keep h4) h4
 · rw[wantedE hS hy]
   simp only[Bool.false_eq_true,if_false]
   exact⟨fun _ _=>trivial,hK H β _ w (HLe.refl _) (BLe.refl _) (hS.fin hd (HLe.refl _) (BLe.refl _) hS.sim rfl) (by rw[put_defers];exact hM) (MarkSame.refl _)⟩
theorem evOps_ok(horc:OrcOk X orc)(hcall:CallsOk X call)(hyld:YldsOk X yld){all:Array Oper}:∀{os:List Oper} {s s':Sg},evOps (X.ee F orc) call yld all os s=some s'→
 LogOk s.s s'.s∧∀(ro:Option Nat) (E:EEnv),(∀w',BelowO E.own E.w0 w'→X.I w')→∀(w0:World) (nt:Nat) (Q:Exit→Act→World→Prop) (H:Heap) (β:Bm) (a:Act) (w:World),dstsOk nt os=true→ESm X E w0 nt H β s a w→
  (∀a' w',EPost X E w0 nt H β w s' a' w'→Q .normal a' w')→wpListIn (FW ro) 0 X.P all Q os a w:=by
 intro os
 induction os with
 |nil =>
  intro s s' he
  simp only[evOps,Option.some.injEq] at he
  subst he
  exact⟨LogOk.refl _,fun ro E hI w0 nt Q H β a w _ hS hQ=>hQ a w (EPost.refl hS)⟩
 |cons o os ih =>
  intro s s' he
  unfold evOps at he
  have key:∃(r:ES) (hs:Hs),LogOk s.s hs∧((ysE all s.tm.sl o=some true∧OneOk X o s.tm.sl s.s.h.get r hs.h.get)∨(ysE all s.tm.sl o=some false∧r=.und∧hs.h.get=s.s.h.get))∧evOps (X.ee F orc) call yld all os ⟨putT s.tm o.dst r,hs⟩=some s':=by
   split at he
   · rename_i hy
     split at he
     · rename_i r hs h1
       rw[forceES_eq,PT.force_eq] at he
       obtain⟨l1,l2⟩:=evOne_ok horc hcall hyld h1
       exact⟨r,hs,l1,.inl ⟨hy,l2⟩,he⟩
     · cases he
   · rename_i hy
     rw[PT.force_eq] at he
     exact⟨.und,s.s,LogOk.refl _,.inr ⟨hy,rfl,rfl⟩,he⟩
   · cases he
  obtain⟨r,hs,l1,hf,he'⟩:=key
  obtain⟨l2,hw⟩:=ih he'
  refine⟨l1.trans l2,fun ro E hI w0 nt Q H β a w hd hS hQ=>?_⟩
  have hd':dstsOk nt os=true:=by
   simp only[dstsOk,List.all_cons,Bool.and_eq_true] at hd;exact hd.2
  unfold wpListIn
  refine stepE hI (dstsOk_spec hd (by simp)) hS.1 hS.2.1 hf fun H' β' a' w' h1 h2 h3 h4 h5=>?_
  refine hw ro E hI w0 nt Q H' β' a' w' hd' ⟨?_,h4,hS.2.2.trans h5⟩ fun a2 w2 hp=>hQ a2 w2 (hp.trans h1 h2 h5)
  show ESt X E nt H' β' (putT s.tm o.dst r).sl hs.h.get a' w'
  rw[putT_sl];exact h3
end
def gF{α:Type}(act:Nat→α→α)(S:Nat→Bool):List Nat→α→α
 | [],x=>x
 |i::l,x=>gF act S l (if S i=true then act i x else x)
section
variable {α:Type}{act:Nat→α→α}{S S':Nat→Bool}
theorem gF_agree:∀{l:List Nat} {x:α},(∀i∈l,S i≠S' i→∀x,act i x=x)→gF act S l x=gF act S' l x
 | [],_,_=>rfl
 |i::l,x,h=>by
  rw[gF,gF]
  have e:(if S i=true then act i x else x)=(if S' i=true then act i x else x):=by
   by_cases hd:S i=S' i
   · rw[hd]
   · rw[h i (by simp) hd];simp
  rw[e]
  exact gF_agree fun j hj=>h j (by simp[hj])
theorem gF_none:∀{l:List Nat} {x:α},(∀i∈l,S i=false)→gF act S l x=x
 | [],_,_=>rfl
 |i::l,x,h=>by
  rw[gF,h i (by simp)]
  simp only[Bool.false_eq_true,if_false]
  exact gF_none fun j hj=>h j (by simp[hj])
theorem gF_past(A:α→α):∀{l:List Nat} {x:α},(∀j∈l,S j=true→∀b,act j (A b)=A (act j b))→gF act S l (A x)=A (gF act S l x)
 | [],_,_=>rfl
 |j::l,x,h=>by
  rw[gF,gF]
  by_cases hs:S j=true
  · simp only[hs,if_true]
    rw[h j (by simp) hs]
    exact gF_past A fun k hk=>h k (by simp[hk])
  · simp only[hs]
    exact gF_past A fun k hk=>h k (by simp[hk])
theorem gF_add{i:Nat}(hS:∀j,S' j=(S j||Nat.beq j i))(hi:S i=false):∀{l:List Nat} {x:α},l.Pairwise (· < ·)→i∈l→
 (∀j∈l,i<j→S j=true→∀b,act j (act i b)=act i (act j b))→gF act S' l x=act i (gF act S l x)
 | [],_,_,h,_=>by simp at h
 |j::l,x,hp,hm,h=>by
  rw[gF,gF]
  have hp':=List.pairwise_cons.1 hp
  by_cases hji:j=i
  · subst hji
    have h1:S' j=true:=by rw[hS,Nat.beq_refl];simp
    rw[h1,hi]
    simp only[if_true,Bool.false_eq_true,if_false]
    have e:gF act S' l (act j x)=gF act S l (act j x):=gF_agree fun k hk hne=>by
     exfalso
     have hkj:=hp'.1 k hk
     have:Nat.beq k j=false:=by
      cases hb:Nat.beq k j
      · rfl
      · have:=Nat.eq_of_beq_eq_true hb;omega
     rw[hS,this] at hne;simp at hne
    rw[e]
    exact gF_past (act j) fun k hk hs b=>h k (by simp[hk]) (hp'.1 k hk) hs b
  · have hm':i∈l:=by
     rcases List.mem_cons.1 hm with e|e
     · exact absurd e.symm hji
     · exact e
    have:S' j=S j:=by
     rw[hS]
     have:Nat.beq j i=false:=by
      cases hb:Nat.beq j i
      · rfl
      · exact absurd (Nat.eq_of_beq_eq_true hb) hji
     rw[this];simp
    rw[this]
    exact gF_add hS hi hp'.2 hm' fun k hk=>h k (by simp[hk])
end
theorem hideP_get:∀(N:List Nat) (h:PT EO),(hideP h N).get=hideV (fun g=>!memN g N) h.get
 | [],h=>by funext g;rfl
 |g0::N,h=>by
  rw[hideP,hideP_get N]
  funext g
  unfold hideV
  rw[PT.get_set]
  simp only[show ∀g,memN g (g0::N)=(bif Nat.beq g g0 then true else memN g N) from fun _=>rfl]
  cases hb:Nat.beq g g0 with
  |true =>
   have:=Nat.eq_of_beq_eq_true hb;subst this
   cases memN g N<;>simp
  |false =>
   have:g≠g0:=fun e=>by subst e;rw[Nat.beq_refl] at hb;cases hb
   rw[if_neg this];rfl
theorem wrs_none{g:Nat}:∀{ws:Wr} {h:Hp},wrs h ws g=none→h g=none
 | [],_,h=>h
 |p::l,h,hn=>by
  have:=wrs_none (ws:=l) hn
  by_cases e:g=p.1
  · rw[e,upd_same] at this;cases this
  · rwa[upd_other _ _ _ e] at this
theorem getsW_mem{h:PT EO}:∀{l:List Nat} {p:Nat×EO},p∈getsW h l→p.1∈l∧h.get p.1=some p.2
 | [],p,hp=>by simp[getsW] at hp
 |g::l,p,hp=>by
  unfold getsW at hp
  split at hp
  · rename_i o ho
    rcases List.mem_cons.1 hp with rfl|hp
    · exact⟨by simp,ho⟩
    · have:=getsW_mem hp;exact⟨by simp[this.1],this.2⟩
  · have:=getsW_mem hp;exact⟨by simp[this.1],this.2⟩
theorem getsW_has{h:PT EO}{g:Nat}{o:EO}(ho:h.get g=some o):∀{l:List Nat},g∈l→(g,o)∈getsW h l
 | [],hg=>by cases hg
 |g'::l,hg=>by
  unfold getsW
  rcases List.mem_cons.1 hg with rfl|hg
  · rw[ho];simp
  · have:=getsW_has ho hg
    split
    · simp[this]
    · exact this
theorem getsW_ok{h:PT EO}{h0:Hp}{l:List Nat}(h1:∀g,g∉l→h.get g=h0 g)(h2:∀g,h.get g=none→h0 g=none):wrs h0 (getsW h l)=h.get:=by
 funext g
 refine wrs_set (fun p hp e=>?_) ?_
 · have:=(getsW_mem hp).2
   rw[e] at this;exact this.symm
 · by_cases hg:g∈l
   · cases ho:h.get g with
     |some o=>exact .inl ⟨_,getsW_has ho hg,rfl⟩
     |none=>exact .inr (h2 g ho)
   · exact .inr (h1 g hg).symm
section
variable {X:EX}{F:FuncId→Option FnE}{orc:FuncId→List ES→Hs→Option (ES×Hs)}{call:FuncId→List ES→Hs→Option (ES×Hs)}{yld:Nat→List ES→Hs→Option Hs}
theorem subN_spec{l:List Nat}:∀{ws:Wr},subN l ws=true→∀p∈ws,memN p.1 l=true
 | [],_,p,hp=>by cases hp
 |q::ws,h,p,hp=>by
  simp only[subN,Bool.and_eq_true] at h
  rcases List.mem_cons.1 hp with rfl|hp
  · exact h.1
  · exact subN_spec h.2 p hp
theorem evOneD_ok(horc:OrcOk X orc)(hcall:CallsOk X call)(hyld:YldsOk X yld){tab:List Nat}{nx0 k:Nat}{log:List Le}{os:List Oper}{o:Oper}{m:Nat→ES}{s s':Hs}{r:ES}{l:Le}
 (he:evOneD (X.ee F orc) call yld tab nx0 k log os o.op (evE m) s=some (r,s',l)) :
 LogOk s s'∧s'.h.get=wrs s.h.get l.wr∧OneOk X o m (hideV l.vis s.h.get) r (wrs (hideV l.vis s.h.get) l.wr)∧∀p∈l.wr,l.vis p.1=true:=by
 unfold evOneD at he
 split at he
 · rename_i fo args hc
   obtain⟨ax,ats,ho,rfl⟩:=isCall_some hc
   generalize hidL tab k log k++freshL tab nx0 k os (k+1)=N at he
   simp only at he
   split at he
   · rename_i r0 s1 hce
     obtain⟨l1,l2⟩:=callE_ok horc hcall hyld ho hce
     have h0:(hideP s.h N).get=hideV (fun g=>!memN g N) s.h.get:=hideP_get N s.h
     have hws:wrs (hideP s.h N).get (getsW s1.h s1.wl)=s1.h.get:=getsW_ok (fun g hg=>l1.1 g hg) (fun g hg=>l1.2.2 g hg)
     cases hchk:(getsW s1.h s1.wl).all (fun p=>!memN p.1 N) with
     |false=>rw[hchk] at he;cases he
     |true =>
      rw[hchk] at he
      simp only[cond_true,Option.some.injEq,Prod.mk.injEq] at he
      obtain⟨rfl,rfl,rfl⟩:=he
      have hget:(match N with | []=>s1.h|_=>wrP s.h (getsW s1.h s1.wl)).get=wrs s.h.get (getsW s1.h s1.wl):=by
       cases N with
       |nil=>exact hws.symm
       |cons=>exact wrP_get _ _
      refine⟨⟨fun g hg=>?_,fun g hg=>List.mem_append_right _ hg,fun g hg=>?_⟩,hget,?_,fun p hp=>?_⟩
      · show(match N with | []=>s1.h|_=>wrP s.h (getsW s1.h s1.wl)).get g=_
        rw[hget]
        exact wrs_other fun p hp e=>hg (List.mem_append_left _ (e▸(getsW_mem hp).1))
      · have hg:(match N with | []=>s1.h|_=>wrP s.h (getsW s1.h s1.wl)).get g=none:=hg
        rw[hget] at hg
        exact wrs_none hg
      · show OneOk X o m (hideV (fun g=>!memN g N) s.h.get) r0 (wrs (hideV (fun g=>!memN g N) s.h.get) (getsW s1.h s1.wl))
        rw[←h0,hws];exact l2
      · exact List.all_eq_true.1 hchk p hp
   · cases he
 · rw[forceN_eq] at he
   simp only at he
   split at he
   · rename_i r0 ws hop
     cases hsub:subN ((nx0+k)::fpD o.op (evE m)) ws with
     |false=>rw[hsub] at he;cases he
     |true =>
      rw[hsub] at he
      simp only[cond_true,PT.force_eq,Option.some.injEq,Prod.mk.injEq] at he
      obtain⟨rfl,rfl,rfl⟩:=he
      refine⟨LogOk.wr _ _ _,wrP_get _ _,?_,fun p hp=>subN_spec hsub p hp⟩
      exact OneOk.eOp hop
   · cases he
def FactE(X:EX)(all:Array Oper)(o:Oper)(tm:Nat→ES)(h:Hp)(x:ES×Le):Prop :=
 ((ysE all (maskE (looksB all o) tm) o=some true∧OneOk X o (maskE (looksB all o) tm) (hideV x.2.vis h) x.1 (wrs (hideV x.2.vis h) x.2.wr))∨(ysE all (maskE (looksB all o) tm) o=some false∧x.1=.und∧x.2.wr=[]))∧∀p∈x.2.wr,x.2.vis p.1=true
def foT(tm:Nat→ES)(l:List (Oper×ES×Le)):Nat→ES:=l.foldl (fun tm p=>putE tm p.1.dst p.2.1) tm
def foH(h:Hp)(l:List (Oper×ES×Le)):Hp:=l.foldl (fun h p=>wrs h p.2.2.wr) h
theorem evDraw_ok(horc:OrcOk X orc)(hcall:CallsOk X call)(hyld:YldsOk X yld){all:Array Oper}{tab:List Nat}{nx0:Nat}:∀{os:List Oper} {k:Nat} {log log':List Le} {s s':Sg},evDraw (X.ee F orc) call yld all tab nx0 os k log s=some (s',log')→
 LogOk s.s s'.s∧∃recs:List (ES×Le),recs.length=os.length∧(∀i o x,os[i]?=some o→recs[i]?=some x→FactE X all o (foT s.tm.sl ((os.zip recs).take i)) (foH s.s.h.get ((os.zip recs).take i)) x)∧
  s'.tm.sl=foT s.tm.sl (os.zip recs)∧s'.s.h.get=foH s.s.h.get (os.zip recs)∧log'=(recs.map Prod.snd).reverse++log:=by
 intro os
 induction os with
 |nil =>
  intro k log log' s s' he
  simp only[evDraw,Option.some.injEq,Prod.mk.injEq] at he
  obtain⟨rfl,rfl⟩:=he
  exact⟨LogOk.refl _,[],rfl,fun i o x h=>by simp at h,rfl,rfl,rfl⟩
 |cons o os ih =>
  intro k log log' s s' he
  unfold evDraw at he
  simp only at he
  have key:∃(r:ES) (hs:Hs) (l:Le),LogOk s.s hs∧hs.h.get=wrs s.s.h.get l.wr∧FactE X all o s.tm.sl s.s.h.get (r,l)∧evDraw (X.ee F orc) call yld all tab nx0 os (k+1) (l::log) ⟨putT s.tm o.dst r,hs⟩=some (s',log'):=by
   split at he
   · rename_i hy
     split at he
     · rename_i r hs l h1
       rw[forceES_eq,PT.force_eq] at he
       obtain⟨l1,l2,l3,l4⟩:=evOneD_ok horc hcall hyld h1
       exact⟨r,hs,l,l1,l2,⟨.inl ⟨hy,l3⟩,l4⟩,he⟩
     · cases he
   · rename_i hy
     rw[PT.force_eq] at he
     exact⟨.und,s.s,⟨true,[],[]⟩,LogOk.refl _,rfl,⟨.inr ⟨hy,rfl,rfl⟩,fun p hp=>by cases hp⟩,he⟩
   · cases he
  obtain⟨r,hs,l,l1,l2,hf,he'⟩:=key
  obtain⟨j1,recs,j2,j3,j4,j5,j6⟩:=ih he'
  have e1:(putT s.tm o.dst r).sl=putE s.tm.sl o.dst r:=putT_sl _ _ _
  simp only at j3 j4 j5
  rw[e1] at j3 j4
  rw[l2] at j3 j5
  refine⟨l1.trans j1,(r,l)::recs,by simp[j2],fun i o' x hi hx=>?_,j4,j5,by rw[j6];simp⟩
  cases i with
  |zero=>simp at hi hx;subst hi;subst hx;exact hf
  |succ i=>exact j3 i o' x (by simpa using hi) (by simpa using hx)
theorem stepD{ro:Option Nat}{E:EEnv}(hI:∀w',BelowO E.own E.w0 w'→X.I w'){nt:Nat}{H:Heap}{β:Bm}{tm tm':Nat→ES}{h h':Hp}{a:Act}{w:World}{all:Array Oper}{o:Oper}{x:ES×Le}(hd:∀d,o.dst=some d→d<nt)
 (hS:ESt X E nt H β tm' h' a w) {mo:Nat→Prop} (hM:MarksOk mo a.defers w) (hf:FactE X all o tm h x) (hm:∀t∈looksB all o,tm' t=tm t) (hv:∀g,x.2.vis g=true→h' g=h g) {K:Act→World→Prop} {Q:Exit→Act→World→Prop}
 (hK:∀H' β' a' w',HLe H H'→BLe β β'→ESt X E nt H' β' (putE tm' o.dst x.1) (wrs h' x.2.wr) a' w'→MarksOk mo a'.defers w'→MarkSame w w'→K a' w') :
 if Region.wanted o (yielded all a.tmps) then o.wpIn (FW ro) 0 X.P a w K Q else(∀f,o.about X.P w a.eval=some f→(FW ro).fn f)∧K (a.put o.dst undef) w:=by
 have em:maskE (looksB all o) tm=maskE (looksB all o) tm':=by
  funext t
  unfold maskE
  cases hb:memN t (looksB all o) with
  |false=>rfl
  |true=>rw[hm t (memN_iff.1 hb)]
 have eh:hideV x.2.vis h=hideV x.2.vis h':=by
  funext g
  unfold hideV
  cases hb:x.2.vis g with
  |false=>rfl
  |true=>rw[hv g hb]
 unfold FactE at hf
 rw[em,eh] at hf
 obtain⟨hf,hvis⟩:=hf
 have hS0:ESt X (hidE E x.2.vis h' H β w) nt H β (maskE (looksB all o) tm') (hideV x.2.vis h') a w:=⟨hS.sim.hide _,fun t=>by
  unfold maskE
  cases memN t (looksB all o) with
  |false=>trivial
  |true=>exact hS.slot t,hS.size⟩
 rcases hf with⟨hy,ho⟩|⟨hy,hr,hw⟩
 · rw[wantedE hS0 hy]
   simp only[if_true]
   refine ho ro (hidE E x.2.vis h' H β w) (fun w' hb=>hI w' (hS.sim.below.trans (hb.mono fun k hk=>hk.1))) nt H β a w K Q hS0 fun v H' β' w' h1 h2 h3 h4 h5=>?_
   exact hK H' β' _ w' h1 h2 (hS.fin hd h1 h2 (hS.sim.unhide h1 h2 h3 hvis) h5) (by rw[put_defers];exact hM.keep h4) h4
 · rw[wantedE hS0 hy]
   simp only[Bool.false_eq_true,if_false]
   rw[hr,hw] at hK
   exact⟨fun _ _=>trivial,hK H β _ w (HLe.refl _) (BLe.refl _) (hS.fin hd (HLe.refl _) (BLe.refl _) hS.sim (r:=.und) rfl) (by rw[put_defers];exact hM) (MarkSame.refl _)⟩
end
def actT(D:Nat→Option Nat)(L:Nat→ES×Le)(t i:Nat)(x:ES):ES:=if D i=some t then(L i).1 else x
def actH(L:Nat→ES×Le)(g i:Nat)(x:Option EO):Option EO:=wrs (fun _=>x) (L i).2.wr g
theorem actH_idle{L:Nat→ES×Le}{g i:Nat}(h:∀p∈(L i).2.wr,p.1≠g)(x:Option EO):actH L g i x=x:=wrs_other h
theorem actT_put{D:Nat→Option Nat}{L:Nat→ES×Le}{i:Nat}{dst:Option Nat}(hD:D i=dst)(tm:Nat→ES)(t:Nat):putE tm dst (L i).1 t=actT D L t i (tm t):=by
 unfold actT
 rw[hD]
 cases dst with
 |none=>simp[putE]
 |some d =>
  by_cases h:d=t
  · subst h;simp[putE,upd_same]
  · simp[putE,h,upd_other _ _ _ (Ne.symm h)]
theorem actH_wrs(L:Nat→ES×Le)(i:Nat)(h:Hp)(g:Nat):wrs h (L i).2.wr g=actH L g i (h g):=wrs_congr rfl
def stT(D:Nat→Option Nat)(L:Nat→ES×Le)(n:Nat)(S:Nat→Bool)(tm:Nat→ES):Nat→ES:=fun t=>gF (actT D L t) S (List.range n) (tm t)
def stH(L:Nat→ES×Le)(n:Nat)(S:Nat→Bool)(h:Hp):Hp:=fun g=>gF (actH L g) S (List.range n) (h g)
theorem beq_ne{j i:Nat}(h:j≠i):Nat.beq j i=false:=by
 cases hb:Nat.beq j i
 · rfl
 · exact absurd (Nat.eq_of_beq_eq_true hb) h
theorem fo_eq{os:List Oper}{recs:List (ES×Le)}(hl:recs.length=os.length)(D:Nat→Option Nat)(hD:∀i o,os[i]?=some o→D i=o.dst)(tm:Nat→ES)(h:Hp):∀k,k≤os.length→
 foT tm ((os.zip recs).take k)=stT D (fun i=>recs.getD i default) os.length (fun j=>decide (j<k)) tm∧
 foH h ((os.zip recs).take k)=stH (fun i=>recs.getD i default) os.length (fun j=>decide (j<k)) h:=by
 intro k
 induction k with
 |zero =>
  intro _
  refine⟨?_,?_⟩
  · funext t;exact(gF_none fun i _=>by simp).symm
  · funext g;exact(gF_none fun i _=>by simp).symm
 |succ k ih =>
  intro hk
  obtain⟨i1,i2⟩:=ih (by omega)
  have ho:os[k]?=some os[k]:=by simp
  have hz:(os.zip recs)[k]?=some (os[k],recs[k]'(by omega)):=by
   rw[List.getElem?_zip_eq_some];exact⟨ho,by simp⟩
  have hg:recs.getD k default=recs[k]'(by omega):=by
   have:k<recs.length:=by omega
   simp[this]
  have hS:∀j,decide (j<k+1)=(decide (j<k)||Nat.beq j k):=by
   intro j
   by_cases h1:j<k
   · simp[h1];omega
   · by_cases h2:j=k
     · subst h2;simp[Nat.beq_refl]
     · simp[h1,beq_ne h2];omega
  have hm:k∈List.range os.length:=List.mem_range.2 (by omega)
  constructor
  · rw[List.take_add_one,foT,List.foldl_append,hz]
    funext t
    have i1':List.foldl (fun tm p=>putE tm p.1.dst p.2.1) tm ((os.zip recs).take k)=_:=i1
    rw[i1']
    simp only[Option.toList_some,List.foldl_cons,List.foldl_nil]
    rw[←hg,actT_put (L:=fun i=>recs.getD i default) (hD k _ ho)]
    exact(gF_add (act:=actT D (fun i=>recs.getD i default) t) (i:=k) hS (by simp) List.pairwise_lt_range hm fun j hj h1 h2=>absurd h2 (by simp;omega)).symm
  · rw[List.take_add_one,foH,List.foldl_append,hz]
    funext g
    have i2':List.foldl (fun h p=>wrs h p.2.2.wr) h ((os.zip recs).take k)=_:=i2
    rw[i2']
    simp only[Option.toList_some,List.foldl_cons,List.foldl_nil]
    rw[←hg,actH_wrs (fun i=>recs.getD i default) k]
    exact(gF_add (act:=actH (fun i=>recs.getD i default) g) (i:=k) hS (by simp) List.pairwise_lt_range hm fun j hj h1 h2=>absurd h2 (by simp;omega)).symm
section
variable {X:EX}{all:Array Oper}{tab:List Nat}{nt:Nat}{E:EEnv}{ro:Option Nat}
theorem anyE(hI:∀w',BelowO E.own E.w0 w'→X.I w')(hd:dstsOk nt all.toList=true)(hf:Flow all tab){tm:Nat→ES}{h:Hp}{D:Nat→Option Nat}(hD:∀i o,all[i]?=some o→D i=o.dst)(L:Nat→ES×Le)
 (hfact:∀i o,all[i]?=some o→FactE X all o (stT D L all.size (fun j=>decide (j<i)) tm) (stH L all.size (fun j=>decide (j<i)) h) (L i))
 (hconf:∀i j,i<all.size→j<all.size→near tab i j=true∨∀p∈(L i).2.wr,(L j).2.vis p.1=false) {mo:Nat→Prop} {Q:Exit→Act→World→Prop} :
 ∀(fuel:Nat) (listed:Array Bool) (S:Nat→Bool) (H:Heap) (β:Bm) (a:Act) (w:World),(∀j,j<all.size→listed.getD j true=S j∧listed.getD j false=S j)→((List.range all.size).filter fun j=>!S j).length≤fuel→Closed all S→
  ESt X E nt H β (stT D L all.size S tm) (stH L all.size S h) a w→MarksOk mo a.defers w→
  (∀H' β' a' w',HLe H H'→BLe β β'→ESt X E nt H' β' (stT D L all.size (fun _=>true) tm) (stH L all.size (fun _=>true) h) a' w'→MarksOk mo a'.defers w'→MarkSame w w'→Q .normal a' w')→wpAnyIn (FW ro) 0 X.P .any all Q fuel listed a w:=by
 have lt:∀{j o},all[j]?=some o→j<all.size:=fun h=>(Array.getElem?_eq_some_iff.1 h).1
 have edge_iff:∀{o:Oper} {p:Nat→Prop},(∀e∈o.after,Region.binds .any e=true→p e.on)↔∀e∈edgesOf o,p e:=by
  intro o p
  unfold edgesOf
  constructor
  · intro h e he
    obtain⟨x,hx,e'⟩:=List.mem_filterMap.1 he
    cases hb:Region.binds .any x with
    |true=>simp[hb] at e';subst e';exact h x (by simpa using hx) hb
    |false=>simp[hb] at e'
  · intro h x hx hb
    exact h _ (List.mem_filterMap.2 ⟨x,by simpa using hx,by simp[hb]⟩)
 have done:∀{listed:Array Bool} {S:Nat→Bool},(∀j,j<all.size→listed.getD j true=S j∧listed.getD j false=S j)→Region.ready .any all listed=[]→∀j,j<all.size→S j=true:=by
  intro listed S hl hr j
  induction j using Nat.strongRecOn with
  |_ j ih =>
   intro hj
   cases hS:S j with
   |true=>rfl
   |false =>
    have hg:all[j]?=some all[j]:=by simp[hj]
    have:j∈Region.ready .any all listed:=mem_ready.2 ⟨by rw[(hl j hj).1,hS],all[j],hg,(edge_iff (p:=fun e=>listed.getD e false=true)).2 fun e he=>by
     have:=hf.edge j _ hg e he
     rw[(hl e (by omega)).2];exact ih e this (by omega)⟩
    rw[hr] at this;simp at this
 have fin:∀{S:Nat→Bool},(∀j,j<all.size→S j=true)→stT D L all.size S tm=stT D L all.size (fun _=>true) tm∧stH L all.size S h=stH L all.size (fun _=>true) h:=fun hS =>
  ⟨funext fun t=>gF_agree fun i hi hne=>absurd (hS i (List.mem_range.1 hi)) hne,funext fun g=>gF_agree fun i hi hne=>absurd (hS i (List.mem_range.1 hi)) hne⟩
 intro fuel
 induction fuel with
 |zero =>
  intro listed S H β a w hl hn hc hs hM hQ
  have hS:∀j,j<all.size→S j=true:=fun j hj=>by
   have h0:(List.range all.size).filter (fun j=>!S j)=[]:=List.eq_nil_of_length_eq_zero (by omega)
   have:=List.filter_eq_nil_iff.1 h0 j (List.mem_range.2 hj)
   simpa using this
  rw[(fin hS).1,(fin hS).2] at hs
  refine⟨?_,hQ H β a w (HLe.refl _) (BLe.refl _) hs hM (MarkSame.refl _)⟩
  cases hr:Region.ready .any all listed with
  |nil=>rfl
  |cons i is =>
   have hi:i∈Region.ready .any all listed:=by rw[hr];simp
   obtain⟨h0,o,ho,_⟩:=mem_ready.1 hi
   rw[(hl i (lt ho)).1,hS i (lt ho)] at h0;cases h0
 |succ fuel ih =>
  intro listed S H β a w hl hn hc hs hM hQ
  refine⟨fun hr=>?_,fun i hi=>?_⟩
  · rw[(fin (done hl hr)).1,(fin (done hl hr)).2] at hs
    exact hQ H β a w (HLe.refl _) (BLe.refl _) hs hM (MarkSame.refl _)
  obtain⟨h0,o,ho,hall⟩:=mem_ready.1 hi
  have hilt:=lt ho
  have hSi:S i=false:=by rw[←(hl i hilt).1];exact h0
  have hre:∀e∈edgesOf o,S e=true:=fun e he=>by
   have:=hf.edge i o ho e he
   rw[←(hl e (by omega)).2]
   exact(edge_iff (p:=fun e=>listed.getD e false=true)).1 hall e he
  have same:∀j,j<all.size→near tab i j=true→decide (j<i)=S j:=fun j hj hn=>hf.near_same hc ho (show all[j]?=some all[j] by simp[hj]) hre hSi hn
  have hfa:=hfact i o ho
  unfold wpOpIn
  simp only[ho]
  refine stepD hI (dstsOk_spec hd (by simpa using Array.mem_of_getElem? ho)) hs hM hfa (fun t ht=>?_) (fun g hg=>?_) fun H' β' a' w' k1 k2 k3 k4 k5=>?_
  · refine gF_agree fun j hj hne x=>?_
    have hj:=List.mem_range.1 hj
    have hgj:all[j]?=some all[j]:=by simp[hj]
    unfold actT
    rw[if_neg fun hdj=>?_]
    have:=same j hj (hf.looks i o ho t ht j _ hgj (by rw[←hD j _ hgj];exact hdj))
    exact hne this.symm
  · refine gF_agree fun j hj hne x=>actH_idle (fun p hp e=>?_) x
    have hj:=List.mem_range.1 hj
    rcases hconf j i hj hilt with hn|hm
    · rw[near_symm] at hn;exact hne (same j hj hn).symm
    · have:=hm p hp
      rw[e,hg] at this;cases this
  · refine ih _ (fun j=>S j||Nat.beq j i) H' β' a' w' (fun j hj=>?_) ?_ ?_ ?_ k4 fun H2 β2 a2 w2 j1 j2 j3 j4 j5=>hQ H2 β2 a2 w2 (k1.trans j1) (k2.trans j2) j3 j4 (k5.trans j5)
    · by_cases hji:j=i
      · subst hji
        have hsz:j<listed.size:=by
         rcases Nat.lt_or_ge j listed.size with h'|h'
         · exact h'
         · simp[Array.getElem?_eq_none h'] at h0
        simp[hsz,Nat.beq_refl]
      · rw[getD_set_ne true (Ne.symm hji),getD_set_ne false (Ne.symm hji),beq_ne hji,Bool.or_false]
        exact hl j hj
    · have:=Go.Proofs.Fl.filter_lt (p:=fun j=>!S j) (p':=fun j=>!(S j||Nat.beq j i)) (i:=i) (by simp[hSi]) (by simp[Nat.beq_refl]) (fun j hj=>by simp at hj ⊢;exact hj.1) (List.mem_range.2 hilt)
      omega
    · intro j o' hj hSj e he
      simp only[Bool.or_eq_true] at hSj ⊢
      rcases hSj with hSj|hSj
      · exact .inl (hc j o' hj hSj e he)
      · have:=Nat.eq_of_beq_eq_true hSj;subst this
        rw[ho] at hj;cases hj
        exact .inl (hre e he)
    · have hnn:∀j,j<all.size→i<j→S j=true→near tab i j=false:=fun j hj hij hSj=>by
       cases hn:near tab i j with
       |false=>rfl
       |true =>
        have:=same j hj hn
        rw[hSj] at this
        simp at this;omega
      have e1:stT D L all.size (fun j=>S j||Nat.beq j i) tm=putE (stT D L all.size S tm) o.dst (L i).1:=by
       funext t
       rw[actT_put (hD i o ho)]
       refine gF_add (act:=actT D L t) (i:=i) (fun _=>rfl) hSi List.pairwise_lt_range (List.mem_range.2 hilt) fun j hj hij _ b=>?_
       have hj:=List.mem_range.1 hj
       have hgj:all[j]?=some all[j]:=by simp[hj]
       unfold actT
       by_cases h1:D i=some t
       · by_cases h2:D j=some t
         · have:=hf.uniq j i _ o t hgj ho (by rw[←hD j _ hgj];exact h2) (by rw[←hD i _ ho];exact h1)
           omega
         · rw[if_neg h2,if_neg h2]
       · rw[if_neg h1,if_neg h1]
      have e2:stH L all.size (fun j=>S j||Nat.beq j i) h=wrs (stH L all.size S h) (L i).2.wr:=by
       funext g
       rw[actH_wrs]
       refine gF_add (act:=actH L g) (i:=i) (fun _=>rfl) hSi List.pairwise_lt_range (List.mem_range.2 hilt) fun j hj hij hSj b=>?_
       have hj:=List.mem_range.1 hj
       have hn0:=hnn j hj hij hSj
       have m1:=(hconf i j hilt hj).resolve_left (by rw[hn0];simp)
       by_cases hgi:∃p∈(L i).2.wr,p.1=g
       · obtain⟨p,hp,hpg⟩:=hgi
         have hjd:∀b,actH L g j b=b:=actH_idle fun q hq hqg=>by
          have hgj:all[j]?=some all[j]:=by simp[hj]
          have:=(hfact j _ hgj).2 q hq
          rw[hqg,←hpg,m1 p hp] at this;cases this
         rw[hjd,hjd]
       · have hid:∀b,actH L g i b=b:=actH_idle fun q hq hqg=>hgi ⟨q,hq,hqg⟩
         rw[hid,hid]
      rw[e1,e2];exact k3
theorem confRowE_spec{tab:List Nat}{i:Nat}{ws:Wr}:∀{ls:List Le} {k:Nat},confRowE tab i ws ls k=true→∀j l,ls[j]?=some l→near tab i (k+j)=true∨∀p∈ws,l.vis p.1=false
 | [],_,_,j,l,h=>by simp at h
 |l'::ls,k,h,j,l,hl=>by
  simp only[confRowE,Bool.and_eq_true,Bool.or_eq_true] at h
  cases j with
  |zero =>
   simp at hl;subst hl
   exact h.1.imp id fun h p hp=>by simpa using List.all_eq_true.1 h p hp
  |succ j =>
   have:=confRowE_spec h.2 j l (by simpa using hl)
   rwa[show k+1+j=k+(j+1) by omega] at this
theorem confE_spec{tab:List Nat}{all:List Le}:∀{ls:List Le} {k:Nat},confE tab all ls k=true→∀i x,ls[i]?=some x→∀j l,all[j]?=some l→near tab (k+i) j=true∨∀p∈x.wr,l.vis p.1=false
 | [],_,_,i,x,h=>by simp at h
 |l'::ls,k,h,i,x,hx=>by
  simp only[confE,Bool.and_eq_true] at h
  intro j l hl
  cases i with
  |zero =>
   simp at hx;subst hx
   have h1:=h.1
   split at h1
   · rename_i hw
     exact .inr fun p hp=>by rw[hw] at hp;cases hp
   · simpa using confRowE_spec h1 j l hl
  |succ i =>
   have:=confE_spec h.2 i x (by simpa using hx) j l hl
   rwa[show k+1+i=k+(i+1) by omega] at this
end
def Sound(X:EX)(rd:Bool)(nt:Nat)(c:Code)(s:Sg)(e:Exit)(s':Sg):Prop :=
 LogOk s.s s'.s∧∀(ro:Option Nat),(rd=false→ro=none)→∀(E:EEnv),(∀w',BelowO E.own E.w0 w'→X.I w')→∀(w0:World) (H:Heap) (β:Bm) (a:Act) (w:World) (Q:Exit→Act→World→Prop),ESm X E w0 nt H β s a w→
  (∀a' w',EPost X E w0 nt H β w s' a' w'→Q e a' w')→c.wpIn (FW ro) 0 X.P Q a w
section
variable {X:EX}{F:FuncId→Option FnE}{orc:FuncId→List ES→Hs→Option (ES×Hs)}{call:FuncId→List ES→Hs→Option (ES×Hs)}{yld:Nat→List ES→Hs→Option Hs}
theorem evReg_ok(horc:OrcOk X orc)(hcall:CallsOk X call)(hyld:YldsOk X yld){rd:Bool}{nt id:Nat}{all:Array Oper}{draw:Bool}{s s':Sg}(he:evReg (X.ee F orc) call yld nt all draw s=some s'):Sound X rd nt (.region id all draw) s .normal s':=by
 unfold evReg at he
 cases hd:dstsOk nt all.toList with
 |false=>rw[hd] at he;cases he
 |true =>
  rw[hd] at he
  simp only[cond_true] at he
  cases draw with
  |false =>
   obtain⟨h1,h2⟩:=evOps_ok horc hcall hyld he
   exact⟨h1,fun ro _ E hI w0 H β a w Q hS hQ=>wpIn_region_list (h2 ro E hI w0 nt Q H β a w hd hS hQ)⟩
  |true =>
   cases hfl:flowOk all (ancs all.toList) with
   |false=>rw[hfl] at he;cases he
   |true =>
    rw[hfl] at he
    simp only[cond_true] at he
    split at he
    · rename_i s2 log hdr
      cases hcf:confE (ancs all.toList) log.reverse log.reverse 0 with
      |false=>rw[hcf] at he;cases he
      |true =>
       rw[hcf] at he
       simp only[cond_true,Option.some.injEq] at he
       subst he
       have hflow:=flow_of hfl
       obtain⟨l1,recs,e1,e2,e3,e4,e5⟩:=evDraw_ok horc hcall hyld hdr
       have hlen:all.toList.length=all.size:=by simp
       let D:Nat→Option Nat:=fun i=>(all[i]?).bind (·.dst)
       have hD:∀i o,all[i]?=some o→D i=o.dst:=fun i o ho=>by simp[D,ho]
       have hD':∀i o,all.toList[i]?=some o→D i=o.dst:=fun i o ho=>hD i o (by simpa using ho)
       have zf:=fo_eq e1 D hD' s.tm.sl s.s.h.get
       rw[hlen] at zf
       have htk:(all.toList.zip recs).take all.size=all.toList.zip recs:=List.take_of_length_le (by simp[e1])
       have hall:=zf all.size (Nat.le_refl _)
       rw[htk] at hall
       simp only at e2 e3 e4
       rw[hall.1] at e3
       rw[hall.2] at e4
       have t1:stT D (fun i=>recs.getD i default) all.size (fun j=>decide (j<all.size)) s.tm.sl=stT D (fun i=>recs.getD i default) all.size (fun _=>true) s.tm.sl :=
        funext fun t=>gF_agree fun i hi hne=>by have:=List.mem_range.1 hi;simp[this] at hne
       have t2:stH (fun i=>recs.getD i default) all.size (fun j=>decide (j<all.size)) s.s.h.get=stH (fun i=>recs.getD i default) all.size (fun _=>true) s.s.h.get :=
        funext fun t=>gF_agree fun i hi hne=>by have:=List.mem_range.1 hi;simp[this] at hne
       rw[t1] at e3
       rw[t2] at e4
       have hrec:∀i,i<all.size→recs[i]?=some (recs.getD i default):=fun i hi=>by
        have:i<recs.length:=by omega
        simp[this]
       have hlog:log.reverse=recs.map Prod.snd:=by rw[e5];simp
       refine⟨l1,fun ro _ E hI w0 H β a w Q hS hQ=>?_⟩
       refine wpIn_region_any X.hm (anyE (tm:=s.tm.sl) (h:=s.s.h.get) hI hd hflow hD (fun i=>recs.getD i default) (fun i o ho=>?_) (fun i j hi hj=>?_) all.size _ (fun _=>false) H β a _ (fun j hj=>?_) ?_ ?_ ?_ ?_ fun H' β' a' w' h1 h2 h3 h4 h5=>hQ a' w' ⟨H',β',h1,h2,⟨by rw[e3,e4];exact h3,h4,hS.2.2.trans h5⟩,?_⟩)
       · have hlt:i<all.size:=(Array.getElem?_eq_some_iff.1 ho).1
         have:=e2 i o _ (by simpa using ho) (hrec i hlt)
         rw[(zf i (by omega)).1,(zf i (by omega)).2] at this
         exact this
       · rw[hlog] at hcf
         have:=confE_spec hcf i (recs.getD i default).2 (by rw[List.getElem?_map,hrec i hi];rfl) j (recs.getD j default).2 (by rw[List.getElem?_map,hrec j hj];rfl)
         rwa[Nat.zero_add] at this
       · simp[hj]
       · exact Nat.le_trans (List.length_filter_le _ _) (by simp)
       · intro j o _ h;cases h
       · have z1:stT D (fun i=>recs.getD i default) all.size (fun _=>false) s.tm.sl=s.tm.sl:=funext fun t=>gF_none fun _ _=>rfl
         have z2:stH (fun i=>recs.getD i default) all.size (fun _=>false) s.s.h.get=s.s.h.get:=funext fun t=>gF_none fun _ _=>rfl
         rw[z1,z2]
         exact⟨hS.1.sim.same rfl rfl rfl rfl,hS.1.slot,hS.1.size⟩
       · exact hS.2.1.keep fun _ _=>rfl
       · exact fun Dd hD=>h5 Dd hD
    · cases he
end
section
variable {X:EX}
def LoopS(X:EX)(rd:Bool)(nt:Nat)(b:Code)(s:Sg)(e:Exit)(s':Sg):Prop :=
 ∃m,∀(ro:Option Nat),(rd=false→ro=none)→∀(E:EEnv),(∀w',BelowO E.own E.w0 w'→X.I w')→∀(w0:World) (H:Heap) (β:Bm) (a:Act) (w:World) (Q:Exit→Act→World→Prop),ESm X E w0 nt H β s a w→
  (∀a' w',EPost X E w0 nt H β w s' a' w'→Q e a' w')→Code.roundsIn (FW ro) 0 X.P b Q m a w
def EvOk(X:EX)(ev:Bool→Nat→Code→Sg→Option (Exit×Sg)):Prop:=∀rd nt c s e s',ev rd nt c s=some (e,s')→Sound X rd nt c s e s'∧∀b,c=.loop b→LoopS X rd nt b s e s'
theorem Sound.of_loop{rd:Bool}{nt:Nat}{b:Code}{s s':Sg}{e:Exit}(hl:LogOk s.s s'.s)(h:LoopS X rd nt b s e s'):Sound X rd nt (.loop b) s e s':=by
 obtain⟨m,h⟩:=h
 exact⟨hl,fun ro hro E hI w0 H β a w Q hS hQ=>wpIn_loop_rounds m (h ro hro E hI w0 H β a w Q hS hQ)⟩
theorem Sound.seq{rd:Bool}{nt:Nat}{x y:Code}{s s1 s':Sg}{e:Exit}(h1:Sound X rd nt x s .normal s1)(h2:Sound X rd nt y s1 e s'):Sound X rd nt (.seq x y) s e s' :=
 ⟨h1.1.trans h2.1,fun ro hro E hI w0 H β a w Q hS hQ=>wpIn_seq (h1.2 ro hro E hI w0 H β a w _ hS fun a1 w1 hp=>by
  obtain⟨H1,β1,p1,p2,p3,p4⟩:=hp
  exact h2.2 ro hro E hI w0 H1 β1 a1 w1 Q p3 fun a' w' hp'=>hQ a' w' (hp'.trans p1 p2 p4))⟩
theorem Sound.seqX{rd:Bool}{nt:Nat}{x y:Code}{s s':Sg}{e:Exit}(h1:Sound X rd nt x s e s')(he:e≠ .normal):Sound X rd nt (.seq x y) s e s' :=
 ⟨h1.1,fun ro hro E hI w0 H β a w Q hS hQ=>wpIn_seq (h1.2 ro hro E hI w0 H β a w _ hS fun a1 w1 hp=>by
  cases e<;>first|exact absurd rfl he|exact hQ _ _ hp)⟩
theorem Sound.block{rd:Bool}{nt id:Nat}{c:Code}{s s':Sg}{e:Exit}(h:Sound X rd nt c s e s'):Sound X rd nt (.block id c) s (match e with | .exit i=>bif Nat.beq i id then .normal else .exit i|e=>e) s' :=
 ⟨h.1,fun ro hro E hI w0 H β a w Q hS hQ=>wpIn_block (h.2 ro hro E hI w0 H β a w _ hS fun a1 w1 hp=>by
  have hq:=hQ a1 w1 hp
  cases e with
  |exit i =>
   simp only[Exit.inBlock]
   by_cases hi:i=id
   · subst hi
     simp only[Nat.beq_refl,cond_true] at hq
     simp only[if_true];exact hq
   · simp only[beq_ne hi,cond_false] at hq
     simp only[hi,if_false];exact hq
  |_=>exact hq)⟩
theorem Sound.cond{rd:Bool}{nt:Nat}{c:Operand}{x y:Code}{t:Bool}{s s':Sg}{e:Exit}(hc:evE s.tm.sl c=.w (.one (.iv (.bool t))))(h:Sound X rd nt (match t with|true=>x|false=>y) s e s'):Sound X rd nt (.cond c x y) s e s' :=
 ⟨h.1,fun ro hro E hI w0 H β a w Q hS hQ=>by
  have hv:=ev_okE hS.1 c
  rw[hc] at hv
  refine wpIn_cond_split (SRe.bool hv) (fun e=>?_) (fun e=>?_)
  · subst e;exact h.2 ro hro E hI w0 H β a w Q hS hQ
  · subst e;exact h.2 ro hro E hI w0 H β a w Q hS hQ⟩
theorem LoopS.more{rd:Bool}{nt:Nat}{b:Code}{s s1 s':Sg}{e:Exit}(h1:Sound X rd nt b s .normal s1)(h2:LoopS X rd nt b s1 e s'):LoopS X rd nt b s e s':=by
 obtain⟨m,h2⟩:=h2
 refine⟨m+1,fun ro hro E hI w0 H β a w Q hS hQ=>?_⟩
 rw[roundsIn_succ]
 refine h1.2 ro hro E hI w0 H β a w _ hS fun a1 w1 hp=>?_
 obtain⟨H1,β1,p1,p2,p3,p4⟩:=hp
 exact h2 ro hro E hI w0 H1 β1 a1 w1 Q p3 fun a' w' hp'=>hQ a' w' (hp'.trans p1 p2 p4)
theorem LoopS.out{rd:Bool}{nt:Nat}{b:Code}{s s':Sg}{e:Exit}(h1:Sound X rd nt b s e s')(he:e≠ .normal):LoopS X rd nt b s e s':=by
 refine⟨1,fun ro hro E hI w0 H β a w Q hS hQ=>?_⟩
 rw[roundsIn_succ]
 refine h1.2 ro hro E hI w0 H β a w _ hS fun a1 w1 hp=>?_
 cases e<;>first|exact absurd rfl he|exact hQ _ _ hp
theorem OR.poke{Z:QS}{own:Nat→Prop}{w w':World}{H:Heap}{β:Bm}{g:Nat}{o:EO}(hw:∀(k:Nat) x,w.heap[k]?=some x→(∀d,x≠ .deferred d)→w'.heap[k]?=some x)(h:OR Z own w H β g o):OR Z own w' H β g o:=by
 cases o with
 |mem e cs fz vs cnt=>exact⟨h.1,fun u p hup=>by
  obtain⟨h1,k,arr,h2,h3,h4,h5,h6⟩:=h.2 u p hup
  exact⟨h1,k,arr,h2,h3,h4,hw _ _ h5 (by simp),h6⟩⟩
 |map es ck=>obtain⟨k,ents,h1,h2,h3,h4,h5⟩:=h;exact⟨k,ents,h1,h2,h3,hw _ _ h4 (by simp),h5⟩
 |iter gm since seen last cur=>obtain⟨k,km,sn,h1,h2,h3,h4,h5,h6⟩:=h;exact⟨k,km,sn,h1,h2,h3,h4,hw _ _ h5 (by simp),h6⟩
 |loop busy nt tm ps assign body=>obtain⟨k,L,h1,h2,h3,h4,h5⟩:=h;exact⟨k,L,h1,h2,h3,hw _ _ h4 (by simp),h5⟩
 |hid=>trivial
theorem ESim.poke{Z:QS}{E:EEnv}{H:Heap}{β:Bm}{h:Hp}{w:World}(hS:ESim Z E H β h w){D:Nat}{d d':Option (List Deferred)}(hD:w.heap[D]?=some (.deferred d))(ho:E.own D):ESim Z E H β h (w.putObj D (.deferred d')):=by
 have hw:∀(k:Nat) x,w.heap[k]?=some x→(∀d,x≠ .deferred d)→(w.putObj D (.deferred d')).heap[k]?=some x:=fun k x hk hx=>by
  refine(World.putObj_heap_other fun e=>?_).trans hk
  subst e;rw[hD] at hk;cases hk;exact hx _ rfl
 refine⟨fun b arr hb=>?_,hS.below.trans ⟨rfl,rfl,rfl,by simp,fun k hk=>World.putObj_heap_other fun e=>hk (by rw[e];exact ho)⟩,fun k hk=>hS.lo k (by simpa using hk),hS.ext,fun g o hg=>(hS.obj g o hg).poke hw,fun g u k hk=>?_,hS.inj,hS.hidb⟩
 · obtain⟨t,fr,ht⟩:=hS.has b arr hb
   exact⟨t,fr,hw _ _ ht (by simp)⟩
 · obtain⟨a,b⟩:=hS.dom g u k hk
   exact⟨by simpa using a,b⟩
theorem leavesE{Z:QS}{P:Program}{fn:Func}{tmps:Array Value}{R:Ending→World→Prop}{E:EEnv}{H:Heap}{β:Bm}{h:Hp}{w0:World}:∀(M:List Deferred) {w:World},ESim Z E H β h w→MarksOk (mo E w0) M w→MarkSame w0 w→
 (∀w',ESim Z E H β h w'→MarkSame w0 w'→∃v,(results fn tmps).run P w'=.ok v w'∧R (.returned v) w')→LeavesInM (FW none) 0 P fn tmps R M .returning w
 | [],w,hS,_,hm,hk=>hk w hS hm
 |d::M,w,hS,hM,hm,hk=>by
  obtain⟨D,e,ho,hb⟩:=hM.2 d (by simp)
  have hp:=hM.1
  refine⟨by simp,.inl ⟨D,w.putObj D (.deferred none),by rw[e],run_takeDeferred hb,?_⟩⟩
  refine leavesE M (hS.poke hb ho.1) ⟨(List.pairwise_cons.1 hp).2,fun d' hd'=>?_⟩ (fun D0 hD0=>?_) hk
  · obtain⟨D',e',ho',hb'⟩:=hM.2 d' (List.mem_cons_of_mem _ hd')
    refine⟨D',e',ho',(World.putObj_heap_other fun e0=>(List.pairwise_cons.1 hp).1 d' hd' (by rw[e,e',e0])).trans hb'⟩
  · refine(World.putObj_heap_other fun e0=>ho.2 (by rw[←e0];exact hD0)).trans (hm D0 hD0)
theorem loadE_ok{E:EEnv}{H:Heap}{β:Bm}{h:Hp}{w:World}(hS:ESim X.Z E H β h w){t:TypeId}{v:Value}{x r:ES}{ws:Wr}(hx:SRe X.Z H β v x)(he:eLoad X.T X.Z h t x=some (r,ws)) :
 ∃p u,v=.pointer (some p)∧(loadVar t p).run X.P w=.ok u w∧SRe X.Z H β u r:=by
 unfold eLoad at he
 split at he
 · rename_i ty g u off ht
   obtain⟨k,hk,hx⟩:=hx
   obtain⟨i,d,z,ok⟩:=tyOf_ok (X.hT t ty ht)
   split at he
   · rename_i cs hrd
     rw[forceL_eq] at he
     obtain⟨k',arr,e,h1,h2,h3,h4,h5,h6⟩:=rdO_ok hS hrd
     rw[hk] at h1;cases h1
     split at he
     · rename_i y hv
       simp only[Option.some.injEq,Prod.mk.injEq] at he
       obtain⟨rfl,rfl⟩:=he
       have hcell:∀j c,((arr.toList.drop off).take ty.size)[j]?=some c→w.cell? ⟨k.1,off+j,none⟩=some c:=fun j c hc=>by
        rw[cell_of_row w _ _ arr e (0,0) h2]
        rw[List.getElem?_take] at hc
        split at hc
        · simpa using hc
        · simp at hc
       rcases mkV_ok hv h4 with⟨q1,q2⟩|⟨q1,v,q2,q3⟩
       · refine⟨_,.agg ((arr.toList.drop off).take ty.size).toArray,hx,?_,q2⟩
         have hl:=run_loadCells_list (P:=X.P) w ⟨k.1,off,none⟩ ((arr.toList.drop off).take ty.size) (fun j c hc=>by rw[add_mk];exact hcell j c hc)
         have hlen:((arr.toList.drop off).take ty.size).length=ty.size:=by simp;omega
         rw[hlen] at hl
         simp only[loadVar,Sem.run_bind,ok.run_agg,q1,Result.andThen_ok,if_true,ok.run_size,hl,Sem.run_pure]
       · refine⟨_,v,hx,?_,q3⟩
         have h0:=hcell 0 v (by rw[q2];rfl)
         rw[Nat.add_zero] at h0
         simp only[loadVar,Sem.run_bind,ok.run_agg,q1,Result.andThen_ok,Bool.false_eq_true,if_false,run_load,h0]
     · cases he
   · cases he
 · rename_i ty y off ht
   obtain⟨b,base,u,arr,hxv,hb,h4,h6⟩:=hx
   obtain⟨i,d,z,ok⟩:=tyOf_ok (X.hT t ty ht)
   obtain⟨e,fr,h5⟩:=hS.has b arr hb
   split at he
   · rename_i r0 hl
     cases hrt:r0.isTup with
     |true=>rw[hrt] at he;cases he
     |false =>
      rw[hrt] at he
      simp only[cond_false,Option.some.injEq,Prod.mk.injEq] at he
      obtain⟨rfl,rfl⟩:=he
      obtain⟨v',hr,hu⟩:=run_loadVar ok h5 h4 h6 hl
      exact⟨_,v',hxv,hr,dS_ok hu hrt⟩
   · cases he
 · cases he
theorem resE_ok{E:EEnv}{H:Heap}{β:Bm}{h:Hp}{w:World}(hS:ESim X.Z E H β h w){tmps:Array Value}{tm:Nat→ES}(hsl:∀t,SRe X.Z H β (tmps.getD t undef) (tm t)):∀{rs:List ResultVar} {xs:List EW},resE X.T X.Z tm h rs=some xs→
 ∃vs:List Value,(rs.mapM (resOf tmps)).run X.P w=.ok vs w∧WRL X.Z H β vs xs
 | [],xs,he=>by
  simp only[resE,Option.some.injEq] at he;subst he
  exact⟨[],by simp,trivial⟩
 | .tmp t::rs,xs,he=>by
  unfold resE at he
  split at he
  · rename_i x ys hx hr
    simp only[Option.some.injEq] at he;subst he
    obtain⟨vs,e,V⟩:=resE_ok hS hsl hr
    have hv:=hsl t
    rw[hx] at hv
    refine⟨tmps.getD t undef::vs,?_,hv,V⟩
    simp only[List.mapM_cons,resOf,Sem.run_bind,Sem.run_pure,Result.andThen_ok,e]
  · cases he
 | .cell a t::rs,xs,he=>by
  unfold resE at he
  split at he
  · rename_i x ys hx hr
    simp only[Option.some.injEq] at he;subst he
    obtain⟨vs,e,V⟩:=resE_ok hS hsl hr
    obtain⟨p,u,h1,h2,h3⟩:=loadE_ok hS (hsl a) hx
    refine⟨u::vs,?_,h3,V⟩
    simp only[List.mapM_cons,resOf,h1,asAddr,Sem.run_bind,Sem.run_pure,Result.andThen_ok,h2,e]
  · cases he
theorem oneE_ok{H:Heap}{β:Bm}{vs:List Value}{xs:List EW}(h:WRL X.Z H β vs xs):SRe X.Z H β (if h:vs.toArray.size=1 then vs.toArray[0] else .tuple vs.toArray) (oneE xs):=by
 cases vs with
 |nil=>cases xs with
  |nil=>exact⟨[],rfl,trivial⟩
  |cons=>exact h.elim
 |cons v vs=>cases xs with
  |nil=>exact h.elim
  |cons x xs =>
   cases vs with
   |nil=>cases xs with
    |nil=>exact h.1
    |cons=>exact h.2.elim
   |cons v' vs=>cases xs with
    |nil=>exact h.2.elim
    |cons x' xs =>
     have:¬(v::v'::vs).toArray.size=1:=by simp
     rw[dif_neg this]
     exact⟨_,rfl,h⟩
theorem argT_sl:∀(xs:List ES) (i:Nat) (t:PT ES) (m:Nat),(argT xs i t).sl m=if i≤m∧m<i+xs.length then xs.getD (m-i) .und else t.sl m
 | [],i,t,m=>by simp[argT];intro h1 h2;omega
 |x::xs,i,t,m=>by
  rw[argT,argT_sl xs (i+1)]
  have e:(t.set i x).sl m=if m=i then x else t.sl m:=by
   unfold PT.sl;rw[PT.get_set];split<;>rfl
  rw[e]
  by_cases h1:m=i
  · subst h1
    rw[if_neg (by omega),if_pos rfl,if_pos (by simp)];simp
  · rw[if_neg h1]
    by_cases h2:i+1≤m∧m<i+1+xs.length
    · rw[if_pos h2,if_pos (by simp;omega)]
      rw[show m-i=(m-(i+1))+1 by omega]
      rfl
    · rw[if_neg h2,if_neg (by simp;omega)]
theorem callF_ok{F:FuncId→Option FnE}{orc:FuncId→List ES→Hs→Option (ES×Hs)}{ev:Bool→Nat→Code→Sg→Option (Exit×Sg)}(hF:∀f q,F f=some q→∃fn,FnOk X f q fn)(hev:EvOk X ev):CallsOk X (callF (X.ee F orc) ev):=by
 intro f args s r s' he
 unfold callF at he
 split at he
 · rename_i q hq
   obtain⟨fn,ok⟩:=hF f q hq
   cases hb:Nat.ble args.length q.nt with
   |false=>rw[hb] at he;cases he
   |true =>
    rw[hb] at he
    simp only[cond_true] at he
    have hle:=Nat.le_of_ble_eq_true hb
    have key:∃e s1 xs,(e=.normal∨e=.ret)∧ev false q.nt q.body ⟨argT args 0 .nil,s⟩=some (e,s1)∧resE X.T X.Z s1.tm.sl s1.s.h.get q.rs=some xs∧r=oneE xs∧s'=s1.s:=by
     split at he
     · rename_i s1 hev1
       split at he
       · rename_i xs hr
         simp only[Option.some.injEq,Prod.mk.injEq] at he
         exact⟨_,s1,xs,.inl rfl,hev1,hr,he.1.symm,he.2.symm⟩
       · cases he
     · rename_i s1 hev1
       split at he
       · rename_i xs hr
         simp only[Option.some.injEq,Prod.mk.injEq] at he
         exact⟨_,s1,xs,.inr rfl,hev1,hr,he.1.symm,he.2.symm⟩
       · cases he
     · cases he
    obtain⟨e,s1,xs,hne,hev1,hr,rfl,rfl⟩:=key
    obtain⟨⟨l1,hsound⟩,_⟩:=hev _ _ _ _ _ _ hev1
    refine⟨l1,⟨fn,ok.has,ok.name,by rw[ok.body];rfl⟩,fun E hI H β w vs hS hargs=>?_⟩
    have hlen:=hargs.length
    refine(callsIn_wide (n:=0)).1 (callsIn_of_wp_marks ok.has ok.body trivial ?_)
    refine hsound none (fun _=>rfl) E hI w H β _ w _ ⟨⟨hS,fun t=>?_,?_⟩,MarksOk.nil _ _,MarkSame.refl _⟩ fun a0 w1 hp=>?_
    · show SRe _ _ _ _ ((argT args 0 .nil).sl t)
      rw[argT_sl]
      by_cases ht:t<args.length
      · rw[if_pos ⟨Nat.zero_le _,by omega⟩,Nat.sub_zero]
        obtain⟨v,h1,h2⟩:=hargs.get t (args[t]) (by simp[ht])
        have hlt:t<vs.length:=by omega
        have:(vs.toArray++Array.replicate (fn.ntmps-vs.toArray.size) undef).getD t undef=v:=by
         simp[Array.getElem?_append,hlt]
         exact(List.getElem?_eq_some_iff.1 h1).2
        rw[this]
        have e2:args.getD t .und=args[t]:=by simp[ht]
        rw[e2];exact h2
      · rw[if_neg (by omega)]
        show _=undef
        have hge:¬t<vs.length:=by omega
        simp[Array.getElem?_append,hge,Array.getElem?_replicate]
        split<;>rfl
    · show(vs.toArray++Array.replicate (fn.ntmps-vs.toArray.size) undef).size=q.nt
      rw[←ok.nt] at hle ⊢
      simp;omega
    · obtain⟨H1,β1,p1,p2,p3,p4⟩:=hp
      have fin:LeavesInM (FW none) 0 X.P fn a0.tmps (RetPost X E H β w s1.s.h.get (oneE xs)) a0.defers .returning w1:=by
       refine leavesE a0.defers p3.1.sim p3.2.1 p3.2.2 fun w' hS' hm'=>?_
       obtain⟨us,e1,V⟩:=resE_ok hS' p3.1.slot hr
       refine⟨(if h:us.toArray.size=1 then us.toArray[0] else .tuple us.toArray),?_,_,H1,β1,rfl,p1,p2,hS',hm',oneE_ok V⟩
       unfold results
       have e0:(fn.results.mapM fun | .tmp t=>pure (a0.tmps.getD t undef) | .cell a t=>do loadVar t (← asAddr (a0.tmps.getD a undef)):Sem (Array Value))=List.toArray <$> q.rs.mapM (resOf a0.tmps):=by
        rw[Array.mapM_eq_mapM_toList,ok.rs]
        rfl
       refine(congrArg (fun(x:Sem (Array Value))=>(x >>= fun vs=>pure (if h:vs.size=1 then vs[0] else .tuple vs)).run X.P w') e0).trans ?_
       simp only[Sem.run_bind,Sem.run_map,e1,Result.andThen_ok,Sem.run_pure]
      rcases hne with rfl|rfl
      · exact fin
      · exact fin
 · cases he
end
end Go.Proofs.En
namespace Go.Proofs.Fl
open Go.RowKit
def Rec(w:World)(l:Nat)(fn:FuncId)(tmps:Array Value)(ps:Array Tmp)(assign body:Code):Prop :=
 ∃D,w.heap[l]?=some (.loop { state:=.ready,pending:=none,fn,tmps,params:=ps,assign,body,defers:=D })
structure IterJ(X:Cx)(l:Nat)(ys:List (List IV))(J:(Nat→Prop)→Nat→Heap→World→Prop):Prop where
 inv:∀own k H w w',J own k H w→BelowO own w w'→X.I w'
 step:∀own k H H' w w',J own k H w→BelowO own w w'→HeapHas w' H'→HExtO own H H'→J own k H' w'
 sub:∀own own' k H w,J own k H w→(∀b,own' b→own b)→J own' k H w
 round:∀own k H w args (hk:k<ys.length),J own k H w→HeapHas w H→(∀b,w.heap.size≤b→own b)→VRL H args ys[k]→
  YieldAt (FW none) 0 X.P l args.toArray w (fun e w'=>e=.returned (.bool true)∧∃H',HeapHas w' H'∧HLe H H'∧w.heap.size≤w'.heap.size∧w'.os=w.os∧w'.tape=w.tape∧w'.output=w.output∧
   (∀b,own b→b<w.heap.size→w'.heap[b]?=w.heap[b]?∧(H b=none→H' b=none))∧J (fun b=>own b∧(b<w.heap.size∨w'.heap.size≤b)) (k+1) H' w')
def yieldV(l:Nat):Value:=.func (.yield l) #[] #[]
def IterC(X:Cx)(f:FuncId)(zs:List IV)(ys:List (List IV)):Prop :=
 (∃fn,X.P.funcs[f]?=some fn∧(fn.name == "runtime.NumGoroutine")=false∧fn.body.isNone=false)∧
 ∀(l:Nat) (J:(Nat→Prop)→Nat→Heap→World→Prop) (own:Nat→Prop) (H:Heap) (w:World) (bs:List Nat),IterJ X l ys J→J own 0 H w→HeapHas w H→(∀b,w.heap.size≤b→own b)→BRs own w H bs zs→bs.Pairwise (· ≠ ·)→
  CallsIn (FW none) 0 X.P f (yieldV l::bs.map fun b=>Value.pointer (some ⟨b,0,none⟩)).toArray w (fun e w'=>∃v own' H',e=.returned v∧HeapHas w' H'∧J own' ys.length H' w')
theorem Sim.stand{E:Env}{H H':Heap}{β:Nat→Nat×Nat}{tm:Nat→SV}{bx:Nat→Option Bx}{tmps:Array Value}{w w':World}{own:Nat→Prop}(h:Sim E H β tm bx tmps w)(hb:BelowO own w w')(hh:HeapHas w' H')(he:HExtO own H H')(hsub:∀b,own b→E.own b)
 (hbx:∀g b,bx g=some b→b.alive=true→¬own (β g).1) (hrw:∀g s R,bx g=some (.bld s)→RowAt s w (β g).1 R→¬own R) (hm:∀D,({ target:=.collected D,args := #[] }:Deferred)∈E.mrk→¬own D):Sim E H' β tm bx tmps w' where
 has:=hh
 below:=h.below.trans (hb.mono hsub)
 lo k hk:=h.lo k (Nat.le_trans hb.size hk)
 ext:=h.ext.step he hsub
 slot t:=(h.slot t).mono he.1 (fun g b hg=>⟨b,hg,shape.refl b,rfl⟩)
 box g b hg:=by
  by_cases ha:b.alive=true
  · refine(h.box g b hg).keep (hb.block _ (hbx g b hg ha)) he.1 (fun hn=>?_) (fun s R eb hR=>?_)
    · cases hx:H' (β g).1 with
      |none=>rfl
      |some arr =>
       rcases he.2 _ _ hx with h1|h1
       · rw[hn] at h1;cases h1
       · exact absurd h1 (hbx g b hg ha)
    · subst eb
      have hno:=hrw g s R hg hR
      refine⟨hb.block _ hno,fun hn=>?_⟩
      cases hx:H' R with
      |none=>rfl
      |some arr =>
       rcases he.2 _ _ hx with h1|h1
       · rw[hn] at h1;cases h1
       · exact absurd h1 hno
  · cases b<;>first|trivial|simp[Bx.alive] at ha
 inj:=h.inj
 pin:=h.pin
 marks:=⟨h.marks.1,fun d hd=>by
  obtain⟨D,e,ho,hD⟩:=h.marks.2 d hd
  exact⟨D,e,ho,(hb.block D (hm D (e▸hd))).trans hD⟩⟩
 hid g s g' b R h1 h2 ha hR:=h.hid g s g' b R h1 h2 ha (hR.same (hb.block _ (hbx g _ h1 rfl)))
theorem Sim.rebase{E:Env}{H:Heap}{β:Nat→Nat×Nat}{tm:Nat→SV}{bx:Nat→Option Bx}{tmps:Array Value}{w:World}(h:Sim E H β tm bx tmps w){own:Nat→Prop}{pin:Nat→Option (Nat×Nat)}{M:List Deferred}(hbx:∀g b,bx g=some b→b.alive=true→own (β g).1)(hrw:∀g s R,bx g=some (.bld s)→RowAt s w (β g).1 R→own R)
 (hlo:∀k,w.heap.size≤k→own k) (hpin:∀g k,pin g=some k→β g=k∧bx g≠none∧g<pinId+8∧pinId≤g) (hm:MarksOk own M w):Sim ⟨own,w,H,pin,M⟩ H β tm bx tmps w where
 has:=h.has
 below:=BelowO.refl _ _
 lo:=hlo
 ext:=HExtO.refl _ _
 slot:=h.slot
 box g b hg:=by
  by_cases ha:b.alive=true
  · have:=h.box g b hg
    have ho:=hbx g b hg ha
    cases b with
    |var x=>exact⟨ho,this.2⟩
    |arr=>exact⟨ho,this.2⟩
    |bld s=>exact⟨ho,this.2.1,this.2.2.1,fun R hR=>⟨hrw g s R hg hR,(this.2.2.2 R hR).2⟩⟩
    |arrN=>exact⟨this.1,ho,this.2.2⟩
    |dead=>trivial
  · cases b<;>first|trivial|simp[Bx.alive] at ha
 inj:=h.inj
 pin:=hpin
 marks:=hm
 hid:=h.hid
def okP(bx:Nat→Option Bx):SV→Prop
 | .unk=>True
 | .und=>True
 | .iv _=>True
 | .nilS=>True
 | .ptr g _=>bx g≠none
 | .cv _ _ gs=>∀g∈gs,bx g≠none
 |_=>False
theorem SR.okP{H H':Heap}{β:Nat→Nat×Nat}{bx bx':Nat→Option Bx}{v:Value}(hh:HLe H H'):∀{s:SV},okP bx' s→SR H β bx v s→SR H' β bx' v s
 | .unk,_,_=>trivial
 | .und,_,h=>h
 | .iv _,_,h=>VR.mono hh h
 | .nilS,_,h=>h
 | .ptr _ _,ho,h=>⟨ho,h.2⟩
 | .cv _ _ _,ho,h=>⟨h.1,ho,h.2.2⟩
def putsL(tm:Nat→SV):List Nat→List IV→Nat→SV
 |p::ps,y::ys=>putsL (upd tm p (.iv y)) ps ys
 |_,_=>tm
theorem Sim.puts{E:Env}{H:Heap}{β:Nat→Nat×Nat}{bx:Nat→Option Bx}{w:World}{nt:Nat}:∀{ps:List Nat} {ys:List IV} {vs:List Value} {tm:Nat→SV} {tmps:Array Value},Sim E H β tm bx tmps w→tmps.size=nt→(∀p∈ps,p<nt)→VRL H vs ys→
 Sim E H β (putsL tm ps ys) bx ((ps.zip vs).foldl (fun tmps p=>tmps.setIfInBounds p.1 p.2) tmps) w∧((ps.zip vs).foldl (fun tmps p=>tmps.setIfInBounds p.1 p.2) tmps).size=nt
 | [],_,_,_,_,h,hs,_,_=>⟨by simpa[putsL] using h,by simpa using hs⟩
 |p::ps,[],_,_,_,h,hs,_,.nil=>⟨by simpa[putsL] using h,by simpa using hs⟩
 |p::ps,y::ys,_,tm,tmps,h,hs,hp,.cons v _ vs _ hv t=>by
  simp only[putsL,List.zip_cons_cons,List.foldl_cons]
  exact Sim.puts (h.put (d:=p) (by rw[hs];exact hp p (by simp)) (r:=.iv y) hv) (by rw[Array.size_setIfInBounds];exact hs) (fun q hq=>hp q (by simp[hq])) t
def Cx.any(X:Cx):Cx:={ X with ro:=fun _=>True,r0:=trivial }
def cloB(bx:Nat→Option Bx):List Nat→List IV→Prop
 | [],[]=>True
 |g::gs,z::zs=>bx g=some (.var z)∧cloB bx gs zs
 |_,_=>False
theorem cloB_brs{E:Env}{H:Heap}{β:Nat→Nat×Nat}{tm:Nat→SV}{bx:Nat→Option Bx}{tmps:Array Value}{w:World}(h:Sim E H β tm bx tmps w){own:Nat→Prop}:∀{gs:List Nat} {zs:List IV},cloB bx gs zs→(∀g∈gs,own (β g).1)→BRs own w H (gs.map fun g=>(β g).1) zs
 | [],[],_,_=>trivial
 | [],_::_,h,_=>h.elim
 |_::_,[],h,_=>h.elim
 |g::gs,z::zs,hc,ho=>by
  refine⟨?_,cloB_brs h hc.2 (fun g hg=>ho g (by simp[hg]))⟩
  have:=h.box g _ hc.1
  exact⟨ho g (by simp),this.2⟩
theorem cloB_get{bx:Nat→Option Bx}:∀{gs:List Nat} {zs:List IV},cloB bx gs zs→∀g∈gs,∃z,bx g=some (.var z)
 | [],_,_,g,hg=>by cases hg
 |_::_,[],h,_,_=>h.elim
 |g::gs,z::zs,hc,g',hg=>by
  rcases List.mem_cons.1 hg with rfl|hg
  · exact⟨z,hc.1⟩
  · exact cloB_get hc.2 g' hg
def roundK(X:Cx)(nt:Nat)(body:Code)(bx':Nat→Option Bx):Exit→AS→Prop
 | .normal,σ=>CW X.any nt body σ fun e σ'=>e=.normal∧∀id b,bx' id=some b→σ'.bx id=some b
 |_,_=>False
structure RJ(X:Cx)(E:Env)(nt:Nat)(β:Nat→Nat×Nat)(tm:Nat→SV)(inv:Nat→Nat→Option Bx)(l:Nat)(fn:FuncId)(tmps:Array Value)(ps:Array Tmp)(assign body:Code)(own:Nat→Prop)(k:Nat)(H:Heap)(w:World):Prop where
 sim:Sim E H β tm (inv k) tmps w
 rec':Rec w l fn tmps ps assign body
 sub:∀b,own b→E.own b
 nl:¬own l
 el:E.own l
 bxs:∀g b,inv k g=some b→¬own (β g).1
 rws:∀g s R,inv k g=some (.bld s)→RowAt s w (β g).1 R→¬own R
 mks:∀D,({ target:=.collected D,args := #[] }:Deferred)∈E.mrk→¬own D
theorem RJ.iter{X:Cx}{E:Env}{nt:Nat}{β:Nat→Nat×Nat}{tm:Nat→SV}{inv:Nat→Nat→Option Bx}{l:Nat}{fn:FuncId}{tmps:Array Value}{ps:Array Tmp}{assign body:Code}{ys:List (List IV)}{nx:Nat}
 (hI:∀w,BelowO E.own E.w0 w→X.I w) (hnt:tmps.size=nt) (hps:∀p∈ps.toList,p<nt) (hys:∀y∈ys,y.length=ps.size)
 (htm:∀k t,okP (inv k) (tm t)) (hal:∀k g b,inv k g=some b→b.alive=true∧pinId≤g∧g<pinId+8) (hdom:∀k g,inv k g≠none→inv (k+1) g≠none) (hdom':∀k g,inv (k+1) g≠none→inv k g≠none)
 (hround:∀k (hk:k<ys.length),CW X.any nt assign ⟨putsL tm ps.toList ys[k],inv k,nx⟩ (roundK X nt body (inv (k+1)))):IterJ X l ys (RJ X E nt β tm inv l fn tmps ps assign body) where
 inv own k H w w' h hb:=hI _ (h.sim.below.trans (hb.mono h.sub))
 step own k H H' w w' h hb hh he:=by
  refine⟨h.sim.stand hb hh he h.sub (fun g b hg _=>h.bxs g b hg) h.rws h.mks,?_,h.sub,h.nl,h.el,h.bxs,fun g s R hg hR=>h.rws g s R hg (hR.same (hb.block _ (h.bxs g _ hg))),h.mks⟩
  obtain⟨D,hD⟩:=h.rec'
  exact⟨D,(hb.block l h.nl).trans hD⟩
 sub own own' k H w h hs:=⟨h.sim,h.rec',fun b hb=>h.sub b (hs b hb),fun e=>h.nl (hs _ e),h.el,fun g b hg e=>h.bxs g b hg (hs _ e),fun g s R hg hR e=>h.rws g s R hg hR (hs _ e),fun D hD e=>h.mks D hD (hs _ e)⟩
 round own k H w args hk h hh hlo hargs:=by
  obtain⟨D,hD⟩:=h.rec'
  have hlen:=hargs.length
  have hlt:l<w.heap.size:=(Array.getElem?_eq_some_iff.1 hD).1
  have hsz:args.toArray.size=ps.size:=by
   simp only[List.size_toArray,hlen];exact hys _ (List.getElem_mem hk)
  refine⟨fn,_,assign,body,run_yield hD hsz,?_⟩
  refine roundIn_of_wpIn trivial ?_
  -- the blocks that the round may write
  let ow:Nat→Prop:=fun b=>E.own b∧¬(own b∧b<w.heap.size)∧b≠l∧¬({ target:=.collected b,args := #[] }:Deferred)∈E.mrk
  let pn:Nat→Option (Nat×Nat):=fun g=>match inv k g with|some _=>some (β g)|none=>none
  have mklt:∀D,({ target:=.collected D,args := #[] }:Deferred)∈E.mrk→w.heap[D]?=some (.deferred (some [])):=fun D hD=>by
   obtain⟨D',e,_,hb⟩:=h.sim.marks.2 _ hD
   cases e
   exact hb
  have olo:∀b,w.heap.size≤b→ow b:=fun b hb=>⟨h.sim.lo b hb,fun⟨_,h2⟩=>by omega,by omega,fun hm=>by
   have:=(Array.getElem?_eq_some_iff.1 (mklt b hm)).1
   omega⟩
  have obx:∀g b,inv k g=some b→b.alive=true→ow (β g).1:=fun g b hg ha=>by
   obtain⟨arr,e',hc⟩:=(h.sim.box g b hg).cells ha
   exact⟨(h.sim.box g b hg).lo ha,fun⟨h1,_⟩=>h.bxs g b hg h1,fun e=>(by rw[e,hD] at hc;cases hc),fun hm=>(by rw[mklt _ hm] at hc;cases hc)⟩
  have opn:∀g q,pn g=some q→β g=q∧inv k g≠none∧g<pinId+8∧pinId≤g:=fun g q hq=>by
   have hq':(match inv k g with|some _=>some (β g)|none=>none)=some q:=hq
   cases hg:inv k g with
   |none=>rw[hg] at hq';cases hq'
   |some b =>
    rw[hg] at hq'
    have:=hal k g b hg
    exact⟨by simpa using hq',by simp,this.2.2,this.2.1⟩
  have orw:∀g s R,inv k g=some (.bld s)→RowAt s w (β g).1 R→ow R:=fun g s R hg hR=>by
   have hb:=h.sim.box g _ hg
   obtain⟨_,_,arr,_,fz,hx⟩:=bld_row hb.2.2.1 hR
   exact⟨(hb.2.2.2 R hR).1,fun⟨h1,_⟩=>h.rws g s R hg hR h1,fun e=>(by rw[e,hD] at hx;cases hx),fun hm=>(by rw[mklt _ hm] at hx;cases hx)⟩
  have S1:=(h.sim.rebase (own:=ow) (pin:=pn) (M:=[]) obx orw olo opn (MarksOk.nil _ _))
  obtain⟨S2,hs2⟩:=S1.puts (ps:=ps.toList) (ys:=ys[k]) (vs:=args) hnt hps hargs
  have hI1:∀w',BelowO ow w w'→X.I w':=fun w' hb=>hI _ (h.sim.below.trans (hb.mono fun b hb=>hb.1))
  have etm:(ps.zip args.toArray).foldl (fun tmps (t,a)=>tmps.setIfInBounds t a) tmps=(ps.toList.zip args).foldl (fun tmps p=>tmps.setIfInBounds p.1 p.2) tmps:=by
   rw[←Array.foldl_toList,Array.toList_zip]
  have r1:=hround k hk ⟨some l,trivial⟩ ⟨ow,w,H,pn,[]⟩ (Exit.then (fun a₁ w₁=>∃w₂,(Instr.beginRound l).run X.P w₁=.ok () w₂∧body.wpIn ((FW none).inRound l) 0 X.P (roundPost X.P l (fun e w'=>e=.returned (.bool true)∧∃H',HeapHas w' H'∧HLe H H'∧w.heap.size≤w'.heap.size∧w'.os=w.os∧w'.tape=w.tape∧w'.output=w.output∧
   (∀b,own b→b<w.heap.size→w'.heap[b]?=w.heap[b]?∧(H b=none→H' b=none))∧RJ X E nt β tm inv l fn tmps ps assign body (fun b=>own b∧(b<w.heap.size∨w'.heap.size≤b)) (k+1) H' w')) a₁ w₂) (fun _ _ _=>False)) hI1 ?_ [] H β
   { tmps:=(ps.zip args.toArray).foldl (fun tmps (t,a)=>tmps.setIfInBounds t a) tmps,defers:=[] } w ⟨by rw[etm];exact S2,rfl,by rw[etm];exact hs2⟩
  · exact r1
  intro e σ' M1 H1 β1 a1 w1 hk1 hS1
  cases e with
  |normal=>?_
  |_=>exact hk1.elim
  have hw1:w1.heap[l]?=w.heap[l]?:=hS1.sim.below.block l (fun ho=>ho.2.2.1 rfl)
  have hD1:=hw1.trans hD
  refine⟨_,run_beginRound hD1 rfl,?_⟩
  -- the body
  have T1:Sim ⟨ow,w1,H1,pn,M1⟩ H1 β1 σ'.tm σ'.bx a1.tmps w1:=hS1.sim.rebase (fun g b hg ha=>(hS1.sim.box g b hg).lo ha) (fun g s R hg hR=>((hS1.sim.box g _ hg).2.2.2 R hR).1) hS1.sim.lo hS1.sim.pin hS1.sim.marks
  let w2:=w1.putObj l (.loop { state:=.busy,pending:=none,fn,tmps,params:=ps,assign,body,defers:=D })
  have T2:Sim ⟨fun b=>ow b∨b=l,w1,H1,pn,M1⟩ H1 β1 σ'.tm σ'.bx a1.tmps w1:=hS1.sim.rebase (fun g b hg ha=>.inl ((hS1.sim.box g b hg).lo ha)) (fun g s R hg hR=>.inl ((hS1.sim.box g _ hg).2.2.2 R hR).1) (fun k hk=>.inl (hS1.sim.lo k hk)) hS1.sim.pin
   ⟨hS1.sim.marks.1,fun d hd=>by obtain⟨D',e,ho,hb⟩:=hS1.sim.marks.2 d hd;exact⟨D',e,.inl ho,hb⟩⟩
  have T3:Sim ⟨fun b=>ow b∨b=l,w1,H1,pn,M1⟩ H1 β1 σ'.tm σ'.bx a1.tmps w2:=T2.poke _ hD1 rfl (.inr rfl) (fun d hd e=>by
   obtain⟨D',e',ho,hb⟩:=hS1.sim.marks.2 d hd
   rw[e] at e';cases e'
   rw[hD1] at hb;cases hb)
  have hne1:∀g b,σ'.bx g=some b→b.alive=true→(β1 g).1≠l:=fun g b hg ha e=>by
   obtain⟨arr,e',hc⟩:=(hS1.sim.box g b hg).cells ha
   rw[e,hD1] at hc;cases hc
  have T4:Sim ⟨ow,w2,H1,pn,M1⟩ H1 β1 σ'.tm σ'.bx a1.tmps w2:=T3.rebase (fun g b hg ha=>(hS1.sim.box g b hg).lo ha) (fun g s R hg hR=>((hS1.sim.box g _ hg).2.2.2 R (hR.same (World.putObj_heap_other (hne1 g _ hg rfl)))).1) (fun k hk=>hS1.sim.lo k (by simpa[w2] using hk)) T3.pin
   ⟨T3.marks.1,fun d hd=>by
    obtain⟨D',e,ho,hb⟩:=T3.marks.2 d hd
    refine⟨D',e,ho.resolve_right (fun e'=>?_),hb⟩
    obtain⟨D2,e2,ho2,hb2⟩:=hS1.sim.marks.2 d hd
    rw[e] at e2;cases e2
    rw[e',hD1] at hb2;cases hb2⟩
  have hI2:∀w',BelowO ow w2 w'→X.I w':=fun w' hb=>by
   refine hI _ (h.sim.below.trans ?_)
   have b1:BelowO E.own w w1:=hS1.sim.below.mono (fun b hb=>hb.1)
   have b2:BelowO E.own w1 w2:=⟨rfl,rfl,rfl,by simp[w2],fun b hb=>World.putObj_heap_other (fun e=>hb (by rw[e];exact h.el))⟩
   exact b1.trans (b2.trans (hb.mono (fun b hb=>hb.1)))
  refine hk1 ⟨some l,trivial⟩ ⟨ow,w2,H1,pn,[]⟩ _ hI2 ?_ M1 H1 β1 a1 w2 ⟨T4,hS1.defers,hS1.size⟩
  intro e3 σ3 M3 H3 β3 a3 w3 hk3 hS3
  obtain⟨rfl,hk3⟩:=hk3
  have hD3:w3.heap[l]?=some (.loop { state:=.busy,pending:=none,fn,tmps,params:=ps,assign,body,defers:=D }):=by
   rw[hS3.sim.below.block l (fun ho=>ho.2.2.1 rfl)]
   exact World.putObj_heap_same (Array.getElem?_eq_some_iff.1 hD1).1
  refine⟨_,_,run_endRound none hD3,rfl,H3,?_⟩
  have nl3:∀b arr,H3 b=some arr→b≠l:=fun b arr hb e=>by
   obtain⟨t,fr,ht⟩:=hS3.sim.has b arr hb
   rw[e,hD3] at ht;cases ht
  have hle:HLe H H3:=hS1.sim.ext.1.trans hS3.sim.ext.1
  have hsz2:w2.heap.size=w1.heap.size:=by simp[w2]
  have hsz3:w.heap.size≤w3.heap.size:=Nat.le_trans hS1.sim.below.size (by have:w2.heap.size≤w3.heap.size:=hS3.sim.below.size;omega)
  have hout:∀b,¬ow b→b≠l→w3.heap[b]?=w.heap[b]?:=fun b hb hbl=>by
   rw[hS3.sim.below.block b hb,show w2.heap[b]?=w1.heap[b]? from World.putObj_heap_other hbl,hS1.sim.below.block b hb]
  have hext:∀b arr,H3 b=some arr→H b=some arr∨ow b:=fun b arr hb=>by
   rcases hS3.sim.ext.2 b arr hb with h1|h1
   · exact hS1.sim.ext.2 b arr h1
   · exact .inr h1
  have hβ:∀g b,inv k g=some b→β3 g=β g:=fun g b hg=>(hS3.sim.pin g (β g) (by show(match inv k g with|some _=>some (β g)|none=>none)=_;rw[hg])).1
  have hinv:∀g b,inv (k+1) g=some b→∃b0,inv k g=some b0:=fun g b hg=>by
   cases hx:inv k g with
   |none=>exact absurd hx (hdom' k g (by rw[hg];simp))
   |some b0=>exact⟨b0,rfl⟩
  have hb4:BelowO E.own w (w3.putObj l (.loop { state:=.ready,pending:=none,fn,tmps,params:=ps,assign,body,defers:=D })):=by
   have b1:BelowO E.own w w1:=hS1.sim.below.mono (fun b hb=>hb.1)
   have b2:BelowO E.own w1 w2:=⟨rfl,rfl,rfl,by simp[w2],fun b hb=>World.putObj_heap_other (fun e=>hb (by rw[e];exact h.el))⟩
   have b3:BelowO E.own w2 w3:=hS3.sim.below.mono (fun b hb=>hb.1)
   have b4:BelowO E.own w3 (w3.putObj l (.loop { state:=.ready,pending:=none,fn,tmps,params:=ps,assign,body,defers:=D })):=⟨rfl,rfl,rfl,by simp,fun b hb=>World.putObj_heap_other (fun e=>hb (by rw[e];exact h.el))⟩
   exact b1.trans (b2.trans (b3.trans b4))
  refine⟨fun b arr hb=>?_,hle,by simpa using hsz3,hb4.os,hb4.tape,hb4.output,fun b hb hbw=>⟨?_,fun hn=>?_⟩,?_⟩
  · obtain⟨t,fr,ht⟩:=hS3.sim.has b arr hb
    exact⟨t,fr,(World.putObj_heap_other (nl3 b arr hb)).trans ht⟩
  · have hbl:b≠l:=fun e=>h.nl (by rw[←e];exact hb)
    exact(World.putObj_heap_other hbl).trans (hout b (fun ho=>ho.2.1 ⟨hb,hbw⟩) hbl)
  · cases hx:H3 b with
    |none=>rfl
    |some arr =>
     rcases hext b arr hx with h1|h1
     · rw[hn] at h1;cases h1
     · exact absurd ⟨hb,hbw⟩ h1.2.1
  · refine⟨?_,⟨D,World.putObj_heap_same (Array.getElem?_eq_some_iff.1 hD3).1⟩,fun b hb=>h.sub b hb.1,fun hb=>h.nl hb.1,h.el,fun g b hg hb=>?_,fun g s R hg hR hb=>?_,fun D' hD' hb=>h.mks D' hD' hb.1⟩
    · refine⟨fun b arr hb=>?_,h.sim.below.trans hb4,fun b hb=>h.sim.lo b (Nat.le_trans hsz3 (by simpa using hb)),h.sim.ext.step (own':=ow) ⟨hle,hext⟩ (fun b hb=>hb.1),fun t=>(h.sim.slot t).okP hle (htm (k+1) t),fun g b hg=>?_,fun g g' b b' hg hg' ha ha' e=>?_,fun g q hq=>?_,⟨h.sim.marks.1,fun d hd=>?_⟩,fun g s g' b R hg hg' ha hR=>?_⟩
      · obtain⟨t,fr,ht⟩:=hS3.sim.has b arr hb
        exact⟨t,fr,(World.putObj_heap_other (nl3 b arr hb)).trans ht⟩
      · obtain⟨b0,hb0⟩:=hinv g b hg
        have ha:=(hal (k+1) g b hg).1
        have hbr:=hS3.sim.box g b (hk3 g b hg)
        have hcell:=hbr.cells ha
        rw[hβ g b0 hb0] at hbr hcell
        refine(hbr.own_mono (fun b hb=>hb.1)).keep (World.putObj_heap_other fun e=>?_) (HLe.refl _) id (fun s R eb hR=>⟨World.putObj_heap_other fun e=>?_,id⟩)
        · obtain⟨arr,e',hc⟩:=hcell
          rw[e,hD3] at hc;cases hc
        · subst eb
          obtain⟨_,_,arr,_,fz,hx⟩:=bld_row hbr.2.2.1 hR
          rw[e,hD3] at hx;cases hx
      · obtain⟨b0,hb0⟩:=hinv g b hg
        obtain⟨b0',hb0'⟩:=hinv g' b' hg'
        rw[←hβ g b0 hb0,←hβ g' b0' hb0'] at e
        exact hS3.sim.inj g g' b b' (hk3 g b hg) (hk3 g' b' hg') ha ha' e
      · obtain⟨p1,p2,p3⟩:=h.sim.pin g q hq
        exact⟨p1,hdom k g p2,p3⟩
      · obtain⟨D',e,ho,hb⟩:=h.sim.marks.2 d hd
        have hDl:D'≠l:=fun e'=>by rw[e',hD] at hb;cases hb
        refine⟨D',e,ho,(World.putObj_heap_other hDl).trans ((hout D' (fun ho'=>ho'.2.2.2 (e▸hd)) hDl).trans hb)⟩
      · obtain⟨b0,hb0⟩:=hinv g _ hg
        obtain⟨b0',hb0'⟩:=hinv g' b hg'
        have hbr:=hS3.sim.box g _ (hk3 g _ hg)
        rw[←hβ g b0 hb0] at hR
        rw[←hβ g' b0' hb0']
        refine hS3.sim.hid g s g' b R (hk3 g _ hg) (hk3 g' b hg') ha (hR.same (World.putObj_heap_other fun e=>?_))
        obtain⟨arr,e',hc⟩:=hbr.cells rfl
        rw[e,hD3] at hc;cases hc
    · obtain⟨b0,hb0⟩:=hinv g b hg
      exact h.bxs g b0 hb0 hb.1
    · obtain⟨b0,hb0⟩:=hinv g _ hg
      have hbr:=hS3.sim.box g _ (hk3 g _ hg)
      rw[←hβ g b0 hb0] at hR
      have hR3:RowAt s w3 (β3 g).1 R:=hR.same (World.putObj_heap_other fun e=>by
       obtain⟨arr,e',hc⟩:=hbr.cells rfl
       rw[e,hD3] at hc;cases hc)
      have hlt:=(bld_row hbr.2.2.1 hR3).1
      have how:=(hbr.2.2.2 R hR3).1
      rcases hb.2 with h1|h1
      · exact how.2.1 ⟨hb.1,h1⟩
      · have h1:w3.heap.size≤R:=by simpa using h1
        omega
theorem CW.range{X:Cx}{nt:Nat}{σ:AS}{K:Exit→AS→Prop}(hro:∀r,X.ro r→r=none){g:Operand}{ps:Array Tmp}{assign body:Code}{f:FuncId}{gs:List Nat}{zs:List IV}{ys:List (List IV)}(hg:evS σ.tm g=.clo f gs)(hz:cloB σ.bx gs zs)(hgs:gs.Pairwise (· ≠ ·))
 (hit:IterC X f zs ys) (tm:Nat→SV) (inv:Nat→Nat→Option Bx) {nx:Nat} (hps:∀p∈ps.toList,p<nt) (hys:∀y∈ys,y.length=ps.size)
 (h0:∀t,tm t=.unk∨σ.tm t=tm t) (htm:∀k t,okP (inv k) (tm t)) (hb0:∀g b,inv 0 g=some b→σ.bx g=some b) (hdj:∀id∈gs,inv 0 id=none)
 (hal:∀k g b,inv k g=some b→b.alive=true∧pinId≤g∧g<pinId+8) (hdom:∀k g,inv k g≠none↔inv (k+1) g≠none) (hpinned:∀i,i<8→σ.bx (pinId+i)≠none→inv 0 (pinId+i)≠none)
 (hround:∀k (hk:k<ys.length),CW X.any nt assign ⟨putsL tm ps.toList ys[k],inv k,nx⟩ (roundK X nt body (inv (k+1)))) (hend:K .normal ⟨tm,inv ys.length,nx⟩):CW X nt (.rangeFunc g ps assign body) σ K:=by
 intro ro E Q hI hQ M H β a w hS
 have er:=hro ro.1 ro.2
 rw[er]
 refine wpIn_rangeFunc fun fn _=>?_
 obtain⟨⟨fn',hf1,hf2,hf3⟩,hcall⟩:=hit
 let w1:World:=(w.alloc (.deferred (some []))).alloc (.loop { state:=.ready,pending:=none,fn,tmps:=a.tmps,params:=ps,assign,body,defers:=w.heap.size })
 have hv:=ev_ok hS.sim rfl g
 rw[hg] at hv
 obtain⟨hv1,hv2⟩:=hv
 let bs:=gs.map fun g=>(β g).1
 have hbel:Below w.heap.size w w1:=((Below.refl _ _).alloc (Nat.le_refl _) _).alloc (by simp) _
 have hw1l:w1.heap[w.heap.size+1]?=some (.loop { state:=.ready,pending:=none,fn,tmps:=a.tmps,params:=ps,assign,body,defers:=w.heap.size }):=by
  have:=World.alloc_heap_new (w.alloc (.deferred (some []))) (.loop { state:=.ready,pending:=none,fn,tmps:=a.tmps,params:=ps,assign,body,defers:=w.heap.size })
  rwa[World.size_alloc] at this
 have hw1D:w1.heap[w.heap.size]?=some (.deferred (some [])) :=
  (Below.heap_alloc (w.alloc (.deferred (some []))) _ w.heap.size (by simp)).trans (World.alloc_heap_new w _)
 have hsz1:w1.heap.size=w.heap.size+2:=by simp[w1]
 have G1:=hS.sim.grow hbel (fun b arr hb=>by
  obtain⟨t,fr,ht⟩:=hS.sim.has b arr hb
  exact⟨t,fr,(hbel.block b (hS.sim.has.lt hb)).trans ht⟩) (HExt.refl _ _)
 let M':List Deferred:={ target:=.collected w.heap.size,args := #[] }::M
 have G2:Sim (E.mks M') H β tm (inv 0) a.tmps w1:=by
  refine⟨G1.has,G1.below,G1.lo,G1.ext,fun t=>?_,fun g b hb=>G1.box g b (hb0 g b hb),fun g g' b b' h1 h2=>G1.inj g g' b b' (hb0 g b h1) (hb0 g' b' h2),fun g q hq=>?_,?_,?_⟩
  · rcases h0 t with e|e
    · rw[e];trivial
    · have:=G1.slot t
      rw[e] at this
      exact this.okP (HLe.refl _) (htm 0 t)
  · obtain⟨p1,p2,p3,p4⟩:=G1.pin g q hq
    have hh:=hpinned (g-pinId) (by omega)
    rw[show pinId+(g-pinId)=g by omega] at hh
    exact⟨p1,hh p2,p3,p4⟩
  rotate_left
  · exact fun g s g' b R h1 h2 ha hR=>G1.hid g s g' b R (hb0 g _ h1) (hb0 g' b h2) ha hR
  · refine⟨List.pairwise_cons.2 ⟨fun d hd e=>?_,G1.marks.1⟩,fun d hd=>?_⟩
    · obtain⟨D,e',_,hb⟩:=hS.sim.marks.2 d hd
      rw[←e] at e';cases e'
      have:=(Array.getElem?_eq_some_iff.1 hb).1
      omega
    · rcases List.mem_cons.1 hd with rfl|hd
      · exact⟨_,rfl,hS.sim.lo _ (Nat.le_refl _),hw1D⟩
      · exact G1.marks.2 d hd
 refine⟨w.heap.size+1,[{ target:=.collected w.heap.size,args := #[] }],w1,{ target:=.fn (.func f) (bs.map fun b=>Value.pointer (some ⟨b,0,none⟩)).toArray,args := #[yieldV (w.heap.size+1)] },w1,f,(yieldV (w.heap.size+1)::bs.map fun b=>Value.pointer (some ⟨b,0,none⟩)).toArray,w1,?_,?_,fun _ _=>trivial,?_,fun e=>(by cases e),?_⟩
 · exact run_enterLoop_outer fn a.tmps ps assign body
 · simp only[resolve,rangeCall,hv2,Deferred.ofValue,Sem.run_pure]
   simp[Act.eval,yieldV,bs]
 · simp only[invoke,callFunc,Sem.run_bind,run_program,Result.andThen_ok,hf1,hf2,hf3,Bool.false_eq_true,if_false,Sem.run_pure]
   congr 2
   apply Array.ext'
   simp
 · refine(hcall (w.heap.size+1) (RJ X (E.mks M') nt β tm inv (w.heap.size+1) fn a.tmps ps assign body) (fun b=>b∈bs∨w1.heap.size≤b) H w1 bs
    (RJ.iter hI hS.size hps hys htm hal (fun k g=>(hdom k g).1) (fun k g=>(hdom k g).2) hround) ?_ G2.has (fun b hb=>.inr hb) ?_ ?_).mono ?_
   · have hbs:∀b∈bs,b<w.heap.size∧E.own b:=fun b hb=>by
      obtain⟨g',hg',rfl⟩:=List.mem_map.1 hb
      obtain⟨z,hz'⟩:=cloB_get hz g' hg'
      exact⟨(hS.sim.box g' _ hz').lt rfl,(hS.sim.box g' _ hz').lo rfl⟩
     refine⟨G2,⟨_,hw1l⟩,fun b hb=>hb.elim (fun h=>(hbs b h).2) (fun h=>G1.lo b h),fun hb=>hb.elim (fun h=>by have:=(hbs _ h).1;omega) (fun h=>by omega),hS.sim.lo _ (by omega),fun g' b hg' hb=>?_,fun g' s R hg' hR hb=>?_,fun D hD hb=>?_⟩
     · have hbx:=hb0 g' b hg'
       have ha:=(hal 0 g' b hg').1
       rcases hb with hb|hb
       · obtain⟨g2,hg2,e⟩:=List.mem_map.1 hb
         obtain⟨z,hz'⟩:=cloB_get hz g2 hg2
         have:=hS.sim.inj g2 g' _ b hz' hbx rfl ha e
         subst this
         rw[hdj g2 hg2] at hg';cases hg'
       · have:=(G1.box g' b hbx).lt ha
         omega
     · have hbx:=hb0 g' _ hg'
       rcases hb with hb|hb
       · obtain⟨g2,hg2,e⟩:=List.mem_map.1 hb
         obtain⟨z,hz'⟩:=cloB_get hz g2 hg2
         exact G1.hid g' s g2 _ R hbx hz' rfl hR e
       · have:=(bld_row (G1.box g' _ hbx).2.2.1 hR).1
         omega
     · obtain⟨D',e,_,hx⟩:=G2.marks.2 _ hD
       cases e
       have hlt:=(Array.getElem?_eq_some_iff.1 hx).1
       rcases hb with hb|hb
       · obtain⟨g2,hg2,e⟩:=List.mem_map.1 hb
         obtain⟨z,hz'⟩:=cloB_get hz g2 hg2
         obtain⟨arr,e',hc⟩:=(G1.box g2 _ hz').cells rfl
         rw[e,hx] at hc;cases hc
       · omega
   · exact cloB_brs G1 hz (fun g' hg'=>.inl (List.mem_map.2 ⟨g',hg',rfl⟩))
   · refine List.pairwise_map.2 (hgs.imp_of_mem fun{x y} hx hy hne e=>hne ?_)
     obtain⟨z1,hz1⟩:=cloB_get hz x hx
     obtain⟨z2,hz2⟩:=cloB_get hz y hy
     exact hS.sim.inj x y _ _ hz1 hz2 rfl rfl e
   · rintro e w3 ⟨v,own',H3,rfl,hh3,hJ⟩
     obtain⟨D3,hD3⟩:=hJ.rec'
     refine⟨none,_,run_endLoop hD3 (by simp),?_⟩
     refine hQ .normal ⟨tm,inv ys.length,nx⟩ M' H3 β _ _ hend ⟨hJ.sim.poke _ hD3 rfl hJ.el (fun d hd e=>?_),?_,hS.size⟩
     · obtain⟨D',e',_,hb⟩:=hJ.sim.marks.2 d hd
       rw[e] at e';cases e'
       rw[hD3] at hb;cases hb
     · show _++a.defers=_
       rw[hS.defers];rfl
end Go.Proofs.Fl
namespace Go.Proofs.En
open Go.RowKit Go.Proofs.Fl
section
variable {X:EX}
theorem ESim.loopPut{E:EEnv}{H:Heap}{β:Bm}{h:Hp}{w:World}(hS:ESim X.Z E H β h w){g:Nat}{b:Bool}{nt:Nat}{tm:PT ES}{ps:List Nat}{ax bo:Code}(hg:h g=some (.loop b nt tm ps ax bo)){k:Nat×Nat}(hk:β g 0=some k){L L':Loop}(hw:w.heap[k.1]?=some (.loop L)){o':EO}(hc:o'.cnt=1)
 (ho:OR X.Z E.own (w.putObj k.1 (.loop L')) H β g o'):ESim X.Z E H β (upd h g (some o')) (w.putObj k.1 (.loop L'))∧MarkSame w (w.putObj k.1 (.loop L')):=by
 have hn:H k.1=none:=by
  obtain⟨k2,L2,h1,h2,h3,_⟩:=hS.obj g _ hg
  rw[hk] at h1;cases h1;exact h3
 refine⟨hS.turn (by rw[hg];simp) rfl rfl rfl (by simp) (fun k' _ hk'=>World.putObj_heap_other (fun e=>hk' 0 k hk e.symm)) (fun u s hs=>?_) (BLe.refl _) (fun _ _ _=>rfl) (fun u k' hk'=>?_) ho,fun D hD=>World.putObj_heap_other (fun e=>?_)⟩
 · obtain⟨_,_,o2,ho2,hc2⟩:=hS.domN hg (by simp) u s hs
   rw[hg] at ho2;cases ho2
   have:u=0:=by simp only[EO.cnt] at hc2;omega
   subst this
   rw[hk] at hs;cases hs;exact hn
 · obtain⟨a,b,o2,ho2,hc2⟩:=hS.domN hg (by simp) u k' hk'
   rw[hg] at ho2;cases ho2
   exact⟨by rw[hc];exact hc2,by simpa using a,b,.inl ⟨u,k',hk',rfl⟩⟩
 · subst e;rw[hw] at hD;cases hD
theorem putsE_ok{H:Heap}{β:Bm}{nt:Nat}:∀{ps:List Nat} {args:List ES} {vs:List Value} {tm tm':PT ES} {tmps:Array Value},putsE nt tm ps args=some tm'→SREL X.Z H β vs args→(∀t,SRe X.Z H β (tmps.getD t undef) (tm.sl t))→tmps.size=nt→
 ps.length=args.length∧(∀t,SRe X.Z H β (((ps.zip vs).foldl (fun tmps p=>tmps.setIfInBounds p.1 p.2) tmps).getD t undef) (tm'.sl t))∧((ps.zip vs).foldl (fun tmps p=>tmps.setIfInBounds p.1 p.2) tmps).size=nt
 | [],[],vs,tm,tm',tmps,he,hv,hs,hn=>by
  simp only[putsE,Option.some.injEq] at he;subst he
  exact⟨rfl,by simpa using hs,by simpa using hn⟩
 | [],_::_,_,_,_,_,he,_,_,_=>by simp[putsE] at he
 |_::_,[],_,_,_,_,he,_,_,_=>by simp[putsE] at he
 |p::ps,x::args,[],_,_,_,_,hv,_,_=>hv.elim
 |p::ps,x::args,v::vs,tm,tm',tmps,he,hv,hs,hn=>by
  unfold putsE at he
  cases hb:Nat.blt p nt with
  |false=>rw[hb] at he;cases he
  |true =>
   rw[hb] at he
   simp only[cond_true] at he
   have hlt:p<nt:=by simpa[Nat.blt_eq] using hb
   obtain⟨h1,h2,h3⟩:=putsE_ok (tmps:=tmps.setIfInBounds p v) he hv.2 (fun t=>by
    have e:(tm.set p x).sl t=if t=p then x else tm.sl t:=by
     unfold PT.sl;rw[PT.get_set];split<;>rfl
    rw[e]
    by_cases ht:t=p
    · subst ht
      rw[if_pos rfl]
      have:(tmps.setIfInBounds t v).getD t undef=v:=by simp[Array.getD,hn,hlt]
      rw[this];exact hv.1
    · rw[if_neg ht]
      have:(tmps.setIfInBounds p v).getD t undef=tmps.getD t undef:=by
       simp only[Array.getD_eq_getD_getElem?,Array.getElem?_setIfInBounds]
       rw[if_neg (by omega)]
      rw[this];exact hs t) (by rw[Array.size_setIfInBounds];exact hn)
   exact⟨by simp[h1],by simpa using h2,by simpa using h3⟩
theorem yieldE_ok{ev:Bool→Nat→Code→Sg→Option (Exit×Sg)}(hev:EvOk X ev):YldsOk X (yieldE ev):=by
 intro g args s s' he
 unfold yieldE at he
 split at he
 · rename_i nt tm ps assign body hg
   split at he
   · rename_i tm' hp
     split at he
     · rename_i s1 he1
       split at he
       · rename_i nt1 tm1 ps1 as1 bo1 hg1
         split at he
         · rename_i s2 he2
           split at he
           · rename_i nt2 tm2 ps2 as2 bo2 hg2
             simp only[Option.some.injEq] at he
             subst he
             obtain⟨⟨l1,snd1⟩,_⟩:=hev _ _ _ _ _ _ he1
             obtain⟨⟨l2,snd2⟩,_⟩:=hev _ _ _ _ _ _ he2
             refine⟨((l1.trans (LogOk.put _ _ _)).trans l2).trans (LogOk.put _ _ _),fun ro E hI H β w vs k hS hargs hk=>?_⟩
             obtain⟨k0,L,o1,o2,o3,o4,o5,o6,o8,o9,o10,o11,o12⟩:=hS.obj g _ hg
             rw[hk] at o1;cases o1
             simp only[Bool.false_eq_true,if_false] at o5
             obtain⟨q1,q2,q3⟩:=putsE_ok (X:=X) (H:=H) (β:=β) (vs:=vs) (tmps:=L.tmps) hp hargs o12 o8
             have hlen:=hargs.length
             have hsz:vs.toArray.size=L.params.size:=by
              rw[←o9] at q1
              simp at q1
              simp;omega
             have etm:(L.params.zip vs.toArray).foldl (fun tmps (t,a)=>tmps.setIfInBounds t a) L.tmps=(ps.zip vs).foldl (fun tmps p=>tmps.setIfInBounds p.1 p.2) L.tmps:=by
              rw[←Array.foldl_toList,Array.toList_zip,o9]
             refine⟨L.fn,_,L.assign,L.body,run_yield o4 hsz,roundIn_of_wpIn trivial ?_⟩
             rw[o10,o11,etm]
             refine snd1 (some k.1) (fun e=>by cases e) E hI w H β _ w _ ⟨⟨hS,q2,q3⟩,MarksOk.nil _ _,MarkSame.refl _⟩ fun a1 w1 hp1=>?_
             obtain⟨H1,β1,p1,p2,p3,p4⟩:=hp1
             have hk1:β1 g 0=some k:=p2 _ _ _ hk
             obtain⟨k0,L1,u1,u2,u3,u4,u5,u6,u8,u9,u10,u11,u12⟩:=p3.1.sim.obj g _ hg1
             rw[hk1] at u1;cases u1
             simp only[Bool.false_eq_true,if_false] at u5
             refine⟨_,run_beginRound u4 u5,?_⟩
             have hlt1:=(Array.getElem?_eq_some_iff.1 u4).1
             obtain⟨t1,t2⟩:=p3.1.sim.loopPut hg1 hk1 u4 (L':={ L1 with state:=.busy }) (o':=.loop true nt1 tm1 ps1 as1 bo1) rfl
              ⟨k,{ L1 with state:=.busy },hk1,u2,u3,World.putObj_heap_same hlt1,by simp,u6,u8,u9,u10,u11,u12⟩
             have hm2:MarkSame w (w1.putObj k.1 (.loop { L1 with state:=.busy })):=p4.trans t2
             refine snd2 (some k.1) (fun e=>by cases e) E hI w H1 β1 a1 _ _ ⟨⟨by rw[Hs.put_get];exact t1,p3.1.slot,p3.1.size⟩,p3.2.1.keep t2,hm2⟩ fun a2 w3 hp2=>?_
             obtain⟨H3,β3,r1,r2,r3,r4⟩:=hp2
             have hk3:β3 g 0=some k:=r2 _ _ _ hk1
             obtain⟨k0,L3,v1,v2,v3,v4,v5,v6,v8,v9,v10,v11,v12⟩:=r3.1.sim.obj g _ hg2
             rw[hk3] at v1;cases v1
             refine⟨_,_,run_endRound none v4,?_⟩
             have hlt3:=(Array.getElem?_eq_some_iff.1 v4).1
             obtain⟨t3,t4⟩:=r3.1.sim.loopPut hg2 hk3 v4 (L':={ L3 with state:=if(none:Option Code).isNone then .ready else .done,pending:=none }) (o':=.loop false nt2 tm2 ps2 as2 bo2) rfl
              ⟨k,{ L3 with state:=if(none:Option Code).isNone then .ready else .done,pending:=none },hk3,v2,v3,World.putObj_heap_same hlt3,by simp,rfl,v8,v9,v10,v11,v12⟩
             refine⟨.bool true,H3,β3,rfl,p1.trans r1,p2.trans r2,by rw[Hs.put_get];exact t3,(hm2.trans r4).trans t4,⟨rfl,VR.bool _⟩⟩
           · cases he
         · cases he
       · cases he
     · cases he
   · cases he
 · cases he
theorem capE_ok{H:Heap}{β:Bm}{v:Value}{f:FuncId}{gs:List Nat}{fo:ES}(hf:(fo=.w (.one (.iv (.fn f)))∧gs=[])∨fo=.w (.one (.clo f gs)))(hv:SRe X.Z H β v fo):∃cs:List Value,v=.func (.func f) #[] cs.toArray∧SREL X.Z H β cs (capE gs):=by
 rcases hf with⟨rfl,rfl⟩|rfl
 · exact⟨[],VR.asFn hv.2,trivial⟩
 · obtain⟨h1,h2⟩:=hv
   refine⟨_,h2,?_⟩
   clear h2
   induction gs with
   |nil=>trivial
   |cons g gs ih =>
    obtain⟨k,hk⟩:=h1 g (by simp)
    refine⟨⟨k,hk,?_⟩,ih fun g hg=>h1 g (by simp[hg])⟩
    unfold cptr;rw[hk]
theorem rangeE_ok{F:FuncId→Option FnE}{orc:FuncId→List ES→Hs→Option (ES×Hs)}{ev:Bool→Nat→Code→Sg→Option (Exit×Sg)}(hF:∀f q,F f=some q→∃fn,FnOk X f q fn)(hev:EvOk X ev){nt:Nat}{g:Operand}{ps:Array Tmp}{assign body:Code}{s s':Sg}
 (he:rangeE (X.ee F orc) ev nt (evE s.tm.sl g) ps.toList assign body s=some s'):Sound X false nt (.rangeFunc g ps assign body) s .normal s':=by
 unfold rangeE at he
 split at he
 · rename_i hgl
   rw[forceN_eq,forceN_eq] at he
   simp only at he
   have key:∃f gs r hs' b' nt' tm' ps' as' bo',((evE s.tm.sl g=.w (.one (.iv (.fn f)))∧gs=[])∨evE s.tm.sl g=.w (.one (.clo f gs)))∧callF (X.ee F orc) ev f (.w (.one (.yld s.s.nx))::capE gs) ⟨s.s.h.set s.s.nx (.loop false nt s.tm ps.toList assign body),s.s.nx+1,s.s.nx::s.s.wl⟩=some (r,hs')∧
    hs'.h.get s.s.nx=some (.loop b' nt' tm' ps' as' bo')∧b'=false∧s'=⟨s.tm,hs'.put s.s.nx .hid⟩:=by
    split at he
    · rename_i r hs' hcall
      split at he
      · rename_i nt' tm' ps' as' bo' hl
        simp only[Option.some.injEq] at he
        split at hcall
        · rename_i f gs hf
          exact⟨f,gs,r,hs',_,nt',tm',ps',as',bo',.inr hf,hcall,hl,rfl,he.symm⟩
        · rename_i f hf
          exact⟨f,[],r,hs',_,nt',tm',ps',as',bo',.inl ⟨hf,rfl⟩,hcall,hl,rfl,he.symm⟩
        · cases hcall
      · cases he
    · cases he
   obtain⟨f,gs,r,hs',b',nt',tm',ps',as',bo',hf,hcall,hl,rfl,rfl⟩:=key
   obtain⟨l1,⟨⟨fn',hf1,hf2,hf3⟩,hcl⟩⟩:=callF_ok hF hev _ _ _ _ _ hcall
   have l0:LogOk s.s ⟨s.s.h.set s.s.nx (.loop false nt s.tm ps.toList assign body),s.s.nx+1,s.s.nx::s.s.wl⟩:=LogOk.wr s.s [(s.s.nx,.loop false nt s.tm ps.toList assign body)] _
   refine⟨(l0.trans l1).trans (LogOk.put _ _ _),fun ro hro E hI w0 H β a w Q hS hQ=>?_⟩
   rw[hro rfl]
   refine wpIn_rangeFunc fun fn _=>?_
   let L:Loop:={ state:=.ready,pending:=none,fn,tmps:=a.tmps,params:=ps,assign,body,defers:=w.heap.size }
   let wd:World:=w.alloc (.deferred (some []))
   let w1:World:=wd.alloc (.loop L)
   have hbd:Below w.heap.size w wd:=(Below.refl _ _).alloc (Nat.le_refl _) _
   have hszd:wd.heap.size=w.heap.size+1:=by simp[wd]
   have S1:ESim X.Z E H β s.s.h.get wd:=hS.1.sim.grow hbd (fun b arr hb=>by
    obtain⟨t,fr,ht⟩:=hS.1.sim.has b arr hb
    exact⟨t,fr,(hbd.block b (hS.1.sim.has.lt hb)).trans ht⟩) (HExt.refl _ _)
   have hnew:H wd.heap.size=none:=by
    cases hx:H wd.heap.size with
    |none=>rfl
    |some arr'=>have:=S1.has.lt hx;omega
   obtain⟨hb1,S2⟩:=S1.alloc hgl (b:=.loop L) (s:=0) (o:=.loop false nt s.tm ps.toList assign body) Nat.one_pos
    ⟨_,L,updB_same _ _ _ _,S1.lo _ (Nat.le_refl _),hnew,heap_alloc_new _ _,by simp[L],rfl,hS.1.size,rfl,rfl,rfl,fun t=>(hS.1.slot t).mono (HLe.refl _) (updB_le (S1.noB hgl 0))⟩
   have hbe:Below wd.heap.size wd w1:=(Below.refl _ _).alloc (Nat.le_refl _) _
   have hm1:MarkSame w w1:=(MarkSame.below hbd).trans (MarkSame.below hbe)
   have hD1:w1.heap[w.heap.size]?=some (.deferred (some [])) :=
    (Below.heap_alloc wd _ w.heap.size (by omega)).trans (World.alloc_heap_new w _)
   obtain⟨cs,e1,hcs⟩:=capE_ok hf (ev_okE hS.1 g)
   have hyv:SRe X.Z H (updB β s.s.nx 0 (wd.heap.size,0)) (yieldV (w.heap.size+1)) (.w (.one (.yld s.s.nx))):=⟨_,updB_same _ _ _ _,by rw[hszd];rfl⟩
   have eh:(⟨s.s.h.set s.s.nx (.loop false nt s.tm ps.toList assign body),s.s.nx+1,s.s.nx::s.s.wl⟩:Hs).h.get=upd s.s.h.get s.s.nx (some (.loop false nt s.tm ps.toList assign body)):=Hs.put_get s.s s.s.nx _
   have hc:=hcl E hI H _ w1 (yieldV (w.heap.size+1)::cs) (by rw[eh];exact S2) ⟨hyv,hcs.mono (HLe.refl _) hb1⟩
   refine⟨w.heap.size+1,[{ target:=.collected w.heap.size,args := #[] }],w1,{ target:=.fn (.func f) cs.toArray,args := #[yieldV (w.heap.size+1)] },w1,f,(yieldV (w.heap.size+1)::cs).toArray,w1,?_,?_,fun _ _=>trivial,?_,fun e=>(by cases e),?_⟩
   · exact run_enterLoop_outer fn a.tmps ps assign body
   · simp only[resolve,rangeCall,e1,Deferred.ofValue,Sem.run_pure]
     simp[Act.eval,yieldV]
   · simp only[invoke,callFunc,Sem.run_bind,run_program,Result.andThen_ok,hf1,hf2,hf3,Bool.false_eq_true,if_false,Sem.run_pure]
     congr 2
     apply Array.ext'
     simp
   · refine callsW (hc.mono ?_)
     rintro e w3 ⟨v,H3,β3,rfl,c1,c2,c3,c4,c5⟩
     have hk3:β3 s.s.nx 0=some (wd.heap.size,0):=c2 _ _ _ (updB_same _ _ _ _)
     obtain⟨k0,L3,v1,v2,v3,v4,v5,v6,v8,v9,v10,v11,v12⟩:=c3.obj _ _ hl
     rw[hk3] at v1;cases v1
     simp only[Bool.false_eq_true,if_false] at v5
     have v4':w3.heap[w.heap.size+1]?=some (.loop L3):=by rw[←hszd];exact v4
     refine⟨L3.pending,_,run_endLoop v4' (by rw[v5];simp),?_⟩
     have hpn:L3.pending=none:=by
      cases hx:L3.pending with
      |none=>rfl
      |some c=>rw[hx] at v6;cases v6
     rw[hpn]
     obtain⟨t1,t2⟩:=c3.loopPut hl hk3 v4 (L':={ L3 with state:=.exhausted }) (o':=.hid) rfl trivial
     rw[hszd] at t1 t2
     have hm4:MarkSame w (w3.putObj (w.heap.size+1) (.loop { L3 with state:=.exhausted })):=(hm1.trans c4).trans t2
     have hb3:BLe β β3:=hb1.trans c2
     refine hQ _ _ ⟨H3,β3,c1,hb3,⟨⟨by rw[Hs.put_get];rw[hpn] at t1;exact t1,fun t=>(hS.1.slot t).mono c1 hb3,hS.1.size⟩,⟨?_,?_⟩,by rw[hpn] at hm4;exact hS.2.2.trans hm4⟩,by rw[hpn] at hm4;exact hm4⟩
     · refine List.pairwise_cons.2 ⟨fun d hd e=>?_,hS.2.1.1⟩
       obtain⟨D,e',_,hb⟩:=hS.2.1.2 d hd
       rw[←e] at e';cases e'
       have:=(Array.getElem?_eq_some_iff.1 hb).1
       omega
     · intro d hd
       rcases List.mem_cons.1 hd with rfl|hd
       · refine⟨_,rfl,⟨hS.1.sim.lo _ (Nat.le_refl _),fun e=>?_⟩,?_⟩
         · have:=hS.2.2 _ e
           rw[e] at this
           have:=(Array.getElem?_eq_some_iff.1 this).1
           omega
         · refine(World.putObj_heap_other (by omega)).trans ?_
           rw[c4 _ hD1];exact hD1
       · rw[hpn] at hm4
         exact(hS.2.1.keep hm4).2 d hd
 · cases he
theorem stepC_ok{F:FuncId→Option FnE}{orc:FuncId→List ES→Hs→Option (ES×Hs)}{ev:Bool→Nat→Code→Sg→Option (Exit×Sg)}(hF:∀f q,F f=some q→∃fn,FnOk X f q fn)(horc:OrcOk X orc)(hev:EvOk X ev):EvOk X (stepC (X.ee F orc) ev):=by
 intro rd nt c s e s' he
 unfold stepC at he
 split at he
 · simp only[Option.some.injEq,Prod.mk.injEq] at he
   obtain⟨rfl,rfl⟩:=he
   exact⟨⟨LogOk.refl _,fun ro hro E hI w0 H β a w Q hS hQ=>wpIn_skip (hQ a w (EPost.refl hS))⟩,fun b hb=>by cases hb⟩
 · simp only[Option.some.injEq,Prod.mk.injEq] at he
   obtain⟨rfl,rfl⟩:=he
   exact⟨⟨LogOk.refl _,fun ro hro E hI w0 H β a w Q hS hQ=>wpIn_label (hQ a w (EPost.refl hS))⟩,fun b hb=>by cases hb⟩
 · simp only[Option.some.injEq,Prod.mk.injEq] at he
   obtain⟨rfl,rfl⟩:=he
   exact⟨⟨LogOk.refl _,fun ro hro E hI w0 H β a w Q hS hQ=>wpIn_ret (hQ a w (EPost.refl hS))⟩,fun b hb=>by cases hb⟩
 · simp only[Option.some.injEq,Prod.mk.injEq] at he
   obtain⟨rfl,rfl⟩:=he
   exact⟨⟨LogOk.refl _,fun ro hro E hI w0 H β a w Q hS hQ=>wpIn_exit (hQ a w (EPost.refl hS))⟩,fun b hb=>by cases hb⟩
 · refine⟨?_,fun b hb=>by cases hb⟩
   split at he
   · rename_i s1 h1
     exact(hev _ _ _ _ _ _ h1).1.seq (hev _ _ _ _ _ _ he).1
   · rename_i hn
     refine(hev _ _ _ _ _ _ he).1.seqX fun e'=>?_
     subst e';exact hn _ he
 · refine⟨?_,fun b hb=>by cases hb⟩
   split at he
   · rename_i hc;exact Sound.cond hc (hev _ _ _ _ _ _ he).1
   · rename_i hc;exact Sound.cond hc (hev _ _ _ _ _ _ he).1
   · cases he
 · refine⟨?_,fun b hb=>by cases hb⟩
   rename_i id b
   split at he
   · rename_i i s1 h1
     have hs:=(hev _ _ _ _ _ _ h1).1.block (id:=id)
     simp only at hs
     cases hb:Nat.beq i id with
     |true =>
      rw[hb] at he hs
      simp only[cond_true,Option.some.injEq,Prod.mk.injEq] at he hs
      obtain⟨rfl,rfl⟩:=he
      exact hs
     |false =>
      rw[hb] at he hs
      simp only[cond_false,Option.some.injEq,Prod.mk.injEq] at he hs
      obtain⟨rfl,rfl⟩:=he
      exact hs
   · rename_i hn
     have hs:=(hev _ _ _ _ _ _ he).1.block (id:=id)
     cases e with
     |exit i=>exact absurd he (hn i s')
     |_=>exact hs
 · rename_i b
   have key:LogOk s.s s'.s∧LoopS X rd nt b s e s':=by
    split at he
    · rename_i s1 h1
      have a1:=(hev _ _ _ _ _ _ h1).1
      have a2:=hev _ _ _ _ _ _ he
      exact⟨a1.1.trans a2.1.1,LoopS.more a1 (a2.2 b rfl)⟩
    · rename_i hn
      have a1:=(hev _ _ _ _ _ _ he).1
      exact⟨a1.1,LoopS.out a1 fun e'=>by subst e';exact hn _ he⟩
   exact⟨Sound.of_loop key.1 key.2,fun b' hb=>by cases hb;exact key.2⟩
 · refine⟨?_,fun b hb=>by cases hb⟩
   split at he
   · rename_i s1 h1
     simp only[Option.some.injEq,Prod.mk.injEq] at he
     obtain⟨rfl,rfl⟩:=he
     exact evReg_ok horc (callF_ok hF hev) (yieldE_ok hev) h1
   · cases he
 · refine⟨?_,fun b hb=>by cases hb⟩
   split at he
   · split at he
     · rename_i s1 h1
       simp only[Option.some.injEq,Prod.mk.injEq] at he
       obtain⟨rfl,rfl⟩:=he
       exact rangeE_ok hF hev h1
     · cases he
   · cases he
 · cases he
theorem evC_ok{F:FuncId→Option FnE}{orc:FuncId→List ES→Hs→Option (ES×Hs)}(hF:∀f q,F f=some q→∃fn,FnOk X f q fn)(horc:OrcOk X orc):∀n,EvOk X (evC (X.ee F orc) n):=by
 intro n
 induction n with
 |zero=>intro rd nt c s e s' he;cases he
 |succ n ih=>exact stepC_ok hF horc ih
end
end Go.Proofs.En
namespace Go.Proofs.Fl
open Go.RowKit
inductive Tr where
 |leaf (o:Option TY)
 |node (k:Nat) (l r:Tr)
noncomputable def Tr.get:Tr→Nat→Option TY
 | .leaf o,_=>o
 | .node k l r,t=>bif Nat.blt t k then l.get t else r.get t
def Tr.small(n:Nat):Tr→Bool
 | .leaf none=>true
 | .leaf _=>false
 | .node k _ r=>Nat.ble k n&&r.small n
theorem Tr.get_big{n t:Nat}(hn:n≤t):∀{s:Tr},s.small n=true→s.get t=none
 | .leaf none,_=>rfl
 | .node k l r,h=>by
  simp only[Tr.small,Bool.and_eq_true,Nat.ble_eq] at h
  have:Nat.blt t k=false:=by
   cases hb:Nat.blt t k
   · rfl
   · rw[Nat.blt_eq] at hb;omega
  rw[Tr.get,this]
  exact Tr.get_big hn h.2
def ty1:TY:=⟨.other,1,8,.nil 1,[]⟩
def ty2:TY:=⟨.int .i64,1,8,.int .i64 0,[]⟩
def ty3:TY:=⟨.int .i64,1,8,.int .i64 0,[]⟩
def ty4:TY:=⟨.bool,1,1,.bool false,[]⟩
def ty5:TY:=⟨.int .u8,1,1,.int .u8 0,[]⟩
def ty6:TY:=⟨.int .u8,1,1,.int .u8 0,[]⟩
def ty7:TY:=⟨.struct,4,24,.agg [.int .i64 0,.int .i64 0,.bool false,.int .u8 0],[(0,false,1),(1,false,1),(2,false,1),(3,false,1)]⟩
def ty8:TY:=⟨.struct,4,24,.agg [.int .i64 0,.int .i64 0,.bool false,.int .u8 0],[(0,false,1),(1,false,1),(2,false,1),(3,false,1)]⟩
def ty9:TY:=⟨.string,1,16,.str [],[]⟩
def ty10:TY:=⟨.string,1,16,.str [],[]⟩
def ty11:TY:=⟨.string,1,16,.str [],[]⟩
def ty12:TY:=⟨.int .u64,1,8,.int .u64 0,[]⟩
def ty13:TY:=⟨.struct,2,24,.agg [.str [],.int .u64 0],[(0,false,1),(1,false,1)]⟩
def ty14:TY:=⟨.struct,2,24,.agg [.str [],.int .u64 0],[(0,false,1),(1,false,1)]⟩
def ty15:TY:=⟨.other,1,8,.nil 2,[]⟩
def ty16:TY:=⟨.other,1,8,.nil 2,[]⟩
def ty17:TY:=⟨.other,1,8,.nil 2,[]⟩
def ty18:TY:=⟨.struct,1,8,.agg [.nil 2],[(0,false,1)]⟩
def ty19:TY:=⟨.struct,1,8,.agg [.nil 2],[(0,false,1)]⟩
def ty20:TY:=⟨.other,1,16,.nil 0,[]⟩
def ty21:TY:=⟨.int .i32,1,4,.int .i32 0,[]⟩
def ty22:TY:=⟨.slice 99,1,24,.sl [],[]⟩
def ty23:TY:=⟨.slice 42,1,24,.sl [],[]⟩
def ty24:TY:=⟨.slice 43,1,24,.sl [],[]⟩
def ty26:TY:=⟨.other,1,8,.nil 1,[]⟩
def ty27:TY:=⟨.other,1,8,.nil 1,[]⟩
def ty28:TY:=⟨.slice 87,1,24,.sl [],[]⟩
def ty29:TY:=⟨.slice 23,1,24,.sl [],[]⟩
def ty30:TY:=⟨.struct,3,56,.agg [.int .i64 0,.sl [],.sl []],[(0,false,1),(1,false,1),(2,false,1)]⟩
def ty31:TY:=⟨.struct,3,56,.agg [.int .i64 0,.sl [],.sl []],[(0,false,1),(1,false,1),(2,false,1)]⟩
def ty32:TY:=⟨.int .i64,1,8,.int .i64 0,[]⟩
def ty34:TY:=⟨.other,1,8,.nil 1,[]⟩
def ty35:TY:=⟨.other,1,8,.nil 1,[]⟩
def ty36:TY:=⟨.slice 200,1,24,.sl [],[]⟩
def ty37:TY:=⟨.slice 24,1,24,.sl [],[]⟩
def ty38:TY:=⟨.struct,3,56,.agg [.int .i64 0,.sl [],.sl []],[(0,false,1),(1,false,1),(2,false,1)]⟩
def ty39:TY:=⟨.struct,3,56,.agg [.int .i64 0,.sl [],.sl []],[(0,false,1),(1,false,1),(2,false,1)]⟩
def ty40:TY:=⟨.other,1,8,.nil 1,[]⟩
def ty41:TY:=⟨.other,1,8,.nil 1,[]⟩
def ty42:TY:=⟨.slice 60,1,24,.sl [],[]⟩
def ty43:TY:=⟨.slice 84,1,24,.sl [],[]⟩
def ty44:TY:=⟨.other,1,8,.nil 1,[]⟩
def ty45:TY:=⟨.slice 189,1,24,.sl [],[]⟩
def ty46:TY:=⟨.other,1,8,.nil 1,[]⟩
def ty47:TY:=⟨.slice 66,1,24,.sl [],[]⟩
def ty48:TY:=⟨.slice 66,1,24,.sl [],[]⟩
def ty49:TY:=⟨.slice 191,1,24,.sl [],[]⟩
def ty50:TY:=⟨.slice 191,1,24,.sl [],[]⟩
def ty52:TY:=⟨.other,1,8,.nil 1,[]⟩
def ty53:TY:=⟨.other,1,8,.nil 1,[]⟩
def ty54:TY:=⟨.slice 269,1,24,.sl [],[]⟩
def ty55:TY:=⟨.struct,1,24,.agg [.sl []],[(0,false,1)]⟩
def ty56:TY:=⟨.struct,1,24,.agg [.sl []],[(0,false,1)]⟩
def ty57:TY:=⟨.struct,2,32,.agg [.sl [],.bool false],[(0,true,1),(1,false,1)]⟩
def ty58:TY:=⟨.struct,2,32,.agg [.sl [],.bool false],[(0,true,1),(1,false,1)]⟩
def ty59:TY:=⟨.struct,3,56,.agg [.sl [],.bool false,.sl []],[(0,true,2),(2,true,1)]⟩
def ty60:TY:=⟨.struct,3,56,.agg [.sl [],.bool false,.sl []],[(0,true,2),(2,true,1)]⟩
def ty62:TY:=⟨.other,1,8,.nil 1,[]⟩
def ty63:TY:=⟨.slice 3,1,24,.sl [],[]⟩
def ty64:TY:=⟨.other,1,8,.nil 1,[]⟩
def ty65:TY:=⟨.struct,4,80,.agg [.sl [],.sl [],.bool false,.sl []],[(0,false,1),(1,true,3)]⟩
def ty66:TY:=⟨.struct,4,80,.agg [.sl [],.sl [],.bool false,.sl []],[(0,false,1),(1,true,3)]⟩
def ty67:TY:=⟨.other,1,8,.nil 1,[]⟩
def ty68:TY:=⟨.other,1,8,.nil 1,[]⟩
def ty69:TY:=⟨.other,1,8,.nil 1,[]⟩
def ty70:TY:=⟨.other,1,8,.nil 1,[]⟩
def ty71:TY:=⟨.slice 150,1,24,.sl [],[]⟩
def ty72:TY:=⟨.slice 22,1,24,.sl [],[]⟩
def ty73:TY:=⟨.struct,3,56,.agg [.int .i64 0,.sl [],.sl []],[(0,false,1),(1,false,1),(2,false,1)]⟩
def ty74:TY:=⟨.struct,3,56,.agg [.int .i64 0,.sl [],.sl []],[(0,false,1),(1,false,1),(2,false,1)]⟩
def ty75:TY:=⟨.struct,3,24,.agg [.int .i64 0,.int .i64 0,.int .u8 0],[(0,false,1),(1,false,1),(2,false,1)]⟩
def ty76:TY:=⟨.struct,3,24,.agg [.int .i64 0,.int .i64 0,.int .u8 0],[(0,false,1),(1,false,1),(2,false,1)]⟩
def ty78:TY:=⟨.other,1,8,.nil 1,[]⟩
def ty79:TY:=⟨.other,1,8,.nil 1,[]⟩
def ty80:TY:=⟨.other,1,8,.nil 1,[]⟩
def ty81:TY:=⟨.struct,2,32,.agg [.int .i64 0,.sl []],[(0,false,1),(1,false,1)]⟩
def ty82:TY:=⟨.struct,2,32,.agg [.int .i64 0,.sl []],[(0,false,1),(1,false,1)]⟩
def ty83:TY:=⟨.struct,4,64,.agg [.int .i64 0,.sl [],.int .i64 0,.sl []],[(0,true,2),(2,true,2)]⟩
def ty84:TY:=⟨.struct,4,64,.agg [.int .i64 0,.sl [],.int .i64 0,.sl []],[(0,true,2),(2,true,2)]⟩
def ty86:TY:=⟨.other,1,8,.nil 1,[]⟩
def ty87:TY:=⟨.slice 90,1,24,.sl [],[]⟩
def ty88:TY:=⟨.other,1,8,.nil 1,[]⟩
def ty89:TY:=⟨.struct,6,112,.agg [.sl [],.bool false,.sl [],.sl [],.bool false,.sl []],[(0,true,3),(3,true,3)]⟩
def ty90:TY:=⟨.struct,6,112,.agg [.sl [],.bool false,.sl [],.sl [],.bool false,.sl []],[(0,true,3),(3,true,3)]⟩
def ty91:TY:=⟨.other,1,8,.nil 1,[]⟩
def ty92:TY:=⟨.slice 48,1,24,.sl [],[]⟩
def ty94:TY:=⟨.other,1,8,.nil 1,[]⟩
def ty95:TY:=⟨.slice 50,1,24,.sl [],[]⟩
def ty96:TY:=⟨.other,1,8,.nil 1,[]⟩
def ty97:TY:=⟨.other,1,8,.nil 1,[]⟩
def ty98:TY:=⟨.other,1,8,.nil 1,[]⟩
def ty99:TY:=⟨.slice 76,1,24,.sl [],[]⟩
def ty100:TY:=⟨.struct,3,56,.agg [.int .i64 0,.sl [],.sl []],[(0,false,1),(1,false,1),(2,false,1)]⟩
def ty101:TY:=⟨.struct,3,56,.agg [.int .i64 0,.sl [],.sl []],[(0,false,1),(1,false,1),(2,false,1)]⟩
def ty102:TY:=⟨.struct,3,56,.agg [.int .i64 0,.sl [],.sl []],[(0,false,1),(1,false,1),(2,false,1)]⟩
def ty103:TY:=⟨.struct,3,56,.agg [.int .i64 0,.sl [],.sl []],[(0,false,1),(1,false,1),(2,false,1)]⟩
def ty104:TY:=⟨.struct,3,56,.agg [.int .i64 0,.sl [],.sl []],[(0,false,1),(1,false,1),(2,false,1)]⟩
def ty105:TY:=⟨.struct,3,56,.agg [.int .i64 0,.sl [],.sl []],[(0,false,1),(1,false,1),(2,false,1)]⟩
def ty107:TY:=⟨.other,1,8,.nil 1,[]⟩
def ty108:TY:=⟨.other,1,8,.nil 1,[]⟩
def ty109:TY:=⟨.other,1,8,.nil 1,[]⟩
def ty110:TY:=⟨.other,1,8,.nil 1,[]⟩
def ty111:TY:=⟨.other,1,8,.nil 1,[]⟩
def ty112:TY:=⟨.other,1,8,.nil 1,[]⟩
def ty113:TY:=⟨.other,1,8,.nil 1,[]⟩
def ty114:TY:=⟨.other,1,8,.nil 1,[]⟩
def ty116:TY:=⟨.other,1,8,.nil 1,[]⟩
def ty117:TY:=⟨.other,1,8,.nil 1,[]⟩
def ty119:TY:=⟨.other,1,8,.nil 1,[]⟩
def ty120:TY:=⟨.other,1,8,.nil 1,[]⟩
def ty122:TY:=⟨.other,1,8,.nil 1,[]⟩
def ty123:TY:=⟨.other,1,8,.nil 1,[]⟩
def ty124:TY:=⟨.other,1,8,.nil 1,[]⟩
def ty125:TY:=⟨.other,1,8,.nil 1,[]⟩
def ty126:TY:=⟨.other,1,8,.nil 1,[]⟩
def ty127:TY:=⟨.other,1,8,.nil 1,[]⟩
def ty128:TY:=⟨.other,1,8,.nil 1,[]⟩
def ty130:TY:=⟨.other,1,8,.nil 1,[]⟩
def ty132:TY:=⟨.other,1,8,.nil 1,[]⟩
def ty133:TY:=⟨.other,1,8,.nil 1,[]⟩
def ty134:TY:=⟨.other,1,8,.nil 1,[]⟩
def ty135:TY:=⟨.other,1,8,.nil 1,[]⟩
def ty136:TY:=⟨.other,1,8,.nil 1,[]⟩
def ty137:TY:=⟨.other,1,8,.nil 1,[]⟩
def ty139:TY:=⟨.other,1,8,.nil 1,[]⟩
def ty141:TY:=⟨.other,1,8,.nil 1,[]⟩
def ty142:TY:=⟨.other,1,8,.nil 1,[]⟩
def ty143:TY:=⟨.other,1,8,.nil 1,[]⟩
def ty144:TY:=⟨.other,1,8,.nil 1,[]⟩
def ty145:TY:=⟨.other,1,8,.nil 1,[]⟩
def ty146:TY:=⟨.other,1,8,.nil 1,[]⟩
def ty147:TY:=⟨.other,1,8,.nil 1,[]⟩
def ty148:TY:=⟨.other,1,8,.nil 1,[]⟩
def ty149:TY:=⟨.other,1,8,.nil 1,[]⟩
def ty150:TY:=⟨.slice 152,1,24,.sl [],[]⟩
def ty151:TY:=⟨.struct,6,48,.agg [.int .i64 0,.int .i64 0,.int .u8 0,.int .i64 0,.int .i64 0,.int .u8 0],[(0,true,3),(3,true,3)]⟩
def ty152:TY:=⟨.struct,6,48,.agg [.int .i64 0,.int .i64 0,.int .u8 0,.int .i64 0,.int .i64 0,.int .u8 0],[(0,true,3),(3,true,3)]⟩
def ty153:TY:=⟨.struct,8,128,.agg [.int .i64 0,.sl [],.int .i64 0,.sl [],.int .i64 0,.sl [],.int .i64 0,.sl []],[(0,true,4),(4,true,4)]⟩
def ty154:TY:=⟨.struct,8,128,.agg [.int .i64 0,.sl [],.int .i64 0,.sl [],.int .i64 0,.sl [],.int .i64 0,.sl []],[(0,true,4),(4,true,4)]⟩
def ty156:TY:=⟨.other,1,8,.nil 1,[]⟩
def ty157:TY:=⟨.other,1,8,.nil 1,[]⟩
def ty158:TY:=⟨.other,1,8,.nil 1,[]⟩
def ty159:TY:=⟨.other,1,8,.nil 1,[]⟩
def ty160:TY:=⟨.other,1,8,.nil 1,[]⟩
def ty161:TY:=⟨.other,1,8,.nil 1,[]⟩
def ty162:TY:=⟨.other,1,8,.nil 1,[]⟩
def ty163:TY:=⟨.other,1,8,.nil 1,[]⟩
def ty164:TY:=⟨.other,1,8,.nil 1,[]⟩
def ty165:TY:=⟨.other,1,8,.nil 1,[]⟩
def ty166:TY:=⟨.other,1,8,.nil 1,[]⟩
def ty167:TY:=⟨.slice 101,1,24,.sl [],[]⟩
def ty168:TY:=⟨.slice 103,1,24,.sl [],[]⟩
def ty169:TY:=⟨.slice 105,1,24,.sl [],[]⟩
def ty170:TY:=⟨.other,1,8,.nil 1,[]⟩
def ty172:TY:=⟨.other,1,8,.nil 1,[]⟩
def ty173:TY:=⟨.other,1,8,.nil 1,[]⟩
def ty174:TY:=⟨.other,1,8,.nil 1,[]⟩
def ty175:TY:=⟨.other,1,8,.nil 1,[]⟩
def ty176:TY:=⟨.other,1,8,.nil 1,[]⟩
def ty177:TY:=⟨.other,1,8,.nil 1,[]⟩
def ty178:TY:=⟨.other,1,8,.nil 1,[]⟩
def ty179:TY:=⟨.other,1,8,.nil 1,[]⟩
def ty180:TY:=⟨.other,1,8,.nil 1,[]⟩
def ty181:TY:=⟨.other,1,8,.nil 1,[]⟩
def ty182:TY:=⟨.other,1,8,.nil 1,[]⟩
def ty183:TY:=⟨.other,1,8,.nil 1,[]⟩
def ty184:TY:=⟨.other,1,8,.nil 1,[]⟩
def ty185:TY:=⟨.other,1,8,.nil 1,[]⟩
def ty186:TY:=⟨.other,1,8,.nil 1,[]⟩
def ty187:TY:=⟨.other,1,8,.nil 1,[]⟩
def ty188:TY:=⟨.struct,4,48,.agg [.sl [],.int .i64 0,.int .i64 0,.int .u8 0],[(0,false,1),(1,true,3)]⟩
def ty189:TY:=⟨.struct,4,48,.agg [.sl [],.int .i64 0,.int .i64 0,.int .u8 0],[(0,false,1),(1,true,3)]⟩
def ty190:TY:=⟨.struct,5,88,.agg [.sl [],.int .i64 0,.sl [],.int .i64 0,.sl []],[(0,false,1),(1,true,4)]⟩
def ty191:TY:=⟨.struct,5,88,.agg [.sl [],.int .i64 0,.sl [],.int .i64 0,.sl []],[(0,false,1),(1,true,4)]⟩
def ty192:TY:=⟨.other,1,8,.nil 1,[]⟩
def ty193:TY:=⟨.other,1,8,.nil 1,[]⟩
def ty194:TY:=⟨.other,1,8,.nil 1,[]⟩
def ty195:TY:=⟨.other,1,8,.nil 1,[]⟩
def ty196:TY:=⟨.other,1,8,.nil 1,[]⟩
def ty197:TY:=⟨.other,1,8,.nil 1,[]⟩
def ty198:TY:=⟨.other,1,8,.nil 1,[]⟩
def ty199:TY:=⟨.other,1,8,.nil 1,[]⟩
def ty200:TY:=⟨.slice 154,1,24,.sl [],[]⟩
def ty201:TY:=⟨.other,1,8,.nil 1,[]⟩
def ty202:TY:=⟨.other,1,8,.nil 1,[]⟩
def ty203:TY:=⟨.other,1,8,.nil 1,[]⟩
def ty204:TY:=⟨.other,1,8,.nil 1,[]⟩
def ty205:TY:=⟨.slice 63,1,24,.sl [],[]⟩
def ty206:TY:=⟨.other,1,8,.nil 1,[]⟩
def ty207:TY:=⟨.other,1,8,.nil 1,[]⟩
def ty209:TY:=⟨.other,1,8,.nil 1,[]⟩
def ty210:TY:=⟨.other,1,8,.nil 1,[]⟩
def ty211:TY:=⟨.other,1,8,.nil 1,[]⟩
def ty212:TY:=⟨.other,1,8,.nil 1,[]⟩
def ty213:TY:=⟨.other,1,8,.nil 1,[]⟩
def ty214:TY:=⟨.other,1,8,.nil 1,[]⟩
def ty215:TY:=⟨.other,1,8,.nil 1,[]⟩
def ty216:TY:=⟨.other,1,8,.nil 1,[]⟩
def ty217:TY:=⟨.other,1,8,.nil 1,[]⟩
def ty218:TY:=⟨.other,1,8,.nil 1,[]⟩
def ty219:TY:=⟨.other,1,8,.nil 1,[]⟩
def ty220:TY:=⟨.other,1,8,.nil 1,[]⟩
def ty221:TY:=⟨.other,1,8,.nil 1,[]⟩
def ty222:TY:=⟨.other,1,8,.nil 1,[]⟩
def ty223:TY:=⟨.other,1,8,.nil 1,[]⟩
def ty224:TY:=⟨.other,1,8,.nil 1,[]⟩
def ty225:TY:=⟨.other,1,8,.nil 1,[]⟩
def ty226:TY:=⟨.other,1,8,.nil 1,[]⟩
def ty227:TY:=⟨.other,1,8,.nil 1,[]⟩
def ty228:TY:=⟨.other,1,8,.nil 1,[]⟩
def ty230:TY:=⟨.other,1,8,.nil 1,[]⟩
def ty231:TY:=⟨.other,1,8,.nil 1,[]⟩
def ty232:TY:=⟨.other,1,8,.nil 1,[]⟩
def ty233:TY:=⟨.other,1,8,.nil 1,[]⟩
def ty234:TY:=⟨.other,1,8,.nil 1,[]⟩
def ty235:TY:=⟨.other,1,8,.nil 1,[]⟩
def ty236:TY:=⟨.other,1,8,.nil 1,[]⟩
def ty237:TY:=⟨.other,1,8,.nil 1,[]⟩
def ty238:TY:=⟨.other,1,8,.nil 1,[]⟩
def ty239:TY:=⟨.other,1,8,.nil 1,[]⟩
def ty240:TY:=⟨.other,1,8,.nil 1,[]⟩
def ty241:TY:=⟨.other,1,8,.nil 1,[]⟩
def ty242:TY:=⟨.slice 223,1,24,.sl [],[]⟩
def ty243:TY:=⟨.other,1,8,.nil 1,[]⟩
def ty244:TY:=⟨.other,1,8,.nil 1,[]⟩
def ty245:TY:=⟨.other,1,8,.nil 1,[]⟩
def ty246:TY:=⟨.other,1,8,.nil 1,[]⟩
def ty247:TY:=⟨.other,1,8,.nil 1,[]⟩
def ty248:TY:=⟨.other,1,8,.nil 1,[]⟩
def ty249:TY:=⟨.other,1,8,.nil 1,[]⟩
def ty250:TY:=⟨.other,1,8,.nil 1,[]⟩
def ty251:TY:=⟨.other,1,8,.nil 1,[]⟩
def ty252:TY:=⟨.other,1,8,.nil 1,[]⟩
def ty253:TY:=⟨.other,1,8,.nil 1,[]⟩
def ty254:TY:=⟨.other,1,8,.nil 1,[]⟩
def ty255:TY:=⟨.other,1,8,.nil 1,[]⟩
def ty256:TY:=⟨.other,1,8,.nil 1,[]⟩
def ty257:TY:=⟨.other,1,8,.nil 1,[]⟩
def ty258:TY:=⟨.other,1,8,.nil 1,[]⟩
def ty259:TY:=⟨.other,1,8,.nil 1,[]⟩
def ty260:TY:=⟨.other,1,8,.nil 1,[]⟩
def ty261:TY:=⟨.other,1,8,.nil 1,[]⟩
def ty262:TY:=⟨.other,1,8,.nil 1,[]⟩
def ty263:TY:=⟨.other,1,8,.nil 1,[]⟩
def ty264:TY:=⟨.other,1,8,.nil 1,[]⟩
def ty265:TY:=⟨.other,1,8,.nil 1,[]⟩
def ty266:TY:=⟨.int .u64,1,8,.int .u64 0,[]⟩
def ty268:TY:=⟨.other,1,8,.nil 1,[]⟩
def ty269:TY:=⟨.int .u32,1,4,.int .u32 0,[]⟩
def ty270:TY:=⟨.other,1,8,.nil 1,[]⟩
def ty271:TY:=⟨.other,1,8,.nil 1,[]⟩
def ty272:TY:=⟨.other,1,8,.nil 1,[]⟩
def ty273:TY:=⟨.other,1,8,.nil 1,[]⟩
def ty274:TY:=⟨.other,1,8,.nil 1,[]⟩
def ty275:TY:=⟨.other,1,8,.nil 1,[]⟩
def ty276:TY:=⟨.other,1,8,.nil 1,[]⟩
def ty277:TY:=⟨.other,1,8,.nil 1,[]⟩
def ty278:TY:=⟨.other,1,8,.nil 1,[]⟩
def ty279:TY:=⟨.other,1,8,.nil 1,[]⟩
def ty280:TY:=⟨.other,1,8,.nil 1,[]⟩
def ty281:TY:=⟨.other,1,8,.nil 1,[]⟩
def ty282:TY:=⟨.other,1,8,.nil 1,[]⟩
def ty284:TY:=⟨.other,1,8,.nil 1,[]⟩
def ty285:TY:=⟨.other,1,8,.nil 1,[]⟩
def ty286:TY:=⟨.slice 288,1,24,.sl [],[]⟩
def ty287:TY:=⟨.struct,4,80,.agg [.sl [],.sl [],.bool false,.sl []],[(0,false,1),(1,true,3)]⟩
def ty288:TY:=⟨.struct,4,80,.agg [.sl [],.sl [],.bool false,.sl []],[(0,false,1),(1,true,3)]⟩
def ty289:TY:=⟨.other,1,8,.nil 1,[]⟩
def ty290:TY:=⟨.other,1,8,.nil 1,[]⟩
def ty291:TY:=⟨.other,1,8,.nil 1,[]⟩
def ty292:TY:=⟨.other,1,8,.nil 1,[]⟩
def ty293:TY:=⟨.other,1,8,.nil 1,[]⟩
def ty294:TY:=⟨.other,1,8,.nil 1,[]⟩
def ty295:TY:=⟨.other,1,8,.nil 1,[]⟩
def ty296:TY:=⟨.other,1,8,.nil 2,[]⟩
def ty297:TY:=⟨.struct,3,56,.agg [.sl [],.sl [],.int .i64 0],[(0,false,1),(1,false,1),(2,false,1)]⟩
def ty298:TY:=⟨.struct,3,56,.agg [.sl [],.sl [],.int .i64 0],[(0,false,1),(1,false,1),(2,false,1)]⟩
def ty299:TY:=⟨.other,1,8,.nil 1,[]⟩
def ty300:TY:=⟨.other,1,8,.nil 1,[]⟩
def ty301:TY:=⟨.other,1,8,.nil 1,[]⟩
def ty302:TY:=⟨.other,1,8,.nil 1,[]⟩
def ty303:TY:=⟨.other,1,8,.nil 1,[]⟩
def ty305:TY:=⟨.other,1,8,.nil 1,[]⟩
def ty306:TY:=⟨.array 4 3,4,32,.agg [.int .i64 0,.int .i64 0,.int .i64 0,.int .i64 0],[]⟩
def ty307:TY:=⟨.array 4 3,4,32,.agg [.int .i64 0,.int .i64 0,.int .i64 0,.int .i64 0],[]⟩
def ty308:TY:=⟨.other,1,8,.nil 1,[]⟩
def ty309:TY:=⟨.other,1,8,.nil 1,[]⟩
def ty310:TY:=⟨.other,1,8,.nil 1,[]⟩
def ty311:TY:=⟨.other,1,8,.nil 1,[]⟩
def ty312:TY:=⟨.other,1,8,.nil 1,[]⟩
def ty313:TY:=⟨.other,1,8,.nil 1,[]⟩
def ty314:TY:=⟨.other,1,8,.nil 1,[]⟩
def ty315:TY:=⟨.other,1,8,.nil 1,[]⟩
def ty316:TY:=⟨.other,1,8,.nil 1,[]⟩
def ty317:TY:=⟨.other,1,8,.nil 2,[]⟩
def ty318:TY:=⟨.slice 5,1,24,.sl [],[]⟩
def ty319:TY:=⟨.struct,2,32,.agg [.nil 2,.sl []],[(0,false,1),(1,false,1)]⟩
def ty320:TY:=⟨.struct,2,32,.agg [.nil 2,.sl []],[(0,false,1),(1,false,1)]⟩
def ty321:TY:=⟨.other,1,8,.nil 1,[]⟩
def ty322:TY:=⟨.other,1,8,.nil 1,[]⟩
def ty323:TY:=⟨.other,1,8,.nil 1,[]⟩
def ty324:TY:=⟨.other,1,8,.nil 1,[]⟩
def ty325:TY:=⟨.other,1,16,.nil 0,[]⟩
def ty326:TY:=⟨.other,1,16,.nil 0,[]⟩
def ty328:TY:=⟨.other,1,8,.nil 1,[]⟩
def ty329:TY:=⟨.other,1,8,.nil 1,[]⟩
def ty330:TY:=⟨.other,1,8,.nil 1,[]⟩
def ty332:TY:=⟨.other,1,8,.nil 1,[]⟩
def ty333:TY:=⟨.other,1,8,.nil 1,[]⟩
def ty334:TY:=⟨.other,1,8,.nil 1,[]⟩
def ty335:TY:=⟨.other,1,8,.nil 1,[]⟩
def ty336:TY:=⟨.other,1,8,.nil 1,[]⟩
def ty337:TY:=⟨.other,1,8,.nil 1,[]⟩
def ty338:TY:=⟨.array 5 3,5,40,.agg [.int .i64 0,.int .i64 0,.int .i64 0,.int .i64 0,.int .i64 0],[]⟩
def ty341:TY:=⟨.other,1,8,.nil 1,[]⟩
def ty342:TY:=⟨.other,1,8,.nil 1,[]⟩
def ty343:TY:=⟨.other,1,8,.nil 1,[]⟩
def ty344:TY:=⟨.other,1,8,.nil 1,[]⟩
def ty345:TY:=⟨.other,1,8,.nil 1,[]⟩
def ty346:TY:=⟨.other,1,8,.nil 1,[]⟩
def ty347:TY:=⟨.other,1,8,.nil 1,[]⟩
def ty348:TY:=⟨.other,1,8,.nil 1,[]⟩
def ty350:TY:=⟨.other,1,8,.nil 1,[]⟩
def ty352:TY:=⟨.other,1,8,.nil 1,[]⟩
def ty353:TY:=⟨.other,1,8,.nil 1,[]⟩
def ty354:TY:=⟨.other,1,8,.nil 1,[]⟩
def ty357:TY:=⟨.other,1,8,.nil 1,[]⟩
def ty358:TY:=⟨.other,1,8,.nil 1,[]⟩
def ty359:TY:=⟨.other,1,8,.nil 1,[]⟩
def ty360:TY:=⟨.int .u64,1,8,.int .u64 0,[]⟩
def ty361:TY:=⟨.other,1,8,.nil 1,[]⟩
def ty363:TY:=⟨.other,1,8,.nil 1,[]⟩
def ty364:TY:=⟨.other,1,8,.nil 1,[]⟩
def ty365:TY:=⟨.other,1,8,.nil 1,[]⟩
def ty366:TY:=⟨.other,1,8,.nil 1,[]⟩
def ty367:TY:=⟨.other,1,8,.nil 1,[]⟩
def ty369:TY:=⟨.other,1,8,.nil 1,[]⟩
def ty370:TY:=⟨.other,1,8,.nil 1,[]⟩
def ty371:TY:=⟨.other,1,8,.nil 1,[]⟩
def ty372:TY:=⟨.other,1,8,.nil 2,[]⟩
def ty373:TY:=⟨.other,1,8,.nil 1,[]⟩
def ty375:TY:=⟨.other,1,8,.nil 1,[]⟩
def ty376:TY:=⟨.other,1,8,.nil 1,[]⟩
def ty377:TY:=⟨.other,1,8,.nil 1,[]⟩
def ty378:TY:=⟨.other,1,8,.nil 1,[]⟩
def ty379:TY:=⟨.other,1,8,.nil 1,[]⟩
def ty380:TY:=⟨.other,1,8,.nil 1,[]⟩
def ty381:TY:=⟨.int .i64,1,8,.int .i64 0,[]⟩
def ty383:TY:=⟨.other,1,8,.nil 1,[]⟩
def ty384:TY:=⟨.other,1,8,.nil 1,[]⟩
def ty385:TY:=⟨.other,1,8,.nil 1,[]⟩
def ty386:TY:=⟨.other,1,8,.nil 1,[]⟩
def ty387:TY:=⟨.other,1,8,.nil 1,[]⟩
def ty388:TY:=⟨.other,1,8,.nil 1,[]⟩
def ty389:TY:=⟨.other,1,8,.nil 1,[]⟩
def ty390:TY:=⟨.other,1,8,.nil 1,[]⟩
def ty391:TY:=⟨.other,1,8,.nil 1,[]⟩
def ty392:TY:=⟨.other,1,8,.nil 1,[]⟩
def ty393:TY:=⟨.other,1,8,.nil 1,[]⟩
def ty394:TY:=⟨.other,1,8,.nil 1,[]⟩
def ty395:TY:=⟨.other,1,8,.nil 1,[]⟩
def ty396:TY:=⟨.other,1,8,.nil 1,[]⟩
def ty397:TY:=⟨.other,1,8,.nil 2,[]⟩
def ty398:TY:=⟨.other,1,8,.nil 1,[]⟩
def ty400:TY:=⟨.other,1,8,.nil 1,[]⟩
def ty402:TY:=⟨.other,1,8,.nil 1,[]⟩
def ty403:TY:=⟨.other,1,8,.nil 1,[]⟩
def ty404:TY:=⟨.other,1,8,.nil 1,[]⟩
def ty405:TY:=⟨.other,1,8,.nil 1,[]⟩
def ty406:TY:=⟨.other,1,8,.nil 1,[]⟩
def ty407:TY:=⟨.other,1,8,.nil 1,[]⟩
def ty408:TY:=⟨.other,1,8,.nil 1,[]⟩
def ty409:TY:=⟨.int .u64,1,8,.int .u64 0,[]⟩
def ty410:TY:=⟨.other,1,8,.nil 1,[]⟩
def ty411:TY:=⟨.other,1,8,.nil 1,[]⟩
def ty412:TY:=⟨.other,1,8,.nil 2,[]⟩
def ty413:TY:=⟨.other,1,8,.nil 1,[]⟩
def ty414:TY:=⟨.other,1,8,.nil 1,[]⟩
def ty415:TY:=⟨.other,1,8,.nil 1,[]⟩
def ty416:TY:=⟨.array 24 5,24,24,.agg [.int .u8 0,.int .u8 0,.int .u8 0,.int .u8 0,.int .u8 0,.int .u8 0,.int .u8 0,.int .u8 0,.int .u8 0,.int .u8 0,.int .u8 0,.int .u8 0,.int .u8 0,.int .u8 0,.int .u8 0,.int .u8 0,.int .u8 0,.int .u8 0,.int .u8 0,.int .u8 0,.int .u8 0,.int .u8 0,.int .u8 0,.int .u8 0],[]⟩
def ty417:TY:=⟨.other,1,8,.nil 1,[]⟩
def ty419:TY:=⟨.other,1,8,.nil 1,[]⟩
def ty420:TY:=⟨.other,1,8,.nil 1,[]⟩
def ty421:TY:=⟨.other,1,8,.nil 1,[]⟩
def ty422:TY:=⟨.other,1,8,.nil 1,[]⟩
def ty423:TY:=⟨.other,1,8,.nil 2,[]⟩
def ty425:TY:=⟨.other,1,8,.nil 1,[]⟩
def ty426:TY:=⟨.other,1,8,.nil 1,[]⟩
def ty427:TY:=⟨.other,1,8,.nil 1,[]⟩
def ty428:TY:=⟨.other,1,8,.nil 1,[]⟩
def ty429:TY:=⟨.array 20 266,20,160,.agg [.int .u64 0,.int .u64 0,.int .u64 0,.int .u64 0,.int .u64 0,.int .u64 0,.int .u64 0,.int .u64 0,.int .u64 0,.int .u64 0,.int .u64 0,.int .u64 0,.int .u64 0,.int .u64 0,.int .u64 0,.int .u64 0,.int .u64 0,.int .u64 0,.int .u64 0,.int .u64 0],[]⟩
def ty430:TY:=⟨.array 65 5,65,65,.agg [.int .u8 0,.int .u8 0,.int .u8 0,.int .u8 0,.int .u8 0,.int .u8 0,.int .u8 0,.int .u8 0,.int .u8 0,.int .u8 0,.int .u8 0,.int .u8 0,.int .u8 0,.int .u8 0,.int .u8 0,.int .u8 0,.int .u8 0,.int .u8 0,.int .u8 0,.int .u8 0,.int .u8 0,.int .u8 0,.int .u8 0,.int .u8 0,.int .u8 0,.int .u8 0,.int .u8 0,.int .u8 0,.int .u8 0,.int .u8 0,.int .u8 0,.int .u8 0,.int .u8 0,.int .u8 0,.int .u8 0,.int .u8 0,.int .u8 0,.int .u8 0,.int .u8 0,.int .u8 0,.int .u8 0,.int .u8 0,.int .u8 0,.int .u8 0,.int .u8 0,.int .u8 0,.int .u8 0,.int .u8 0,.int .u8 0,.int .u8 0,.int .u8 0,.int .u8 0,.int .u8 0,.int .u8 0,.int .u8 0,.int .u8 0,.int .u8 0,.int .u8 0,.int .u8 0,.int .u8 0,.int .u8 0,.int .u8 0,.int .u8 0,.int .u8 0,.int .u8 0],[]⟩
def ty431:TY:=⟨.other,1,8,.nil 1,[]⟩
def ty432:TY:=⟨.array 32 5,32,32,.agg [.int .u8 0,.int .u8 0,.int .u8 0,.int .u8 0,.int .u8 0,.int .u8 0,.int .u8 0,.int .u8 0,.int .u8 0,.int .u8 0,.int .u8 0,.int .u8 0,.int .u8 0,.int .u8 0,.int .u8 0,.int .u8 0,.int .u8 0,.int .u8 0,.int .u8 0,.int .u8 0,.int .u8 0,.int .u8 0,.int .u8 0,.int .u8 0,.int .u8 0,.int .u8 0,.int .u8 0,.int .u8 0,.int .u8 0,.int .u8 0,.int .u8 0,.int .u8 0],[]⟩
def ty433:TY:=⟨.array 64 5,64,64,.agg [.int .u8 0,.int .u8 0,.int .u8 0,.int .u8 0,.int .u8 0,.int .u8 0,.int .u8 0,.int .u8 0,.int .u8 0,.int .u8 0,.int .u8 0,.int .u8 0,.int .u8 0,.int .u8 0,.int .u8 0,.int .u8 0,.int .u8 0,.int .u8 0,.int .u8 0,.int .u8 0,.int .u8 0,.int .u8 0,.int .u8 0,.int .u8 0,.int .u8 0,.int .u8 0,.int .u8 0,.int .u8 0,.int .u8 0,.int .u8 0,.int .u8 0,.int .u8 0,.int .u8 0,.int .u8 0,.int .u8 0,.int .u8 0,.int .u8 0,.int .u8 0,.int .u8 0,.int .u8 0,.int .u8 0,.int .u8 0,.int .u8 0,.int .u8 0,.int .u8 0,.int .u8 0,.int .u8 0,.int .u8 0,.int .u8 0,.int .u8 0,.int .u8 0,.int .u8 0,.int .u8 0,.int .u8 0,.int .u8 0,.int .u8 0,.int .u8 0,.int .u8 0,.int .u8 0,.int .u8 0,.int .u8 0,.int .u8 0,.int .u8 0,.int .u8 0],[]⟩
def ty434:TY:=⟨.struct,4,40,.agg [.nil 2,.nil 2,.nil 2,.str []],[(0,false,1),(1,false,1),(2,false,1),(3,false,1)]⟩
def ty435:TY:=⟨.struct,4,40,.agg [.nil 2,.nil 2,.nil 2,.str []],[(0,false,1),(1,false,1),(2,false,1),(3,false,1)]⟩
def ty436:TY:=⟨.array 0 16,0,0,.agg [],[]⟩
def ty437:TY:=⟨.struct,0,0,.agg [],[(0,true,0)]⟩
def ty438:TY:=⟨.struct,0,0,.agg [],[(0,true,0)]⟩
def ty439:TY:=⟨.int .u8,1,1,.int .u8 0,[]⟩
def ty440:TY:=⟨.int .u8,1,1,.int .u8 0,[]⟩
def ty441:TY:=⟨.other,1,8,.nil 1,[]⟩
def ty442:TY:=⟨.int .i32,1,4,.int .i32 0,[]⟩
def ty443:TY:=⟨.int .i32,1,4,.int .i32 0,[]⟩
def ty444:TY:=⟨.struct,11,48,.agg [.int .u64 0,.int .u64 0,.int .u32 0,.int .u8 0,.int .u8 0,.int .u8 0,.int .u8 0,.nil 1,.nil 2,.int .i32 0,.int .i32 0],[(0,false,1),(1,false,1),(2,false,1),(3,false,1),(4,false,1),(5,false,1),(6,false,1),(7,false,1),(8,false,1),(9,false,1),(10,false,1)]⟩
def ty445:TY:=⟨.struct,11,48,.agg [.int .u64 0,.int .u64 0,.int .u32 0,.int .u8 0,.int .u8 0,.int .u8 0,.int .u8 0,.nil 1,.nil 2,.int .i32 0,.int .i32 0],[(0,false,1),(1,false,1),(2,false,1),(3,false,1),(4,false,1),(5,false,1),(6,false,1),(7,false,1),(8,false,1),(9,false,1),(10,false,1)]⟩
def tr0:Tr:=.node 8 (.node 4 (.node 2 (.node 1 (.leaf none) (.leaf (some ty1))) (.node 3 (.leaf (some ty2)) (.leaf (some ty3)))) (.node 6 (.node 5 (.leaf (some ty4)) (.leaf (some ty5))) (.node 7 (.leaf (some ty6)) (.leaf (some ty7))))) (.node 12 (.node 10 (.node 9 (.leaf (some ty8)) (.leaf (some ty9))) (.node 11 (.leaf (some ty10)) (.leaf (some ty11)))) (.node 14 (.node 13 (.leaf (some ty12)) (.leaf (some ty13))) (.node 15 (.leaf (some ty14)) (.leaf (some ty15)))))
def tr1:Tr:=.node 24 (.node 20 (.node 18 (.node 17 (.leaf (some ty16)) (.leaf (some ty17))) (.node 19 (.leaf (some ty18)) (.leaf (some ty19)))) (.node 22 (.node 21 (.leaf (some ty20)) (.leaf (some ty21))) (.node 23 (.leaf (some ty22)) (.leaf (some ty23))))) (.node 28 (.node 26 (.node 25 (.leaf (some ty24)) (.leaf none)) (.node 27 (.leaf (some ty26)) (.leaf (some ty27)))) (.node 30 (.node 29 (.leaf (some ty28)) (.leaf (some ty29))) (.node 31 (.leaf (some ty30)) (.leaf (some ty31)))))
def tr2:Tr:=.node 40 (.node 36 (.node 34 (.node 33 (.leaf (some ty32)) (.leaf none)) (.node 35 (.leaf (some ty34)) (.leaf (some ty35)))) (.node 38 (.node 37 (.leaf (some ty36)) (.leaf (some ty37))) (.node 39 (.leaf (some ty38)) (.leaf (some ty39))))) (.node 44 (.node 42 (.node 41 (.leaf (some ty40)) (.leaf (some ty41))) (.node 43 (.leaf (some ty42)) (.leaf (some ty43)))) (.node 46 (.node 45 (.leaf (some ty44)) (.leaf (some ty45))) (.node 47 (.leaf (some ty46)) (.leaf (some ty47)))))
def tr3:Tr:=.node 56 (.node 52 (.node 50 (.node 49 (.leaf (some ty48)) (.leaf (some ty49))) (.node 51 (.leaf (some ty50)) (.leaf none))) (.node 54 (.node 53 (.leaf (some ty52)) (.leaf (some ty53))) (.node 55 (.leaf (some ty54)) (.leaf (some ty55))))) (.node 60 (.node 58 (.node 57 (.leaf (some ty56)) (.leaf (some ty57))) (.node 59 (.leaf (some ty58)) (.leaf (some ty59)))) (.node 62 (.node 61 (.leaf (some ty60)) (.leaf none)) (.node 63 (.leaf (some ty62)) (.leaf (some ty63)))))
def tr4:Tr:=.node 72 (.node 68 (.node 66 (.node 65 (.leaf (some ty64)) (.leaf (some ty65))) (.node 67 (.leaf (some ty66)) (.leaf (some ty67)))) (.node 70 (.node 69 (.leaf (some ty68)) (.leaf (some ty69))) (.node 71 (.leaf (some ty70)) (.leaf (some ty71))))) (.node 76 (.node 74 (.node 73 (.leaf (some ty72)) (.leaf (some ty73))) (.node 75 (.leaf (some ty74)) (.leaf (some ty75)))) (.node 78 (.node 77 (.leaf (some ty76)) (.leaf none)) (.node 79 (.leaf (some ty78)) (.leaf (some ty79)))))
def tr5:Tr:=.node 88 (.node 84 (.node 82 (.node 81 (.leaf (some ty80)) (.leaf (some ty81))) (.node 83 (.leaf (some ty82)) (.leaf (some ty83)))) (.node 86 (.node 85 (.leaf (some ty84)) (.leaf none)) (.node 87 (.leaf (some ty86)) (.leaf (some ty87))))) (.node 92 (.node 90 (.node 89 (.leaf (some ty88)) (.leaf (some ty89))) (.node 91 (.leaf (some ty90)) (.leaf (some ty91)))) (.node 94 (.node 93 (.leaf (some ty92)) (.leaf none)) (.node 95 (.leaf (some ty94)) (.leaf (some ty95)))))
def tr6:Tr:=.node 104 (.node 100 (.node 98 (.node 97 (.leaf (some ty96)) (.leaf (some ty97))) (.node 99 (.leaf (some ty98)) (.leaf (some ty99)))) (.node 102 (.node 101 (.leaf (some ty100)) (.leaf (some ty101))) (.node 103 (.leaf (some ty102)) (.leaf (some ty103))))) (.node 108 (.node 106 (.node 105 (.leaf (some ty104)) (.leaf (some ty105))) (.node 107 (.leaf none) (.leaf (some ty107)))) (.node 110 (.node 109 (.leaf (some ty108)) (.leaf (some ty109))) (.node 111 (.leaf (some ty110)) (.leaf (some ty111)))))
def tr7:Tr:=.node 120 (.node 116 (.node 114 (.node 113 (.leaf (some ty112)) (.leaf (some ty113))) (.node 115 (.leaf (some ty114)) (.leaf none))) (.node 118 (.node 117 (.leaf (some ty116)) (.leaf (some ty117))) (.node 119 (.leaf none) (.leaf (some ty119))))) (.node 124 (.node 122 (.node 121 (.leaf (some ty120)) (.leaf none)) (.node 123 (.leaf (some ty122)) (.leaf (some ty123)))) (.node 126 (.node 125 (.leaf (some ty124)) (.leaf (some ty125))) (.node 127 (.leaf (some ty126)) (.leaf (some ty127)))))
def tr8:Tr:=.node 136 (.node 132 (.node 130 (.node 129 (.leaf (some ty128)) (.leaf none)) (.node 131 (.leaf (some ty130)) (.leaf none))) (.node 134 (.node 133 (.leaf (some ty132)) (.leaf (some ty133))) (.node 135 (.leaf (some ty134)) (.leaf (some ty135))))) (.node 140 (.node 138 (.node 137 (.leaf (some ty136)) (.leaf (some ty137))) (.node 139 (.leaf none) (.leaf (some ty139)))) (.node 142 (.node 141 (.leaf none) (.leaf (some ty141))) (.node 143 (.leaf (some ty142)) (.leaf (some ty143)))))
def tr9:Tr:=.node 152 (.node 148 (.node 146 (.node 145 (.leaf (some ty144)) (.leaf (some ty145))) (.node 147 (.leaf (some ty146)) (.leaf (some ty147)))) (.node 150 (.node 149 (.leaf (some ty148)) (.leaf (some ty149))) (.node 151 (.leaf (some ty150)) (.leaf (some ty151))))) (.node 156 (.node 154 (.node 153 (.leaf (some ty152)) (.leaf (some ty153))) (.node 155 (.leaf (some ty154)) (.leaf none))) (.node 158 (.node 157 (.leaf (some ty156)) (.leaf (some ty157))) (.node 159 (.leaf (some ty158)) (.leaf (some ty159)))))
def tr10:Tr:=.node 168 (.node 164 (.node 162 (.node 161 (.leaf (some ty160)) (.leaf (some ty161))) (.node 163 (.leaf (some ty162)) (.leaf (some ty163)))) (.node 166 (.node 165 (.leaf (some ty164)) (.leaf (some ty165))) (.node 167 (.leaf (some ty166)) (.leaf (some ty167))))) (.node 172 (.node 170 (.node 169 (.leaf (some ty168)) (.leaf (some ty169))) (.node 171 (.leaf (some ty170)) (.leaf none))) (.node 174 (.node 173 (.leaf (some ty172)) (.leaf (some ty173))) (.node 175 (.leaf (some ty174)) (.leaf (some ty175)))))
def tr11:Tr:=.node 184 (.node 180 (.node 178 (.node 177 (.leaf (some ty176)) (.leaf (some ty177))) (.node 179 (.leaf (some ty178)) (.leaf (some ty179)))) (.node 182 (.node 181 (.leaf (some ty180)) (.leaf (some ty181))) (.node 183 (.leaf (some ty182)) (.leaf (some ty183))))) (.node 188 (.node 186 (.node 185 (.leaf (some ty184)) (.leaf (some ty185))) (.node 187 (.leaf (some ty186)) (.leaf (some ty187)))) (.node 190 (.node 189 (.leaf (some ty188)) (.leaf (some ty189))) (.node 191 (.leaf (some ty190)) (.leaf (some ty191)))))
def tr12:Tr:=.node 200 (.node 196 (.node 194 (.node 193 (.leaf (some ty192)) (.leaf (some ty193))) (.node 195 (.leaf (some ty194)) (.leaf (some ty195)))) (.node 198 (.node 197 (.leaf (some ty196)) (.leaf (some ty197))) (.node 199 (.leaf (some ty198)) (.leaf (some ty199))))) (.node 204 (.node 202 (.node 201 (.leaf (some ty200)) (.leaf (some ty201))) (.node 203 (.leaf (some ty202)) (.leaf (some ty203)))) (.node 206 (.node 205 (.leaf (some ty204)) (.leaf (some ty205))) (.node 207 (.leaf (some ty206)) (.leaf (some ty207)))))
def tr13:Tr:=.node 216 (.node 212 (.node 210 (.node 209 (.leaf none) (.leaf (some ty209))) (.node 211 (.leaf (some ty210)) (.leaf (some ty211)))) (.node 214 (.node 213 (.leaf (some ty212)) (.leaf (some ty213))) (.node 215 (.leaf (some ty214)) (.leaf (some ty215))))) (.node 220 (.node 218 (.node 217 (.leaf (some ty216)) (.leaf (some ty217))) (.node 219 (.leaf (some ty218)) (.leaf (some ty219)))) (.node 222 (.node 221 (.leaf (some ty220)) (.leaf (some ty221))) (.node 223 (.leaf (some ty222)) (.leaf (some ty223)))))
def tr14:Tr:=.node 232 (.node 228 (.node 226 (.node 225 (.leaf (some ty224)) (.leaf (some ty225))) (.node 227 (.leaf (some ty226)) (.leaf (some ty227)))) (.node 230 (.node 229 (.leaf (some ty228)) (.leaf none)) (.node 231 (.leaf (some ty230)) (.leaf (some ty231))))) (.node 236 (.node 234 (.node 233 (.leaf (some ty232)) (.leaf (some ty233))) (.node 235 (.leaf (some ty234)) (.leaf (some ty235)))) (.node 238 (.node 237 (.leaf (some ty236)) (.leaf (some ty237))) (.node 239 (.leaf (some ty238)) (.leaf (some ty239)))))
def tr15:Tr:=.node 248 (.node 244 (.node 242 (.node 241 (.leaf (some ty240)) (.leaf (some ty241))) (.node 243 (.leaf (some ty242)) (.leaf (some ty243)))) (.node 246 (.node 245 (.leaf (some ty244)) (.leaf (some ty245))) (.node 247 (.leaf (some ty246)) (.leaf (some ty247))))) (.node 252 (.node 250 (.node 249 (.leaf (some ty248)) (.leaf (some ty249))) (.node 251 (.leaf (some ty250)) (.leaf (some ty251)))) (.node 254 (.node 253 (.leaf (some ty252)) (.leaf (some ty253))) (.node 255 (.leaf (some ty254)) (.leaf (some ty255)))))
def tr16:Tr:=.node 264 (.node 260 (.node 258 (.node 257 (.leaf (some ty256)) (.leaf (some ty257))) (.node 259 (.leaf (some ty258)) (.leaf (some ty259)))) (.node 262 (.node 261 (.leaf (some ty260)) (.leaf (some ty261))) (.node 263 (.leaf (some ty262)) (.leaf (some ty263))))) (.node 268 (.node 266 (.node 265 (.leaf (some ty264)) (.leaf (some ty265))) (.node 267 (.leaf (some ty266)) (.leaf none))) (.node 270 (.node 269 (.leaf (some ty268)) (.leaf (some ty269))) (.node 271 (.leaf (some ty270)) (.leaf (some ty271)))))
def tr17:Tr:=.node 280 (.node 276 (.node 274 (.node 273 (.leaf (some ty272)) (.leaf (some ty273))) (.node 275 (.leaf (some ty274)) (.leaf (some ty275)))) (.node 278 (.node 277 (.leaf (some ty276)) (.leaf (some ty277))) (.node 279 (.leaf (some ty278)) (.leaf (some ty279))))) (.node 284 (.node 282 (.node 281 (.leaf (some ty280)) (.leaf (some ty281))) (.node 283 (.leaf (some ty282)) (.leaf none))) (.node 286 (.node 285 (.leaf (some ty284)) (.leaf (some ty285))) (.node 287 (.leaf (some ty286)) (.leaf (some ty287)))))
def tr18:Tr:=.node 296 (.node 292 (.node 290 (.node 289 (.leaf (some ty288)) (.leaf (some ty289))) (.node 291 (.leaf (some ty290)) (.leaf (some ty291)))) (.node 294 (.node 293 (.leaf (some ty292)) (.leaf (some ty293))) (.node 295 (.leaf (some ty294)) (.leaf (some ty295))))) (.node 300 (.node 298 (.node 297 (.leaf (some ty296)) (.leaf (some ty297))) (.node 299 (.leaf (some ty298)) (.leaf (some ty299)))) (.node 302 (.node 301 (.leaf (some ty300)) (.leaf (some ty301))) (.node 303 (.leaf (some ty302)) (.leaf (some ty303)))))
def tr19:Tr:=.node 312 (.node 308 (.node 306 (.node 305 (.leaf none) (.leaf (some ty305))) (.node 307 (.leaf (some ty306)) (.leaf (some ty307)))) (.node 310 (.node 309 (.leaf (some ty308)) (.leaf (some ty309))) (.node 311 (.leaf (some ty310)) (.leaf (some ty311))))) (.node 316 (.node 314 (.node 313 (.leaf (some ty312)) (.leaf (some ty313))) (.node 315 (.leaf (some ty314)) (.leaf (some ty315)))) (.node 318 (.node 317 (.leaf (some ty316)) (.leaf (some ty317))) (.node 319 (.leaf (some ty318)) (.leaf (some ty319)))))
def tr20:Tr:=.node 328 (.node 324 (.node 322 (.node 321 (.leaf (some ty320)) (.leaf (some ty321))) (.node 323 (.leaf (some ty322)) (.leaf (some ty323)))) (.node 326 (.node 325 (.leaf (some ty324)) (.leaf (some ty325))) (.node 327 (.leaf (some ty326)) (.leaf none)))) (.node 332 (.node 330 (.node 329 (.leaf (some ty328)) (.leaf (some ty329))) (.node 331 (.leaf (some ty330)) (.leaf none))) (.node 334 (.node 333 (.leaf (some ty332)) (.leaf (some ty333))) (.node 335 (.leaf (some ty334)) (.leaf (some ty335)))))
def tr21:Tr:=.node 344 (.node 340 (.node 338 (.node 337 (.leaf (some ty336)) (.leaf (some ty337))) (.node 339 (.leaf (some ty338)) (.leaf none))) (.node 342 (.node 341 (.leaf none) (.leaf (some ty341))) (.node 343 (.leaf (some ty342)) (.leaf (some ty343))))) (.node 348 (.node 346 (.node 345 (.leaf (some ty344)) (.leaf (some ty345))) (.node 347 (.leaf (some ty346)) (.leaf (some ty347)))) (.node 350 (.node 349 (.leaf (some ty348)) (.leaf none)) (.node 351 (.leaf (some ty350)) (.leaf none))))
def tr22:Tr:=.node 360 (.node 356 (.node 354 (.node 353 (.leaf (some ty352)) (.leaf (some ty353))) (.node 355 (.leaf (some ty354)) (.leaf none))) (.node 358 (.node 357 (.leaf none) (.leaf (some ty357))) (.node 359 (.leaf (some ty358)) (.leaf (some ty359))))) (.node 364 (.node 362 (.node 361 (.leaf (some ty360)) (.leaf (some ty361))) (.node 363 (.leaf none) (.leaf (some ty363)))) (.node 366 (.node 365 (.leaf (some ty364)) (.leaf (some ty365))) (.node 367 (.leaf (some ty366)) (.leaf (some ty367)))))
def tr23:Tr:=.node 376 (.node 372 (.node 370 (.node 369 (.leaf none) (.leaf (some ty369))) (.node 371 (.leaf (some ty370)) (.leaf (some ty371)))) (.node 374 (.node 373 (.leaf (some ty372)) (.leaf (some ty373))) (.node 375 (.leaf none) (.leaf (some ty375))))) (.node 380 (.node 378 (.node 377 (.leaf (some ty376)) (.leaf (some ty377))) (.node 379 (.leaf (some ty378)) (.leaf (some ty379)))) (.node 382 (.node 381 (.leaf (some ty380)) (.leaf (some ty381))) (.node 383 (.leaf none) (.leaf (some ty383)))))
def tr24:Tr:=.node 392 (.node 388 (.node 386 (.node 385 (.leaf (some ty384)) (.leaf (some ty385))) (.node 387 (.leaf (some ty386)) (.leaf (some ty387)))) (.node 390 (.node 389 (.leaf (some ty388)) (.leaf (some ty389))) (.node 391 (.leaf (some ty390)) (.leaf (some ty391))))) (.node 396 (.node 394 (.node 393 (.leaf (some ty392)) (.leaf (some ty393))) (.node 395 (.leaf (some ty394)) (.leaf (some ty395)))) (.node 398 (.node 397 (.leaf (some ty396)) (.leaf (some ty397))) (.node 399 (.leaf (some ty398)) (.leaf none))))
def tr25:Tr:=.node 408 (.node 404 (.node 402 (.node 401 (.leaf (some ty400)) (.leaf none)) (.node 403 (.leaf (some ty402)) (.leaf (some ty403)))) (.node 406 (.node 405 (.leaf (some ty404)) (.leaf (some ty405))) (.node 407 (.leaf (some ty406)) (.leaf (some ty407))))) (.node 412 (.node 410 (.node 409 (.leaf (some ty408)) (.leaf (some ty409))) (.node 411 (.leaf (some ty410)) (.leaf (some ty411)))) (.node 414 (.node 413 (.leaf (some ty412)) (.leaf (some ty413))) (.node 415 (.leaf (some ty414)) (.leaf (some ty415)))))
def tr26:Tr:=.node 424 (.node 420 (.node 418 (.node 417 (.leaf (some ty416)) (.leaf (some ty417))) (.node 419 (.leaf none) (.leaf (some ty419)))) (.node 422 (.node 421 (.leaf (some ty420)) (.leaf (some ty421))) (.node 423 (.leaf (some ty422)) (.leaf (some ty423))))) (.node 428 (.node 426 (.node 425 (.leaf none) (.leaf (some ty425))) (.node 427 (.leaf (some ty426)) (.leaf (some ty427)))) (.node 430 (.node 429 (.leaf (some ty428)) (.leaf (some ty429))) (.node 431 (.leaf (some ty430)) (.leaf (some ty431)))))
def tr27:Tr:=.node 439 (.node 435 (.node 433 (.leaf (some ty432)) (.node 434 (.leaf (some ty433)) (.leaf (some ty434)))) (.node 437 (.node 436 (.leaf (some ty435)) (.leaf (some ty436))) (.node 438 (.leaf (some ty437)) (.leaf (some ty438))))) (.node 443 (.node 441 (.node 440 (.leaf (some ty439)) (.leaf (some ty440))) (.node 442 (.leaf (some ty441)) (.leaf (some ty442)))) (.node 445 (.node 444 (.leaf (some ty443)) (.leaf (some ty444))) (.node 446 (.leaf (some ty445)) (.leaf none))))
def trAll:Tr:=(.node 224 (.node 112 (.node 48 (.node 16 tr0 (.node 32 tr1 tr2)) (.node 80 (.node 64 tr3 tr4) (.node 96 tr5 tr6))) (.node 160 (.node 128 tr7 (.node 144 tr8 tr9)) (.node 192 (.node 176 tr10 tr11) (.node 208 tr12 tr13)))) (.node 336 (.node 272 (.node 240 tr14 (.node 256 tr15 tr16)) (.node 304 (.node 288 tr17 tr18) (.node 320 tr19 tr20))) (.node 384 (.node 352 tr21 (.node 368 tr22 tr23)) (.node 416 (.node 400 tr24 tr25) (.node 432 tr26 tr27)))))
noncomputable def TT(t:TypeId):Option TY:=trAll.get t
theorem TT_rows:(List.range 446).map TT=(List.range 446).map (tyOf Tryz.prog):=by kernel_rfl
theorem TT_ok:TabOk Tryz.prog TT:=fun t ty h=>by
 rcases Nat.lt_or_ge t 446 with hl|hl
 · have:=congrArg (fun l=>l[t]?) TT_rows
   simp only[List.getElem?_map,List.getElem?_range hl,Option.map_some,Option.some.injEq] at this
   rw[←this];exact h
 · have:TT t=none:=Tr.get_big hl (by kernel_rfl)
   rw[this] at h;cases h
structure Keep where
 I:World→Prop
 bel:∀n w w',I w→w.heap.size≤n→Below n w w'→I w'
 ro:Option Nat→Prop
 r0:ro none
def Keep.top(J:Keep):Keep:=⟨J.I,J.bel,fun r=>r=none,rfl⟩
def Keep.any(J:Keep):Keep:=⟨J.I,J.bel,fun _=>True,trivial⟩
noncomputable def cx(J:Keep):Cx:=⟨Tryz.prog,J.I,TT,TT_ok,by kernel_rfl,J.bel,fun f=>Nat.beq f 263||Nat.beq f 264,fun f=>Nat.beq f 244,J.ro,J.r0⟩
abbrev C(J:Keep):FuncId→List IV→IV→Prop:=PureC Tryz.prog J.I
def regOk(nt:Nat)(all:Array Oper)(draw:Bool):Bool:=dstsOk nt all.toList&&(!draw||flowOk all (ancs all.toList))
def W(J:Keep)(nt:Nat)(c:Code)(σ:AS)(K:Exit→AS→Prop):Prop:=CW (cx J) nt c σ K
def wK(J:Keep)(nt:Nat)(y:Code)(K:Exit→AS→Prop):Exit→AS→Prop
 | .normal,σ=>W J nt y σ K
 |e,σ=>K e σ
section
variable {J:Keep}{nt:Nat}{σ:AS}{K:Exit→AS→Prop}
theorem fn_ok{f:FuncId}{fn:Func}{c:Code}(hf:Tryz.prog.funcs[f]?=some fn)(hb:fn.body=some c)(hn:(fn.name == "runtime.NumGoroutine")=false){xs:List IV}{r:IV}(hx:Nat.ble xs.length fn.ntmps=true)
 (h:W J fn.ntmps c ⟨argS xs,fun _=>none,0⟩ (retK TT fn.results.toList r)):C J f xs r :=
 pure_of (X:=cx J) hf hb hn (Nat.le_of_ble_eq_true hx) h
theorem fm_ok{f:FuncId}{fn:Func}{c:Code}(hf:Tryz.prog.funcs[f]?=some fn)(hb:fn.body=some c)(hn:(fn.name == "runtime.NumGoroutine")=false){e:TypeId}{sz off n:Nat}{es es' xs:List IV}{r:IV}(hx:Nat.ble (xs.length+1) fn.ntmps=true)
 (h:W J fn.ntmps c ⟨argM off n xs,tbB [(pinId,.arr e sz es false)],0⟩ (retM TT fn.results.toList (.arr e sz es' false) r)):MutC Tryz.prog J.I f e sz off n es xs es' r :=
 mut_of (X:=cx J) hf hb hn (Nat.le_of_ble_eq_true hx) h
theorem W.R{id:Nat}{all:Array Oper}{draw:Bool}(h0:regOk nt all draw=true)(h:regP (cx J) all draw σ (K .normal)):W J nt (.region id all draw) σ K:=by
 simp only[regOk,Bool.and_eq_true,Bool.or_eq_true] at h0
 exact CW.region h0.1 (fun e=>h0.2.resolve_left (by subst e;simp)) h
theorem W.S{x y:Code}(h:W J nt x σ (wK J nt y K)):W J nt (.seq x y) σ K:=CW.seq (CW.mono h fun e σ k=>by cases e<;>exact k)
theorem W.RS{id:Nat}{all:Array Oper}{draw:Bool}{y:Code}(h0:regOk nt all draw=true)(h:regP (cx J) all draw σ fun σ'=>W J nt y σ' K):W J nt (.seq (.region id all draw) y) σ K :=
 W.S (W.R h0 h)
theorem W.skip(h:K .normal σ):W J nt .skip σ K:=CW.skip h
theorem W.ret(h:K .ret σ):W J nt .ret σ K:=CW.ret h
theorem W.exit{id:Nat}(h:K (.exit id) σ):W J nt (.exit id) σ K:=CW.exit h
theorem W.cond{c:Operand}{x y:Code}{t:Bool}(hc:evS σ.tm c=.iv (.bool t))(h1:t=true→W J nt x σ K)(h2:t=false→W J nt y σ K):W J nt (.cond c x y) σ K:=CW.cond hc h1 h2
theorem W.block{id:Nat}{c:Code}(h:W J nt c σ (blockK id K)):W J nt (.block id c) σ K:=CW.block h
theorem W.weak{c:Code}{σ':AS}(hw:Wk σ σ')(h:W J nt c σ' K):W J nt c σ K:=CW.weak hw h
theorem W.loop{G:Type}(inv:G→AS)(μ:G→Nat){c:Code}(g0:G)(h0:Wk σ (inv g0))(h:∀g,W J nt c (inv g) (loopK inv μ g K)):W J nt (.loop c) σ K:=CW.loop inv μ g0 h0 h
theorem W.join{G:Type}(inv:G→AS){x y:Code}(h1:W J nt x σ (joinK inv K))(h2:∀g,W J nt y (inv g) K):W J nt (.seq x y) σ K:=CW.join inv h1 h2
theorem W.condT{c:Operand}{x y:Code}(hc:evS σ.tm c=.iv (.bool true))(h:W J nt x σ K):W J nt (.cond c x y) σ K:=W.cond hc (fun _=>h) (fun e=>by cases e)
theorem W.condF{c:Operand}{x y:Code}(hc:evS σ.tm c=.iv (.bool false))(h:W J nt y σ K):W J nt (.cond c x y) σ K:=W.cond hc (fun e=>by cases e) (fun _=>h)
end
attribute [irreducible] W
theorem w64{a:Int}(h : -9223372036854775808≤a∧a≤9223372036854775807):IntKind.wrap .i64 a=a:=by
 show(let m:=a%(18446744073709551616:Int);if true&&decide (m≥(9223372036854775808:Int)) then m-(18446744073709551616:Int) else m)=a
 by_cases h0:a%(18446744073709551616:Int)≥9223372036854775808
 · simp[h0];omega
 · simp[h0];omega
theorem w32{a:Int}(h:0≤a∧a≤4294967295):IntKind.wrap .u32 a=a:=by
 show(let m:=a%(4294967296:Int);if false&&decide (m≥(2147483648:Int)) then m-(4294967296:Int) else m)=a
 simp;omega
theorem wu64{a:Int}(h:0≤a∧a≤18446744073709551615):IntKind.wrap .u64 a=a:=by
 show(let m:=a%(18446744073709551616:Int);if false&&decide (m≥(9223372036854775808:Int)) then m-(18446744073709551616:Int) else m)=a
 simp;omega
def makK(rs:List ResultVar)(f':FuncId)(zs:List IV):Exit→AS→Prop
 | .ret,σ=>match rs with
  | [.tmp t]=>match σ.tm t with
   | .clo f gs=>f=f'∧cloB σ.bx gs zs∧gs.Pairwise (· ≠ ·)
   |_=>False
  |_=>False
 |_,_=>False
theorem make_of{X:Cx}{f f':FuncId}{fn:Func}{c:Code}(hf:X.P.funcs[f]?=some fn)(hb:fn.body=some c)(hn:(fn.name == "runtime.NumGoroutine")=false){xs zs:List IV}(hx:xs.length≤fn.ntmps)
 (h:CW X fn.ntmps c ⟨argS xs,fun _=>none,0⟩ (makK fn.results.toList f' zs)):MakC X.P X.I f xs f' zs:=by
 refine⟨⟨fn,hf,hn,by rw[hb];rfl⟩,fun H w args hI hH hargs=>?_⟩
 have hlen:=hargs.length
 refine(callsIn_wide (n:=0)).1 (callsIn_of_wp_marks hf hb trivial ?_)
 refine h ⟨none,X.r0⟩ ⟨fun k=>w.heap.size≤k,w,H,fun _=>none,[]⟩ _ (fun w' hw'=>X.bel _ _ _ hI (Nat.le_refl _) hw'.below) (fun e σ' M H' β a0 w0 k hS0=>?_) [] H (fun _=>(0,0)) _ w ⟨⟨hH,BelowO.refl _ _,fun _ hk=>hk,HExtO.refl _ _,fun t=>?_,fun g b hg=>(by cases hg),fun g g' b b' hg=>(by cases hg),fun p k hk=>(by cases hk),MarksOk.nil _ _,fun g s g' b R hg=>(by cases hg)⟩,rfl,?_⟩
 · cases e with
   |ret =>
    simp only[makK] at k
    split at k
    · rename_i t hrs
      split at k
      · rename_i f1 gs ht
        obtain⟨rfl,hc,hp⟩:=k
        show LeavesInM (FW none) 0 X.P fn a0.tmps (fun e w'=>∃(bs:List Nat) (H':Heap),e=.returned (cloV f1 bs)∧HeapHas w' H'∧HExt w.heap.size H H'∧Below w.heap.size w w'∧bs.Pairwise (· ≠ ·)∧BRs (fun k=>w.heap.size≤k) w' H' bs zs) a0.defers .returning w0
        rw[hS0.defers]
        refine leavesM M hS0 fun a' w' hS _=>?_
        have hv:=hS.sim.slot t
        rw[ht] at hv
        obtain⟨_,hv⟩:=hv
        have hr:fn.results = #[.tmp t]:=Array.ext' hrs
        refine⟨_,results_tmp hr a'.tmps X.P w',gs.map fun g=>(β g).1,H',?_,hS.sim.has,hS.sim.ext,hS.sim.below.below,?_,?_⟩
        · rw[hv,cloV,List.map_map];rfl
        · refine List.pairwise_map.2 (hp.imp_of_mem fun{x y} hx hy hne e=>hne ?_)
          obtain⟨z1,hz1⟩:=cloB_get hc x hx
          obtain⟨z2,hz2⟩:=cloB_get hc y hy
          exact hS.sim.inj x y _ _ hz1 hz2 rfl rfl e
        · exact cloB_brs hS.sim hc (fun g hg=>by obtain⟨z,hz⟩:=cloB_get hc g hg;exact(hS.sim.box g _ hz).lo rfl)
      · exact k.elim
    · exact k.elim
   |_=>exact k.elim
 · show SR _ _ _ _ (argS xs t)
   rw[argS_get]
   cases hx':xs[t]? with
   |some x =>
    have hlt:t<args.length:=by rw[hlen];exact(List.getElem?_eq_some_iff.1 hx').1
    obtain⟨v,h1,h2⟩:=hargs.get t x hx'
    have:(args.toArray++Array.replicate (fn.ntmps-args.toArray.size) undef).getD t undef=v:=by
     simp[Array.getElem?_append,hlt]
     exact(List.getElem?_eq_some_iff.1 h1).2
    rw[this];exact h2
   |none =>
    have hge:¬t<args.length:=by
     intro hlt
     rw[hlen] at hlt
     simp[hlt] at hx'
    show _=undef
    simp[Array.getElem?_append,hge,Array.getElem?_replicate]
    split<;>rfl
 · show(args.toArray++Array.replicate (fn.ntmps-args.toArray.size) undef).size=fn.ntmps
   simp;omega
section
variable (X:Cx)(nt l:Nat)(J:(Nat→Prop)→Nat→Heap→World→Prop)
def YS(own:Nat→Prop)(H:Heap)(β:Nat→Nat×Nat)(a:Act)(w:World)(σ:AS)(k:Nat):Prop :=
 (∃M,St ⟨own,w,H,fun _=>none,M⟩ nt H β σ.tm σ.bx a w)∧J own k H w
def WY(c:Code)(σ:AS)(k:Nat)(K:Exit→AS→Nat→Prop):Prop :=
 ∀Q:Exit→Act→World→Prop,(∀e σ' k' own H β a w,K e σ' k'→YS nt J own H β a w σ' k'→Q e a w)→∀own H β a w,YS nt J own H β a w σ k→c.wpIn (FW none) 0 X.P Q a w
def thenY(y:Code)(K:Exit→AS→Nat→Prop):Exit→AS→Nat→Prop
 | .normal,σ,k=>WY X nt J y σ k K
 |e,σ,k=>K e σ k
def blockY(id:Nat)(K:Exit→AS→Nat→Prop):Exit→AS→Nat→Prop
 | .exit i,σ,k=>bif Nat.beq i id then K .normal σ k else K (.exit i) σ k
 |e,σ,k=>K e σ k
def loopY{G:Type}(inv:G→AS)(κ:G→Nat)(μ:G→Nat)(g:G)(K:Exit→AS→Nat→Prop):Exit→AS→Nat→Prop
 | .normal,σ,k=>∃g',Wk σ (inv g')∧k=κ g'∧μ g'<μ g
 |e,σ,k=>K e σ k
end
section
variable {X:Cx}{nt l:Nat}{ys:List (List IV)}{J:(Nat→Prop)→Nat→Heap→World→Prop}{σ:AS}{k:Nat}{K:Exit→AS→Nat→Prop}
theorem WY.lift(hJ:IterJ X l ys J){c:Code}(h:CW X nt c σ (fun e σ'=>K e σ' k)):WY X nt J c σ k K:=by
 rintro Q hQ own H β a w ⟨⟨M,hS⟩,hj⟩
 refine h ⟨none,X.r0⟩ ⟨own,w,H,fun _=>none,[]⟩ Q (fun w' hb=>hJ.inv _ _ _ _ _ hj hb) (fun e σ' M' H' β' a' w' hk hS'=>hQ e σ' k own H' β' a' w' hk ⟨⟨M',?_,hS'.defers,hS'.size⟩,hJ.step own k H H' w w' hj hS'.sim.below hS'.sim.has hS'.sim.ext⟩) M H β a w hS
 exact hS'.sim.rebase (fun g b hg ha=>(hS'.sim.box g b hg).lo ha) (fun g s R hg hR=>((hS'.sim.box g _ hg).2.2.2 R hR).1) hS'.sim.lo hS'.sim.pin hS'.sim.marks
theorem WY.skip(h:K .normal σ k):WY X nt J .skip σ k K:=fun _ hQ own H β a w hS=>wpIn_skip (hQ _ _ _ own H β a w h hS)
theorem WY.exit{id:Nat}(h:K (.exit id) σ k):WY X nt J (.exit id) σ k K:=fun _ hQ own H β a w hS=>wpIn_exit (hQ _ _ _ own H β a w h hS)
theorem WY.S{x y:Code}(h:WY X nt J x σ k (thenY X nt J y K)):WY X nt J (.seq x y) σ k K:=fun Q hQ own H β a w hS =>
 wpIn_seq (h _ (fun e σ' k' own H β a w hk hS=>by
  cases e with
  |normal=>exact hk Q hQ own H β a w hS
  |_=>exact hQ _ _ _ own H β a w hk hS) own H β a w hS)
theorem WY.cond{c:Operand}{x y:Code}{t:Bool}(hc:evS σ.tm c=.iv (.bool t))(h1:t=true→WY X nt J x σ k K)(h2:t=false→WY X nt J y σ k K):WY X nt J (.cond c x y) σ k K:=fun Q hQ own H β a w hS=>by
 obtain⟨⟨M,hs⟩,hj⟩:=hS
 have hv:=ev_ok hs.sim rfl c
 rw[hc] at hv
 exact wpIn_cond_split (VR.asBool hv) (fun e=>h1 e Q hQ own H β a w ⟨⟨M,hs⟩,hj⟩) (fun e=>h2 e Q hQ own H β a w ⟨⟨M,hs⟩,hj⟩)
theorem WY.block{id:Nat}{c:Code}(h:WY X nt J c σ k (blockY id K)):WY X nt J (.block id c) σ k K:=fun Q hQ own H β a w hS =>
 wpIn_block (h _ (fun e σ' k' own H β a w hk hS=>by
  cases e with
  |exit i =>
   simp only[blockY] at hk
   simp only[Exit.inBlock]
   by_cases hi:i=id
   · subst hi
     rw[Nat.beq_refl] at hk
     simp only[if_true]
     exact hQ _ _ _ own H β a w hk hS
   · have hb:Nat.beq i id=false:=by
      cases hb:Nat.beq i id
      · rfl
      · exact absurd (Nat.eq_of_beq_eq_true hb) hi
     rw[hb] at hk
     simp only[hi,if_false]
     exact hQ _ _ _ own H β a w hk hS
  |_=>exact hQ _ _ _ own H β a w hk hS) own H β a w hS)
theorem YS.weak{own:Nat→Prop}{H:Heap}{β:Nat→Nat×Nat}{a:Act}{w:World}{σ':AS}(h:YS nt J own H β a w σ k)(hw:Wk σ σ'):∃ β',YS nt J own H β' a w σ' k:=by
 obtain⟨⟨M,hs⟩,hj⟩:=h
 obtain⟨β',hs'⟩:=hs.weak hw
 exact⟨β',⟨M,hs'⟩,hj⟩
theorem WY.loop{G:Type}(inv:G→AS)(κ:G→Nat)(μ:G→Nat){c:Code}(g0:G)(h0:Wk σ (inv g0))(hk0:k=κ g0)(h:∀g,WY X nt J c (inv g) (κ g) (loopY inv κ μ g K)):WY X nt J (.loop c) σ k K:=fun Q hQ own H β a w hS=>by
 let I:G→Act→World→Prop:=fun g a w=>∃own H β,YS nt J own H β a w (inv g) (κ g)
 let M:Act→World→Nat:=fun a w=>leastN fun n=>∃g,μ g=n∧I g a w
 obtain⟨β0,hS0⟩:=hS.weak h0
 refine wpIn_loop (fun a w=>∃g,I g a w) M ⟨g0,own,H,β0,hk0▸hS0⟩ fun a w ⟨g1,hJ1⟩=>?_
 obtain⟨⟨g,e,hJ⟩,_⟩:=leastN_spec (p:=fun n=>∃g,μ g=n∧I g a w) ⟨g1,rfl,hJ1⟩
 obtain⟨own1,H1,β1,hS1⟩:=hJ
 refine h g _ (fun e' σ' k' own H β a' w' hk hS=>?_) own1 H1 β1 a w hS1
 cases e' with
 |normal =>
  obtain⟨g',hw,rfl,hlt⟩:=hk
  obtain⟨β',hS'⟩:=hS.weak hw
  have hJ':I g' a' w':=⟨own,H,β',hS'⟩
  have:=(leastN_spec (p:=fun n=>∃g,μ g=n∧I g a' w') ⟨g',rfl,hJ'⟩).2
  refine⟨⟨g',hJ'⟩,?_⟩
  show leastN _<leastN _
  rw[←e]
  exact Nat.lt_of_le_of_lt this hlt
 |_=>exact hQ _ _ _ own H β a' w' hk hS
theorem list_on{P:Program}{I:World→Prop}{T:TypeId→Option TY}{Φ:Ctr}{E:Env}{Q:Exit→Act→World→Prop}{ro:Option Nat}(hT:TabOk P T)(hΦ:CtrOk P I Φ)(hIE:∀w,BelowO E.own E.w0 w→I w){all:Array Oper}{rest:List Oper}{K:(Nat→SV)→(Nat→Option Bx)→List Lg→Prop}(hK:∀H β tm bx log a w,K tm bx log→St E nt H β tm bx a w→wpListIn (FW ro) 0 P all Q rest a w) :
 ∀{os:List Oper} {g:Nat} {tm:Nat→SV} {bx:Nat→Option Bx} {log:List Lg} {H:Heap} {β:Nat→Nat×Nat} {a:Act} {w:World},dstsOk nt os=true→St E nt H β tm bx a w→opsP T Φ all os g tm bx log K→wpListIn (FW ro) 0 P all Q (os++rest) a w:=by
 intro os
 induction os with
 |nil=>intro g tm bx log H β a w _ h ho;exact hK _ _ _ _ _ _ _ ho h
 |cons o os ih =>
  intro g tm bx log H β a w hd h ho
  have hd':dstsOk nt os=true:=by
   simp only[dstsOk,List.all_cons,Bool.and_eq_true] at hd;exact hd.2
  have key:∃l:Lg,Fact T Φ all o g tm bx l∧opsP T Φ all os (g+1) (putS tm o.dst l.r) (wrAll (fzAll bx l.e.fz) l.e.wr) (l::log) K:=by
   unfold opsP at ho
   split at ho
   · rename_i hy
     obtain⟨r,e,h1,h2⟩:=opP_elim ho
     exact⟨⟨r,e⟩,.inl ⟨hy,h1⟩,h2⟩
   · rename_i hy
     exact⟨⟨.und,{}⟩,.inr ⟨hy,rfl,rfl⟩,ho⟩
   · exact ho.elim
  obtain⟨l,hf,h'⟩:=key
  show wpListIn (FW ro) 0 P all Q (o::(os++rest)) a w
  unfold wpListIn
  exact fact_step hT hΦ hIE (dstsOk_spec hd (by simp)) h hf fun H β a w hS=>ih hd' hS h'
theorem Sim.rounded{own:Nat→Prop}{M:List Deferred}{H H':Heap}{β:Nat→Nat×Nat}{tm:Nat→SV}{bx:Nat→Option Bx}{tmps:Array Value}{w w' w0:World}{H0:Heap}{pin:Nat→Option (Nat×Nat)}(h:Sim ⟨own,w0,H0,pin,M⟩ H β tm bx tmps w)(hh:HeapHas w' H')(hle:HLe H H')(hs:w.heap.size≤w'.heap.size)
 (ho:∀b,own b→b<w.heap.size→w'.heap[b]?=w.heap[b]?∧(H b=none→H' b=none)):Sim ⟨fun b=>own b∧(b<w.heap.size∨w'.heap.size≤b),w',H',fun _=>none,M⟩ H' β tm bx tmps w' where
 has:=hh
 below:=BelowO.refl _ _
 lo k hk:=⟨h.lo k (Nat.le_trans hs hk),.inr hk⟩
 ext:=HExtO.refl _ _
 slot t:=(h.slot t).mono hle (fun g b hg=>⟨b,hg,shape.refl b,rfl⟩)
 box g b hg:=by
  by_cases ha:b.alive=true
  · have hb:=h.box g b hg
    have hlt:=hb.lt ha
    have hl:=hb.lo ha
    obtain⟨e1,e2⟩:=ho _ hl hlt
    have hk:=hb.keep e1 hle e2 (fun s R eb hR=>by
     subst eb
     exact ho R (hb.2.2.2 R hR).1 (bld_row hb.2.2.1 hR).1)
    cases b with
    |var x=>exact⟨⟨hl,.inl hlt⟩,hk.2⟩
    |arr=>exact⟨⟨hl,.inl hlt⟩,hk.2⟩
    |bld s =>
     refine⟨⟨hl,.inl hlt⟩,hk.2.1,hk.2.2.1,fun R hR=>?_⟩
     have hR':=hR.same e1
     exact⟨⟨(hb.2.2.2 R hR').1,.inl (bld_row hb.2.2.1 hR').1⟩,(hk.2.2.2 R hR).2⟩
    |arrN=>exact⟨hk.1,⟨hl,.inl hlt⟩,hk.2.2⟩
    |dead=>trivial
  · cases b<;>first|trivial|simp[Bx.alive] at ha
 inj:=h.inj
 pin g k hk:=by cases hk
 marks:=⟨h.marks.1,fun d hd=>by
  obtain⟨D,e,h1,h2⟩:=h.marks.2 d hd
  have hlt:=(Array.getElem?_eq_some_iff.1 h2).1
  exact⟨D,e,⟨h1,.inl hlt⟩,(ho D h1 hlt).1.trans h2⟩⟩
 hid g s g' b R h1 h2 ha hR:=h.hid g s g' b R h1 h2 ha (hR.same (ho _ ((h.box g _ h1).lo rfl) ((h.box g _ h1).lt rfl)).1)
theorem WY.yield(hJ:IterJ X l ys J)(n:Nat){id:Nat}{all:Array Oper}{o:Oper}{fo:Operand}{args:Array Operand}{ats:Array TypeId}(ho:all.toList[n]?=some o)(hd:dstsOk nt all.toList=true)(hg:o.guard=none)(hop:o.op=.call { callee:=.value fo,args:=args,argTypes:=ats })
 (h:opsP X.T X.C all (all.toList.take n) σ.nx σ.tm σ.bx [] fun tm bx _=>match evS tm fo,toIs bx (evS tm) args.toList with
   | .yld l',some (y,fs)=>l'=l∧ys[k]?=some y∧opsP X.T X.C all (all.toList.drop (n+1)) (σ.nx+n+1) (putS tm o.dst (.iv (.bool true))) (fzAll bx fs) [] fun tm bx _=>K .normal ⟨tm,bx,σ.nx+all.size⟩ (k+1)
   |_,_=>False):WY X nt J (.region id all false) σ k K:=by
 rintro Q hQ own H β a w ⟨⟨M,hS⟩,hj⟩
 refine wpIn_region_list ?_
 have hsplit:all.toList=all.toList.take n++o::all.toList.drop (n+1):=by
  have hlt:=(List.getElem?_eq_some_iff.1 ho).1
  have he:=(List.getElem?_eq_some_iff.1 ho).2
  have h1:=List.take_append_drop n all.toList
  rw[List.drop_eq_getElem_cons hlt,he] at h1
  exact h1.symm
 have hd1:dstsOk nt (all.toList.take n)=true:=by
  unfold dstsOk at hd ⊢
  rw[List.all_eq_true] at hd ⊢
  exact fun x hx=>hd x (List.mem_of_mem_take hx)
 have hd2:dstsOk nt (all.toList.drop (n+1))=true:=by
  unfold dstsOk at hd ⊢
  rw[List.all_eq_true] at hd ⊢
  exact fun x hx=>hd x (List.mem_of_mem_drop hx)
 have hdo:∀d,o.dst=some d→d<nt:=dstsOk_spec hd (List.mem_of_getElem? ho)
 rw[hsplit]
 refine list_on (E:=⟨own,w,H,fun _=>none,M⟩) X.hT X.ok (fun w' hb=>hJ.inv _ _ _ _ _ hj hb) (fun H1 β1 tm bx log a1 w1 hk hS1=>?_) hd1 hS h
 split at hk
 · rename_i l' y fs hfo hargs
   obtain⟨rfl,hy,hk⟩:=hk
   have hkl:=(List.getElem?_eq_some_iff.1 hy).1
   have hv:=ev_ok hS1.sim rfl fo
   rw[hfo] at hv
   have hfv:a1.eval fo=.func (.yield l') #[] #[]:=hv
   obtain⟨H2,hle,S2,V2⟩:=toIs_ok (a:=a1) rfl hS1.sim hargs
   have hj2:=hJ.step own k H H2 w w1 hj S2.below S2.has S2.ext
   obtain⟨fn,tmps,assign,body,hyr,hR⟩:=hJ.round own k H2 w1 (args.toList.map a1.eval) hkl hj2 S2.has S2.lo (by rw[(List.getElem?_eq_some_iff.1 hy).2];exact V2)
   have hrun:(execOp a1.eval o).run X.P w1=.ok (.round l' fn tmps assign body) w1:=by
    have ea:(args.toList.map a1.eval).toArray=args.map a1.eval:=by apply Array.ext';simp
    rw[ea] at hyr
    simp only[execOp,hop,resolve,hfv,Deferred.ofValue,Sem.run_bind,Sem.run_pure,Result.andThen_ok,invoke]
    simpa using hyr
   unfold wpListIn
   simp only[Region.wanted,hg,if_true]
   refine⟨fun _ _=>trivial,?_⟩
   rw[show(FW none).round=none from rfl,Oper.semAt_none,hrun]
   refine⟨fun e=>(by cases e),hR.mono ?_⟩
   rintro e w2 ⟨rfl,H3,h1,h2,h3,h4,h5,h6,h7,hj3⟩
   have T:St ⟨fun b=>own b∧(b<w1.heap.size∨w2.heap.size≤b),w2,H3,fun _=>none,M⟩ nt H3 β1 (putS tm o.dst (.iv (.bool true))) (fzAll bx fs) (a1.put o.dst (.bool true)) w2 :=
    St.put ⟨S2.rounded h1 h2 h3 h7,hS1.defers,hS1.size⟩ hdo (r:=.iv (.bool true)) (.bool true)
   have:=list_on (rest:=[]) (Q:=Q) (ro:=none) (E:=⟨fun b=>own b∧(b<w1.heap.size∨w2.heap.size≤b),w2,H3,fun _=>none,M⟩) X.hT X.ok (fun w' hb=>hJ.inv _ _ _ _ _ hj3 hb) (all:=all) (K:=fun tm bx _=>K .normal ⟨tm,bx,σ.nx+all.size⟩ (k+1)) (fun H4 β4 tm bx log a4 w4 hk4 hS4=>?_) hd2 T hk
   · rw[List.append_nil] at this;exact this
   · refine hQ .normal _ (k+1) (fun b=>own b∧(b<w1.heap.size∨w2.heap.size≤b)) H4 β4 a4 w4 hk4 ⟨⟨M,?_,hS4.defers,hS4.size⟩,hJ.step _ _ _ _ _ _ hj3 hS4.sim.below hS4.sim.has hS4.sim.ext⟩
     exact hS4.sim.rebase (fun g b hg ha=>(hS4.sim.box g b hg).lo ha) (fun g s R hg hR=>((hS4.sim.box g _ hg).2.2.2 R hR).1) hS4.sim.lo hS4.sim.pin hS4.sim.marks
 · exact hk.elim
end
def argP:Nat→List IV→Nat→SV
 |_,[],_=>.und
 |i,_::_,0=>.ptr i 0
 |i,_::zs,t+1=>argP (i+1) zs t
def argY(l:Nat)(zs:List IV):Nat→SV
 |0=>.yld l
 |t+1=>argP 0 zs t
def bxL:Nat→List IV→List (Nat×Bx)
 |_,[]=>[]
 |i,z::zs=>(i,.var z)::bxL (i+1) zs
def endY(n:Nat):Exit→AS→Nat→Prop
 | .normal,_,k=>k=n
 | .ret,_,k=>k=n
 |_,_,_=>False
theorem BRs_len{own:Nat→Prop}{w:World}{H:Heap}:∀{bs:List Nat} {zs:List IV},BRs own w H bs zs→bs.length=zs.length
 | [],[],_=>rfl
 | [],_::_,h=>h.elim
 |_::_,[],h=>h.elim
 |_::_,_::_,h=>by simp[BRs_len h.2]
theorem BRs_get{own:Nat→Prop}{w:World}{H:Heap}:∀{bs:List Nat} {zs:List IV},BRs own w H bs zs→∀(i:Nat) (z:IV),zs[i]?=some z→∃b,bs[i]?=some b∧BR own w H (b,0) (.var z)
 | [],[],_,i,z,h=>by simp at h
 | [],_::_,h,_,_,_=>h.elim
 |_::_,[],h,_,_,_=>h.elim
 |b::bs,z'::zs,h,0,z,hz=>by simp at hz;subst hz;exact⟨b,rfl,h.1⟩
 |b::bs,z'::zs,h,i+1,z,hz=>by simp at hz;simpa using BRs_get h.2 i z hz
theorem bxL_mem:∀{i:Nat} {zs:List IV} {g:Nat} {b:Bx},(g,b)∈bxL i zs→∃j z,g=i+j∧zs[j]?=some z∧b=.var z
 |_,[],_,_,h=>by simp[bxL] at h
 |i,z::zs,g,b,h=>by
  simp only[bxL,List.mem_cons,Prod.mk.injEq] at h
  rcases h with⟨rfl,rfl⟩|h
  · exact⟨0,z,rfl,rfl,rfl⟩
  · obtain⟨j,z',e,h1,h2⟩:=bxL_mem h
    exact⟨j+1,z',by omega,by simpa using h1,h2⟩
theorem bxL_some:∀{i:Nat} {zs:List IV} {j:Nat},j<zs.length→tbB (bxL i zs) (i+j)≠none
 |_,[],_,h=>by simp at h
 |i,z::zs,0,_=>by simp[bxL,tbB,Nat.beq_refl]
 |i,z::zs,j+1,h=>by
  have h':=bxL_some (i:=i+1) (zs:=zs) (j:=j) (by simpa using h)
  have hb:Nat.beq (i+(j+1)) i=false:=by
   cases hb:Nat.beq (i+(j+1)) i
   · rfl
   · have:=Nat.eq_of_beq_eq_true hb;omega
  simp only[bxL,tbB,hb,cond_false]
  rw[show i+(j+1)=i+1+j by omega];exact h'
theorem argP_get:∀{i:Nat} {zs:List IV} {t:Nat},argP i zs t=if t<zs.length then .ptr (i+t) 0 else .und
 |i,[],t=>by simp[argP]
 |i,z::zs,0=>by simp[argP]
 |i,z::zs,t+1=>by rw[argP,argP_get];simp[Nat.add_comm,Nat.add_left_comm]
theorem iter_of{X:Cx}{f:FuncId}{fn:Func}{c:Code}(hf:X.P.funcs[f]?=some fn)(hb:fn.body=some c)(hn:(fn.name == "runtime.NumGoroutine")=false)(hres:fn.results = #[]){zs:List IV}{ys:List (List IV)}(hx:zs.length+1≤fn.ntmps)
 (h:∀l J,IterJ X l ys J→WY X fn.ntmps J c ⟨argY l zs,tbB (bxL 0 zs),10⟩ 0 (endY ys.length)):IterC X f zs ys:=by
 refine⟨⟨fn,hf,hn,by rw[hb];rfl⟩,fun l J own H w bs hJ hj hH hlo hbs hp=>?_⟩
 have hlen:=BRs_len hbs
 refine callsIn_of_wp_marks hf hb trivial ?_
 refine h l J hJ _ (fun e σ' k' own' H' β' a' w' hk hY=>?_) own H (fun g=>(bs.getD g 0,0)) _ w ⟨⟨[],⟨hH,BelowO.refl _ _,hlo,HExtO.refl _ _,fun t=>?_,fun g b hg=>?_,fun g g' b b' hg hg' _ _ e=>?_,fun p k hk=>(by cases hk),MarksOk.nil _ _,fun g s g' b R hg=>(by obtain⟨j,z,_,_,e⟩:=bxL_mem (tbB_mem hg);cases e)⟩,rfl,?_⟩,hj⟩
 · obtain⟨⟨M,hS⟩,hj'⟩:=hY
   have hfin:k'=ys.length→LeavesInM (FW none) 0 X.P fn a'.tmps (fun e w'=>∃v own' H',e=.returned v∧HeapHas w' H'∧J own' ys.length H' w') a'.defers .returning w':=fun hk=>by
    subst hk
    rw[hS.defers]
    have goM:∀(M:List Deferred) (w':World),MarksOk own' M w'→HeapHas w' H'→J own' ys.length H' w'→LeavesInM (FW none) 0 X.P fn a'.tmps (fun e w'=>∃v own' H',e=.returned v∧HeapHas w' H'∧J own' ys.length H' w') M .returning w':=by
     intro M
     induction M with
     |nil =>
      intro w' _ hh hj
      exact⟨_,results_none hres _ _ _,_,own',H',rfl,hh,hj⟩
     |cons d M ih =>
      intro w' hm hh hj
      obtain⟨D,e,ho,hb⟩:=hm.2 d (by simp)
      obtain⟨hp1,hp2⟩:=List.pairwise_cons.1 hm.1
      refine⟨by simp,.inl ⟨D,w'.putObj D (.deferred none),by rw[e],run_takeDeferred hb,ih _ ⟨hp2,fun d' hd'=>?_⟩ ?_ ?_⟩⟩
      · obtain⟨D',e',ho',hb'⟩:=hm.2 d' (List.mem_cons_of_mem _ hd')
        exact⟨D',e',ho',(World.putObj_heap_other (fun e2=>hp1 d' hd' (by rw[e,e',e2]))).trans hb'⟩
      · intro b arr hba
        obtain⟨t,fr,ht⟩:=hh b arr hba
        exact⟨t,fr,(World.putObj_heap_other (fun e2=>by rw[e2,hb] at ht;cases ht)).trans ht⟩
      · refine hJ.step own' _ H' H' w' _ hj ⟨rfl,rfl,rfl,by simp,fun k hk=>World.putObj_heap_other (fun e2=>hk (by rw[e2];exact ho))⟩ ?_ (HExtO.refl _ _)
        intro b arr hba
        obtain⟨t,fr,ht⟩:=hh b arr hba
        exact⟨t,fr,(World.putObj_heap_other (fun e2=>by rw[e2,hb] at ht;cases ht)).trans ht⟩
    exact goM M w' hS.sim.marks hS.sim.has hj'
   cases e with
   |normal=>exact hfin hk
   |ret=>exact hfin hk
   |_=>exact hk.elim
 · cases t with
   |zero=>simp[argY,SR,yieldV,Array.getElem?_append]
   |succ t =>
    show SR _ _ _ _ (argP 0 zs t)
    rw[argP_get]
    by_cases ht:t<zs.length
    · rw[if_pos ht]
      have htb:t<bs.length:=by omega
      refine⟨bxL_some ht,?_⟩
      simp[Array.getElem?_append,htb]
    · rw[if_neg ht]
      have htb:¬t<bs.length:=by omega
      show _=undef
      simp[Array.getElem?_append,htb,Array.getElem?_replicate]
      split<;>rfl
 · obtain⟨j,z,rfl,hz,rfl⟩:=bxL_mem (tbB_mem hg)
   obtain⟨b,e1,e2⟩:=BRs_get hbs j z hz
   simp only[Nat.zero_add]
   rw[show(bs.getD j 0,0)=(b,0) by simp[e1]]
   exact e2
 · obtain⟨j,z,rfl,hz,rfl⟩:=bxL_mem (tbB_mem hg)
   obtain⟨j',z',rfl,hz',rfl⟩:=bxL_mem (tbB_mem hg')
   obtain⟨b1,e1,_⟩:=BRs_get hbs j z hz
   obtain⟨b2,e2,_⟩:=BRs_get hbs j' z' hz'
   simp[e1,e2] at e
   simp only[Nat.zero_add]
   apply Classical.byContradiction
   intro hne
   have l1:=(List.getElem?_eq_some_iff.1 e1).1
   have l2:=(List.getElem?_eq_some_iff.1 e2).1
   have v1:=(List.getElem?_eq_some_iff.1 e1).2
   have v2:=(List.getElem?_eq_some_iff.1 e2).2
   have hpg:=List.pairwise_iff_getElem.1 hp
   rcases Nat.lt_or_gt_of_ne hne with hlt|hlt
   · exact hpg j j' l1 l2 hlt (by rw[v1,v2,e])
   · exact hpg j' j l2 l1 hlt (by rw[v1,v2,e])
 · show((yieldV l::bs.map fun b=>Value.pointer (some ⟨b,0,none⟩)).toArray++Array.replicate (fn.ntmps-(yieldV l::bs.map fun b=>Value.pointer (some ⟨b,0,none⟩)).toArray.size) undef).size=fn.ntmps
   simp;omega
attribute [irreducible] WY
abbrev MK(J:Keep):FuncId→List IV→FuncId→List IV→Prop:=MakC Tryz.prog J.I
abbrev IT(J:Keep):FuncId→List IV→List (List IV)→Prop:=IterC (cx J.top)
def roundW(J:Keep)(nt:Nat)(body:Code)(m:List (Nat×Bx)):Exit→AS→Prop
 | .normal,σ=>W J.any nt body σ fun e σ'=>e=.normal∧boxesW σ'.bx [] m
 |_,_=>False
def slotsE(tm:Nat→SV):List (Nat×SV)→Prop
 | []=>True
 |p::l=>tm p.1=p.2∧slotsE tm l
theorem slotsE_mem{tm:Nat→SV}:∀{l:List (Nat×SV)},slotsE tm l→∀p∈l,tm p.1=p.2
 | [],_,p,h=>by simp at h
 |q::l,hs,p,h=>by
  rcases List.mem_cons.1 h with rfl|h
  · exact hs.1
  · exact slotsE_mem hs.2 p h
def okL(ids:List Nat):SV→Bool
 | .unk | .und | .iv _ | .nilS=>true
 | .ptr g _=>ids.any (Nat.beq g)
 | .cv _ _ gs=>gs.all fun g=>ids.any (Nat.beq g)
 |_=>false
theorem tbB_dom{m:List (Nat×Bx)}{g:Nat}:tbB m g≠none↔g∈m.map (·.1):=by
 induction m with
 |nil=>simp[tbB]
 |cons p m ih =>
  simp only[tbB,List.map_cons,List.mem_cons]
  cases hb:Nat.beq g p.1 with
  |true=>simp[Nat.eq_of_beq_eq_true hb]
  |false =>
   have hne:=Nat.ne_of_beq_eq_false hb
   simp only[cond_false,ih]
   exact⟨.inr,fun h=>h.resolve_left hne⟩
def freeB(bx:Nat→Option Bx)(ids:List Nat)(i:Nat):Bool:=(bx (pinId+i)).isNone||ids.any (Nat.beq (pinId+i))
def freeAll(bx:Nat→Option Bx)(ids:List Nat):Bool:=freeB bx ids 0&&(freeB bx ids 1&&(freeB bx ids 2&&(freeB bx ids 3&&(freeB bx ids 4&&(freeB bx ids 5&&(freeB bx ids 6&&freeB bx ids 7))))))
theorem freeAll_get{bx:Nat→Option Bx}{ids:List Nat}(h:freeAll bx ids=true):∀i,i<8→freeB bx ids i=true:=by
 simp only[freeAll,Bool.and_eq_true] at h
 obtain⟨h0,h1,h2,h3,h4,h5,h6,h7⟩:=h
 intro i hi
 match i,hi with
 |0,_=>exact h0
 |1,_=>exact h1
 |2,_=>exact h2
 |3,_=>exact h3
 |4,_=>exact h4
 |5,_=>exact h5
 |6,_=>exact h6
 |7,_=>exact h7
 |n+8,hn=>exact absurd hn (by omega)
section
variable {J:Keep}{nt:Nat}{σ:AS}{K:Exit→AS→Prop}
theorem mk_ok{f f':FuncId}{fn:Func}{c:Code}(hf:Tryz.prog.funcs[f]?=some fn)(hb:fn.body=some c)(hn:(fn.name == "runtime.NumGoroutine")=false){xs zs:List IV}(hx:Nat.ble xs.length fn.ntmps=true)
 (h:W J fn.ntmps c ⟨argS xs,fun _=>none,0⟩ (makK fn.results.toList f' zs)):MK J f xs f' zs:=by
 unfold W at h
 exact make_of (X:=cx J) hf hb hn (Nat.le_of_ble_eq_true hx) h
theorem it_ok{f:FuncId}{fn:Func}{c:Code}(hf:Tryz.prog.funcs[f]?=some fn)(hb:fn.body=some c)(hn:(fn.name == "runtime.NumGoroutine")=false)(hres:fn.results = #[]){zs:List IV}{ys:List (List IV)}(hx:Nat.ble (zs.length+1) fn.ntmps=true)
 (h:∀l F,IterJ (cx J.top) l ys F→WY (cx J.top) fn.ntmps F c ⟨argY l zs,tbB (bxL 0 zs),10⟩ 0 (endY ys.length)):IT J f zs ys :=
 iter_of (X:=cx J.top) hf hb hn hres (Nat.le_of_ble_eq_true hx) h
theorem W.range{g:Operand}{ps:Array Tmp}{assign body:Code}{f:FuncId}{gs:List Nat}{zs:List IV}{ys:List (List IV)}(hit:IT J f zs ys)(ids:List Nat)(l:List (Nat×SV))(m:Nat→List (Nat×Bx))(nx:Nat)(hg:evS σ.tm g=.clo f gs)(hz:cloB σ.bx gs zs)(hgs:gs.Pairwise (· ≠ ·))
 (hps:ps.toList.all (fun p=>Nat.blt p nt)=true) (hys:∀y∈ys,y.length=ps.size) (hids:∀k,(m k).map (·.1)=ids) (hal:∀k,∀p∈m k,p.2.alive=true) (hpin:ids.all (fun g=>Nat.ble pinId g&&Nat.blt g (pinId+8))=true)
 (hl:slotsE σ.tm l) (hlo:l.all (fun p=>okL ids p.2)=true) (hb:boxesW σ.bx [] (m 0)) (hdj:gs.all (fun g=>!ids.any (Nat.beq g))=true) (hfree:freeAll σ.bx ids=true)
 (hround:∀k (hk:k<ys.length),W J.any nt assign ⟨putsL (tbS l) ps.toList ys[k],tbB (m k),nx⟩ (roundW J nt body (m (k+1)))) (hend:K .normal (mkA l (m ys.length) nx)):W J.top nt (.rangeFunc g ps assign body) σ K:=by
 unfold W
 have hmem:∀{g:Nat},ids.any (Nat.beq g)=true↔g∈ids:=fun{g}=>any_beq
 have hdom:∀k g,tbB (m k) g≠none↔g∈ids:=fun k g=>by rw[tbB_dom,hids k]
 refine CW.range (X:=cx J.top) (fun r h=>h) hg hz hgs hit (tbS l) (fun k=>tbB (m k)) (nx:=nx) (fun p hp=>?_) hys (fun t=>?_) (fun k t=>?_) (fun g b hgb=>?_) (fun id hid=>?_) (fun k g b hgb=>?_) (fun k g=>?_) (fun i hi hne=>?_) (fun k hk=>?_) hend
 · have:=List.all_eq_true.1 hps p hp
   rwa[Nat.blt_eq] at this
 · rcases tbS_mem (l:=l) (t:=t) with h|h
   · exact .inl h
   · exact .inr (slotsE_mem hl _ h)
 · rcases tbS_mem (l:=l) (t:=t) with h|h
   · rw[h];trivial
   · have:=List.all_eq_true.1 hlo _ h
     simp only at this
     cases hs:tbS l t<;>rw[hs] at this<;>simp only[okL] at this<;>first|trivial|cases this|skip
     · rename_i g off
       exact(hdom k g).2 (hmem.1 this)
     · intro g hg
       exact(hdom k g).2 (hmem.1 (List.all_eq_true.1 this g hg))
 · have:=boxesW_mem hb _ (tbB_mem hgb)
   exact this
 · cases hx:tbB (m 0) id with
   |none=>rfl
   |some b =>
    have h1:=(hdom 0 id).1 (by rw[hx];simp)
    have h2:=List.all_eq_true.1 hdj id hid
    rw[hmem.2 h1] at h2;cases h2
 · have h1:=(hdom k g).1 (by rw[hgb];simp)
   have h2:=List.all_eq_true.1 hpin g h1
   simp only[Bool.and_eq_true,Nat.ble_eq,Nat.blt_eq] at h2
   exact⟨hal k _ (tbB_mem hgb),h2.1,h2.2⟩
 · rw[hdom,hdom]
 · have h1:=freeAll_get hfree i hi
   simp only[freeB,Bool.or_eq_true,Option.isNone_iff_eq_none] at h1
   exact(hdom 0 _).2 (hmem.1 (h1.resolve_left hne))
 · have hr:=hround k hk
   unfold W at hr
   refine CW.mono (X:=cx J.any) hr fun e σ' hk=>?_
   cases e with
   |normal =>
    have hk':W J.any nt body σ' _:=hk
    unfold W at hk'
    refine CW.mono (X:=cx J.any) hk' fun e σ'' h=>⟨h.1,fun id b hib=>?_⟩
    exact boxesW_mem h.2 _ (tbB_mem hib)
   |_=>exact hk
end
section
variable {X:Cx}{nt l:Nat}{ys:List (List IV)}{F:(Nat→Prop)→Nat→Heap→World→Prop}{σ:AS}{k:Nat}{K:Exit→AS→Nat→Prop}
theorem WY.R(hJ:IterJ X l ys F){id:Nat}{all:Array Oper}{draw:Bool}(h0:regOk nt all draw=true)(h:regP X all draw σ fun σ'=>K .normal σ' k):WY X nt F (.region id all draw) σ k K:=by
 simp only[regOk,Bool.and_eq_true,Bool.or_eq_true] at h0
 exact WY.lift hJ (CW.region h0.1 (fun e=>h0.2.resolve_left (by subst e;simp)) h)
theorem WY.RS(hJ:IterJ X l ys F){id:Nat}{all:Array Oper}{draw:Bool}{y:Code}(h0:regOk nt all draw=true)(h:regP X all draw σ fun σ'=>WY X nt F y σ' k K):WY X nt F (.seq (.region id all draw) y) σ k K :=
 WY.S (WY.R hJ h0 h)
theorem WY.yieldS(hJ:IterJ X l ys F)(n:Nat){id:Nat}{all:Array Oper}{o:Oper}{fo:Operand}{args:Array Operand}{ats:Array TypeId}{y:Code}(ho:all.toList[n]?=some o)(hd:dstsOk nt all.toList=true)(hg:o.guard=none)(hop:o.op=.call { callee:=.value fo,args:=args,argTypes:=ats })
 (h:opsP X.T X.C all (all.toList.take n) σ.nx σ.tm σ.bx [] fun tm bx _=>match evS tm fo,toIs bx (evS tm) args.toList with
   | .yld l',some (y',fs)=>l'=l∧ys[k]?=some y'∧opsP X.T X.C all (all.toList.drop (n+1)) (σ.nx+n+1) (putS tm o.dst (.iv (.bool true))) (fzAll bx fs) [] fun tm bx _=>WY X nt F y ⟨tm,bx,σ.nx+all.size⟩ (k+1) K
   |_,_=>False):WY X nt F (.seq (.region id all false) y) σ k K :=
 WY.S (WY.yield hJ n ho hd hg hop h)
theorem WY.condT{c:Operand}{x y:Code}(hc:evS σ.tm c=.iv (.bool true))(h:WY X nt F x σ k K):WY X nt F (.cond c x y) σ k K:=WY.cond hc (fun _=>h) (fun e=>by cases e)
theorem WY.condF{c:Operand}{x y:Code}(hc:evS σ.tm c=.iv (.bool false))(h:WY X nt F y σ k K):WY X nt F (.cond c x y) σ k K:=WY.cond hc (fun e=>by cases e) (fun _=>h)
end
def RowJ(j:Nat)(w:World)(b R:Nat):Prop:=∃arr n cap T fr,w.heap[b]?=some (.cells arr T fr)∧arr[j]?=some (.slice (some ⟨R,0,none⟩) n cap)
structure BldF(j b:Nat)(w w':World):Prop where
 os:w'.os=w.os
 tape:w'.tape=w.tape
 output:w'.output=w.output
 size:w.heap.size≤w'.heap.size
 block:∀k,k<w.heap.size→k≠b→¬RowJ j w b k→w'.heap[k]?=w.heap[k]?
 row:∀R,RowJ j w' b R→RowJ j w b R∨w.heap.size≤R
def BldC(P:Program)(f:FuncId)(s:List UInt8)(xs:List IV)(s':List UInt8)(r:IV):Prop :=
 (∃fn,P.funcs[f]?=some fn∧(fn.name == "runtime.NumGoroutine")=false∧fn.body.isNone=false)∧
 ∀(H:Heap) (w:World) (b:Nat) (args:List Value),VRL H args xs→Lib.IsBuilderF bldT byteT 0 b (Lib.byteCells s) w→
  Calls P f (Value.pointer (some ⟨b,0,none⟩)::args).toArray w fun e w'=>∃v,e=.returned v∧(∀H,VR H v r)∧Lib.IsBuilderF bldT byteT 0 b (Lib.byteCells s') w'∧BldF 1 b w w'
theorem Sim.build{E:Env}{H:Heap}{β:Nat→Nat×Nat}{tm:Nat→SV}{bx:Nat→Option Bx}{tmps:Array Value}{w:World}(h:Sim E H β tm bx tmps w){g:Nat}{s s':Ow}(hj:s'.j=s.j)(hg:bx g=some (.bld s))(hone:∀g' s',bx g'=some (.bld s')→g'=g){w':World}
 (hf:BldF s.j (β g).1 w w') (hb:OwnAt H w' (β g).1 s'):Sim E H β tm (upd bx g (some (.bld s'))) tmps w':=by
 obtain⟨b1,b2,b3,b4⟩:=h.box g _ hg
 have hlt:(β g).1<w.heap.size:=(h.box g _ hg).lt rfl
 have hother:∀{g' b},upd bx g (some (.bld s')) g'=some b→g'≠g→bx g'=some b:=fun{g' b} e hne=>by rwa[upd_other _ _ _ hne] at e
 have halive:∀{g' b},upd bx g (some (.bld s')) g'=some b→b.alive=true→∃b0,bx g'=some b0∧b0.alive=true:=fun{g' b} e ha=>by
  by_cases hne:g'=g
  · subst hne;exact⟨_,hg,rfl⟩
  · exact⟨b,hother e hne,ha⟩
 have hkeep:∀{g' b},bx g'=some b→g'≠g→b.alive=true→w'.heap[(β g').1]?=w.heap[(β g').1]?:=fun{g' b} e hne ha =>
  hf.block _ ((h.box g' b e).lt ha) (fun e'=>hne (h.inj g' g b _ e hg ha rfl e')) (fun hR=>h.hid g s g' b _ hg e ha hR rfl)
 refine⟨fun b arr e=>?_,h.below.trans ⟨hf.os,hf.tape,hf.output,hf.size,fun k hk=>?_⟩,fun k hk=>h.lo k (Nat.le_trans hf.size hk),h.ext,fun t=>(h.slot t).mono (HLe.refl _) (fun g' b1 hg'=>?_),fun g' c1 hg'=>?_,fun g1 g2 c1 c2 e1 e2 a1 a2 he=>?_,fun p' k' hk'=>⟨(h.pin p' k' hk').1,upd_ne_none (h.pin p' k' hk').2.1,(h.pin p' k' hk').2.2⟩,?_,fun g1 s1 g2 c2 R e1 e2 ha2 hR=>?_⟩
 · obtain⟨t,fr,ht⟩:=h.has b arr e
   refine⟨t,fr,(hf.block b (h.has.lt e) (fun e'=>?_) (fun hR=>?_)).trans ht⟩
   · rw[e',b2] at e;cases e
   · rw[(b4 b hR).2] at e;cases e
 · rcases Nat.lt_or_ge k w.heap.size with h1|h1
   · exact hf.block k h1 (fun e=>hk (by rw[e];exact b1)) (fun hR=>hk (b4 k hR).1)
   · exact absurd (h.lo k h1) hk
 · by_cases hne:g'=g
   · subst hne
     rw[hg] at hg';simp at hg';subst hg'
     exact⟨.bld s',by show upd bx g' _ g'=_;rw[upd_same],trivial,rfl⟩
   · exact⟨b1,by show upd bx g _ g'=_;rw[upd_other _ _ _ hne];exact hg',shape.refl _,rfl⟩
 · by_cases hne:g'=g
   · subst hne
     have e':Bx.bld s'=c1:=by
      have:upd bx g' (some (.bld s')) g'=some c1:=hg'
      rw[upd_same] at this;simpa using this
     subst e'
     refine⟨b1,b2,hb,fun R hR=>?_⟩
     rcases hf.row R (by rw[←hj];exact hR) with h1|h1
     · exact b4 R h1
     · refine⟨h.lo R h1,?_⟩
       cases hx:H R with
       |none=>rfl
       |some arr=>have:=h.has.lt hx;omega
   · have e':=hother hg' hne
     by_cases hal:c1.alive=true
     · exact(h.box g' c1 e').keep (hkeep e' hne hal) (HLe.refl _) id (fun s R eb _=>absurd (hone g' s (by rw[←eb];exact e')) hne)
     · cases c1<;>first|trivial|simp[Bx.alive] at hal
 · obtain⟨d1,f1,f1'⟩:=halive e1 a1
   obtain⟨d2,f2,f2'⟩:=halive e2 a2
   exact h.inj g1 g2 d1 d2 f1 f2 f1' f2' he
 · refine h.marks.keep fun D hD=>hf.block D (Array.getElem?_eq_some_iff.1 hD).1 (fun e=>?_) (fun hR=>?_)
   · obtain⟨arr,e',hc⟩:=(h.box g _ hg).cells rfl
     rw[←e,hD] at hc;cases hc
   · obtain⟨_,_,arr,_,fz,hc⟩:=bld_row b3 hR
     rw[hD] at hc;cases hc
 · by_cases hne:g1=g
   · subst hne
     obtain⟨d2,f2,f2'⟩:=halive e2 ha2
     have e9:s'=s1:=by
      have:upd bx g1 (some (.bld s')) g1=some (.bld s1):=e1
      rw[upd_same] at this
      simpa using this
     rcases hf.row R (by rw[←hj,e9];exact hR) with h1|h1
     · exact h.hid g1 s g2 d2 R hg f2 f2' h1
     · have:=(h.box g2 _ f2).lt f2';omega
   · exact absurd (hone g1 s1 (hother e1 hne)) hne
theorem run_zeroV{P:Program}{t:TypeId}{i:TypeInfo}{z:Value}(h:P.info? t=some i)(hz:i.zero=some z)(w:World):(zeroValue t).run P w=.ok z w:=by simp[zeroValue,typeInfo,h,hz]
section
variable {X:Cx}{nt:Nat}{σ:AS}{K:Exit→AS→Prop}
theorem CW.build(n:Nat){id:Nat}{all:Array Oper}{o:Oper}{fo p:Operand}{args:List Operand}{ats:Array TypeId}(ho:all.toList[n]?=some o)(hd:dstsOk nt all.toList=true)(hg:o.guard=none)(hop:o.op=.call { callee:=.value fo,args:=(p::args).toArray,argTypes:=ats })
 (h:opsP X.T X.C all (all.toList.take n) σ.nx σ.tm σ.bx [] fun tm bx _=>match evS tm fo,evS tm p,toIs bx (evS tm) args with
   | .iv (.fn f),.ptr g 0,some (xs,[])=>∃s s' r,bx g=some (.bld (.str s))∧(∀g' s',bx g'=some (.bld s')→g'=g)∧BldC X.P f s xs s' r∧
    opsP X.T X.C all (all.toList.drop (n+1)) (σ.nx+n+1) (putS tm o.dst (.iv r)) (upd bx g (some (.bld (.str s')))) [] fun tm bx _=>K .normal ⟨tm,bx,σ.nx+all.size⟩
   |_,_,_=>False):CW X nt (.region id all false) σ K:=by
 intro ro E Q hI hQ M H β a w hS
 refine wpIn_region_list ?_
 have hsplit:all.toList=all.toList.take n++o::all.toList.drop (n+1):=by
  have hlt:=(List.getElem?_eq_some_iff.1 ho).1
  have he:=(List.getElem?_eq_some_iff.1 ho).2
  have h1:=List.take_append_drop n all.toList
  rw[List.drop_eq_getElem_cons hlt,he] at h1
  exact h1.symm
 have hd1:dstsOk nt (all.toList.take n)=true:=by
  unfold dstsOk at hd ⊢
  rw[List.all_eq_true] at hd ⊢
  exact fun x hx=>hd x (List.mem_of_mem_take hx)
 have hd2:dstsOk nt (all.toList.drop (n+1))=true:=by
  unfold dstsOk at hd ⊢
  rw[List.all_eq_true] at hd ⊢
  exact fun x hx=>hd x (List.mem_of_mem_drop hx)
 have hdo:∀d,o.dst=some d→d<nt:=dstsOk_spec hd (List.mem_of_getElem? ho)
 rw[hsplit]
 refine list_on (E:=E.mks M) X.hT X.ok hI (fun H1 β1 tm bx log a1 w1 hk hS1=>?_) hd1 hS h
 split at hk
 · rename_i f g xs hfo hp hargs
   obtain⟨s,s',r,hbg,hone,⟨⟨fn,hf1,hf2,hf3⟩,hc⟩,hk⟩:=hk
   have hv:=ev_ok hS1.sim rfl fo
   rw[hfo] at hv
   have e1:=VR.asFn hv
   have hvp:=ev_ok hS1.sim rfl p
   rw[hp] at hvp
   obtain⟨_,hpv⟩:=hvp
   obtain⟨H2,hle,S2,V2⟩:=toIs_ok (a:=a1) rfl hS1.sim hargs
   have hcall:=hc H2 w1 (β1 g).1 (args.map a1.eval) V2 (S2.box g _ hbg).2.2.1
   rw[←hpv] at hcall
   have hrun:(execOp a1.eval o).run X.P w1=.ok (.enter f (a1.eval p::args.map a1.eval).toArray) w1:=by
    simp only[execOp,hop,resolve,e1,Deferred.ofValue,Sem.run_bind,Sem.run_pure,Result.andThen_ok,invoke,callFunc,run_program,hf1,hf2,hf3,Bool.false_eq_true,if_false]
    congr 2
    apply Array.ext'
    simp
   unfold wpListIn
   simp only[Region.wanted,hg,if_true]
   refine op_in (fun c hc=>by rw[hop] at hc;cases hc) ?_
   unfold Oper.wp
   rw[hrun]
   refine hcall.mono ?_
   rintro e w2 ⟨v,rfl,hvr,hb2,hf2⟩
   have T:St (E.mks M) nt H2 β1 (putS tm o.dst (.iv r)) (upd bx g (some (.bld (.str s')))) (a1.put o.dst v) w2:=St.put ⟨S2.build (bx:=bx) (g:=g) (s:=.str s) (s':=.str s') rfl hbg hone hf2 hb2,hS1.defers,hS1.size⟩ hdo (r:=.iv r) (hvr H2)
   have:=list_on (rest:=[]) (Q:=Q) (ro:=ro.1) (E:=E.mks M) X.hT X.ok hI (all:=all) (K:=fun tm bx _=>K .normal ⟨tm,bx,σ.nx+all.size⟩) (fun H4 β4 tm bx log a4 w4 hk4 hS4=>hQ .normal _ M H4 β4 a4 w4 hk4 hS4) hd2 T hk
   rw[List.append_nil] at this;exact this
 · exact hk.elim
theorem CW.newBld{id:Nat}{o:Oper}{d:Nat}(hd:d<nt)(hdst:o.dst=some d)(hg:o.guard=none)(hop:o.op=.alloc bldT){i:TypeInfo}(hinfo:X.P.info? bldT=some i)(hz:i.zero=some (.agg #[.pointer none,.slice none 0 0]))
 (hb:σ.bx σ.nx=none) (h:K .normal ⟨upd σ.tm d (.ptr σ.nx 0),upd σ.bx σ.nx (some (.bld (.str []))),σ.nx+1⟩):CW X nt (.region id #[o] false) σ K:=by
 intro ro E Q hI hQ M H β a w hS
 refine wpIn_region_list ?_
 show wpListIn (FW ro.1) 0 X.P #[o] Q [o] a w
 unfold wpListIn
 simp only[Region.wanted,hg,if_true]
 refine op_in (fun c hc=>by rw[hop] at hc;cases hc) ?_
 have hS1:=hS.sim.newBlock hb (b:=.bld (.str [])) (cap:=0) (arr := #[.pointer none,.slice none 0 0]) (e:=bldT) (fun w' hw hn hlo=>⟨hlo,hn,.inl ⟨Nat.zero_le _,_,hw,⟨rfl,.inl ⟨rfl,rfl⟩⟩,by simp[Value.ownBlock]⟩,fun R hR=>by
  obtain⟨arr,n,cap,T,fr,e,e'⟩:=hR
  rw[hw] at e;simp at e;obtain⟨rfl,_⟩:=e;simp[Ow.j] at e'⟩) (fun s R w' es hw hR=>by
  obtain⟨arr,n,cap,T,fr,e,e'⟩:=hR
  cases es
  rw[hw] at e;simp at e;obtain⟨rfl,_⟩:=e;simp[Ow.j] at e')
 have hT:=St.put (H:=H) (a:=a) ⟨hS1,hS.defers,hS.size⟩ (dst:=o.dst) (fun d' hd'=>by rw[hdst] at hd';cases hd';exact hd) (r:=.ptr σ.nx 0) (v:=.pointer (some ⟨w.heap.size,0,none⟩)) ⟨by rw[upd_same];simp,by rw[upd_same]⟩
 have hrun:(execOp a.eval o).run X.P w=.ok (.value (.pointer (some ⟨w.heap.size,0,none⟩))) (w.alloc (.cells #[.pointer none,.slice none 0 0] bldT)):=by
  simp only[execOp,hop,Instr.alloc,Sem.run_bind,run_zeroV hinfo hz,Result.andThen_ok,newVar,newRow,run_newObj,Sem.run_pure];rfl
 unfold Oper.wp
 rw[hrun]
 show wpListIn (FW ro.1) 0 X.P #[o] Q [] (a.put o.dst _) _
 unfold wpListIn
 rw[hdst] at hT ⊢
 exact hQ .normal _ M H _ _ _ h hT
end
end Go.Proofs.Fl
namespace Go.Proofs.Fl
open Go.RowKit Go.Shelf
section
variable {P:Program}(w:World)
theorem run_append_bytes(base:Nat)(t u ty e:TypeId)(i:TypeInfo)(ht:P.underlying t=some (.slice e))(hu:P.underlying u=some .string)(hi:P.info? e=some i)(hz:i.zero=some (.int .u8 0))
 (hsize:i.size=1) (hby:i.bytes=1)
 (v:Value) (n:Nat) (xs:List Value) (hown:w.ownsRowF base e 1 v n xs) (s:ByteArray)
 (h63:n+s.size≤maxLen) (hbytes:n+s.size≤140737488355328) (hbase:base≤w.heap.size) :
 ∃v' w',(Builtin.append_ #[t,u] ty #[v,.string s]).run P w=.ok v' w'∧w'.ownsRowF base e 1 v' (n+s.size) (xs++Lib.strCells s)∧w.grownBy w' v.ownBlock∧(∀R,v'.ownBlock=some R→v.ownBlock=some R∨w.heap.size≤R):=by
 rcases hown.2 with⟨rfl,rfl⟩|⟨g,cap,cur,fz,rfl,hbg,hg,hfz,hnc,hcm,hcs,htake⟩
 · obtain⟨v',w',h1,h2,h3,h4⟩:=Lib.run_append_own_stringF (P:=P) w w.heap.size t u ty e i ht hu hi hz hsize hby (.slice none 0 0) 0 xs ⟨hown.1,.inl ⟨rfl,rfl⟩⟩ s h63 hbytes (Nat.le_refl _)
   refine⟨v',w',h1,⟨h2.1,?_⟩,h3,fun R hR=>?_⟩
   · rcases h2.2 with h|⟨g,cap,cur,fz,e1,e2,e3⟩
     · exact .inl h
     · exact .inr ⟨g,cap,cur,fz,e1,by omega,e3⟩
   · rcases h2.2 with⟨rfl,_⟩|⟨g,cap,cur,fz,rfl,e2,_⟩
     · cases hR
     · cases hR;exact .inr e2
 · have hxl:xs.length=n:=by simpa using hown.1
   have hlen:(xs++Lib.strCells s).length=(n+s.size)*1:=by rw[List.length_append,hxl,Lib.strCells_length,Nat.mul_one]
   by_cases hroom:n+s.size≤cap
   · have hcs':cur.size=cap:=by simpa using hcs
     have hr:=Lib.run_append_room_stringF (P:=P) w t u ty e i ht hu hi hsize g n cap cur fz hg (by simpa using hfz) s hroom (by omega)
     refine⟨_,_,hr,⟨hlen,.inr ⟨g,cap,_,fz,rfl,hbg,setRow_heap w g cur _ e _ hg,by omega,hroom,hcm,?_,?_⟩⟩,⟨rfl,rfl,rfl,by simp,fun k _ hk=>setRow_other w g k _ (fun e=>hk (by simp[Value.ownBlock,e]))⟩,fun R hR=>.inl hR⟩
     · simp only[List.size_toArray,List.length_append,List.length_take,List.length_drop,Array.length_toList,Lib.strCells_length]
       omega
     · have ht':cur.toList.take n=xs:=by simpa using htake
       rw[ht',←hlen]
       exact List.take_left
   · have holds:∀j u,xs[j]?=some u→w.cell? ((⟨g,0,none⟩:Addr).add j)=some u:=hown.cells (g:=g) rfl
     have hsmall:n+s.size≤9223372036854775807:=by simp only[maxLen] at h63;omega
     have hr:=Lib.run_append_grow_string (P:=P) w t u ty e i (.int .u8 0) ht hu hi hz ⟨g,0,none⟩ n cap xs (by rw[hsize];simpa using hxl) holds s (by omega) (by omega) (by rw[hby];exact growslice_fits (by omega) (by omega))
     have hge:=grownCap_ge w (n+s.size) cap e
     have hcm2:grownCap w (n+s.size) cap e≤maxLen:=grownCap_le_maxLen w (n+s.size) cap e h63
     refine⟨_,_,hr,⟨hlen,.inr ⟨w.heap.size,_,_,(0,0),rfl,hbase,heap_alloc_new w.drew _,Nat.zero_le _,hge,hcm2,?_,?_⟩⟩,⟨rfl,rfl,rfl,by simp,fun k hk _=>heap_alloc_old w.drew _ hk⟩,fun R hR=>?_⟩
     · have hz1:(Value.int IntKind.u8 0).cells.size=1:=rfl
       simp only[Array.size_append,List.size_toArray,size_zeroCells,hz1,hxl,Lib.strCells_length]
       omega
     · simp only[Array.toList_append,List.append_assoc]
       rw[←List.append_assoc,←hlen]
       exact List.take_left
     · have hR:some w.heap.size=some R:=hR
       cases hR;exact .inr (Nat.le_refl _)
theorem wpList_append_bytes{w:World}{ops:Array Oper}{rest:List Oper}{o:Oper}{a:Act}{Q:Exit→Act→World→Prop}(hgd:o.guard=none)(sl x:Operand)(t u:TypeId)
 (ho:o.op=.call { callee:=.builtin .append,args := #[sl,x],argTypes := #[t,u] })
 (base:Nat) (e:TypeId) (i:TypeInfo) (ht:P.underlying t=some (.slice e)) (hu:P.underlying u=some .string) (hi:P.info? e=some i) (hz:i.zero=some (.int .u8 0))
 (hsize:i.size=1) (hby:i.bytes=1)
 (v:Value) (n:Nat) (xs:List Value) (hs:a.eval sl=v) (hown:w.ownsRowF base e 1 v n xs) (s:ByteArray) (hx:a.eval x=.string s)
 (h63:n+s.size≤maxLen) (hbytes:n+s.size≤140737488355328) (hbase:base≤w.heap.size)
 (h:∀v' w',w'.ownsRowF base e 1 v' (n+s.size) (xs++Lib.strCells s)→w.grownBy w' v.ownBlock→(∀R,v'.ownBlock=some R→v.ownBlock=some R∨w.heap.size≤R)→wpList P ops Q rest (a.put o.dst v') w'):wpList P ops Q (o::rest) a w:=by
 refine wpList_plain hgd fun K hK=>?_
 obtain⟨v',w',hr,h2,h3,h4⟩:=run_append_bytes (P:=P) w base t u o.type e i ht hu hi hz hsize hby v n xs hown s h63 hbytes hbase
 unfold Oper.wp execOp
 simp only[ho,resolve,invoke,builtin,Sem.run_bind,Sem.run_pure,Result.andThen_ok,List.map_toArray,List.map_cons,List.map_nil,hs,hx,hr]
 exact hK _ _ (h v' w' h2 h3 h4)
end
theorem BldF.refl(j b:Nat)(w:World):BldF j b w w:=⟨rfl,rfl,rfl,Nat.le_refl _,fun _ _ _ _=>rfl,fun _ h=>.inl h⟩
theorem rowAt_own{w:World}{b R:Nat}{p v:Value}{T:TypeId}{fr:Nat×Nat}(hb:w.heap[b]?=some (.cells #[p,v] T fr))(hR:RowJ 1 w b R):v.ownBlock=some R:=by
 obtain⟨arr,n,cap,T',fr',e,e'⟩:=hR
 rw[hb] at e;simp at e
 obtain⟨rfl,_⟩:=e
 simp at e'
 rw[e'];rfl
theorem rowAt_of{w:World}{b R n cap:Nat}{p:Value}{T:TypeId}{fr:Nat×Nat}(hb:w.heap[b]?=some (.cells #[p,.slice (some ⟨R,0,none⟩) n cap] T fr)):RowJ 1 w b R:=⟨_,_,_,_,_,hb,rfl⟩
variable {P:Program}{ρ:Ren}
theorem copyCheck_b(L:Lays.n240 P ρ)(X:Builder.X72 P ρ)(B b:Nat)(bs:List Value)(w:World)(h:Lib.IsBuilderF (ρ.t 72) (ρ.t 5) B b bs w) :
 Calls P (ρ.f 240) #[.pointer (some ⟨b,0,none⟩)] w fun e w'=>e=.returned (.tuple #[])∧Lib.BuilderAtF (ρ.t 72) (ρ.t 5) B b (.pointer (some ⟨b,0,none⟩)) bs w'∧BldF 1 b w w'∧w'.heap.size=w.heap.size:=by
 rcases h with h|h
 · have hh:=h
   obtain⟨hB,v,hbk,hown,hne⟩:=hh
   refine(Any.Builder_copyCheck_fresh L X b w h.cell0 h.shape h.frozen0).mono ?_
   rintro e w' ⟨rfl,rfl⟩
   have hb2:(w.setCell ⟨b,0,none⟩ (.pointer (some ⟨b,0,none⟩))).heap[b]?=some (.cells #[.pointer (some ⟨b,0,none⟩),v] (ρ.t 72) (0,0)):=by simp[World.setCell,Array.getElem?_modify,hbk]
   refine⟨rfl,h.used _,⟨rfl,rfl,rfl,by simp[World.setCell],fun k _ hk _=>Below.heap_setCell _ _ _ _ hk,fun R hR=>?_⟩,by simp[World.setCell]⟩
   have:=rowAt_own hb2 hR
   rcases hown.2 with⟨rfl,_⟩|⟨g,cap,cur,fz,rfl,_⟩
   · cases this
   · cases this;exact .inl (rowAt_of hbk)
 · refine(Any.Builder_copyCheck_used L X b w h.cell0).mono ?_
   rintro e w' ⟨rfl,rfl⟩
   exact⟨rfl,h,BldF.refl _ _ _,rfl⟩
set_option maxHeartbeats 2000000 in
set_option maxRecDepth 100000 in
theorem writeString_b(L:Lays.n166 P ρ)(X:Builder.Extra P ρ)(B b:Nat)(bs:List Value)(s:ByteArray)(w:World)(h:Lib.IsBuilderF (ρ.t 72) (ρ.t 5) B b bs w)(hlen:bs.length+s.size≤140737488355328)(hBw:B≤w.heap.size) :
 Calls P (ρ.f 166) #[.pointer (some ⟨b,0,none⟩),.string s] w fun e w'=>e=.returned (.tuple #[.int .i64 s.size,.nilIface])∧Lib.BuilderAtF (ρ.t 72) (ρ.t 5) B b (.pointer (some ⟨b,0,none⟩)) (bs++Lib.strCells s) w'∧BldF 1 b w w':=by
 obtain⟨i0,hi,hz0,hz1,hz2⟩:=info_parts X.infoByte
 have mixed:=L.mixed
 have t72:=L.t72;have a72:=L.a72;have z72:=L.z72;have v72:=L.v72;have u72:=run_underlying L.t72
 have t70:=L.t70;have a70:=L.a70;have z70:=L.z70;have v70:=L.v70;have u70:=run_underlying L.t70
 have t37:=L.t37;have a37:=L.a37;have z37:=L.z37;have v37:=L.v37;have u37:=run_underlying L.t37
 have t3:=L.t3;have a3:=L.a3;have z3:=L.z3;have v3:=L.v3;have u3:=run_underlying L.t3
 have t9:=L.t9;have a9:=L.a9;have z9:=L.z9;have v9:=L.v9;have u9:=run_underlying L.t9
 have t4:=L.t4;have a4:=L.a4;have z4:=L.z4;have v4:=L.v4;have u4:=run_underlying L.t4
 have t164:=L.t164;have a164:=L.a164;have z164:=L.z164;have v164:=L.v164;have u164:=run_underlying L.t164
 have t5:=X.t5;have a5:=X.a5;have z5:=X.z5;have v5:=X.v5;have u5:=run_underlying X.t5
 have e240:∀args w,(callFunc (ρ.f 240) args).run P w=.ok (.enter (ρ.f 240) args) w:=enters_of L.f240 (by kernel_rfl) rfl
 obtain⟨p0,v0,hb0,hown0,_⟩:∃p v,w.heap[b]?=some (.cells #[p,v] (ρ.t 72) (0,0))∧w.ownsRowF B (ρ.t 5) 1 v bs.length bs∧v.ownBlock≠some b:=by
  rcases h with⟨_,v,h1,h2⟩|⟨_,v,h1,h2⟩
  · exact⟨_,v,h1,h2⟩
  · exact⟨_,v,h1,h2⟩
 go_enter L.f166,Body.n166_ntmps ρ
 go_wp2_with (go_at_fn (ρ.f 240);refine(copyCheck_b { L with } X.toX72 B b bs _ h).mono ?_)
 rintro e w1 ⟨rfl,h1,hf1,hs1⟩
 obtain⟨hB,v,hbk,hown,hne⟩:=h1
 have c0:w1.cell? ⟨b,0,none⟩=some (.pointer (some ⟨b,0,none⟩)):=by rw[Lib.cell_of_heap hbk];rfl
 have c1:w1.cell? ⟨b,1,none⟩=some v:=by rw[Lib.cell_of_heap hbk];rfl
 go_wp2_with (at_builtin;refine wpList_append_bytes rfl _ _ (ρ.t 37) (ρ.t 9) rfl B (ρ.t 5) i0 L.t37 L.t9 hi hz0 hz1 hz2 _ _ _ rfl hown s rfl ?c3 ?c4 ?c5 ?_)
 case c3=>unfold maxLen;omega
 case c4=>omega
 case c5=>rw[hs1];exact hBw
 intro v' w2 hown' hgrow hrow'
 have hlt:b<w1.heap.size:=by
  rcases Nat.lt_or_ge b w1.heap.size with h'|h'
  · exact h'
  · simp[Array.getElem?_eq_none h'] at hbk
 have hb2:w2.heap[b]?=some (.cells #[.pointer (some ⟨b,0,none⟩),v] (ρ.t 72) (0,0)):=by
  rw[hgrow.block b hlt (fun e=>hne e.symm)]
  exact hbk
 have d0:w2.cell? ⟨b,0,none⟩=some (.pointer (some ⟨b,0,none⟩)):=by rw[Lib.cell_of_heap hb2];rfl
 have d1:w2.cell? ⟨b,1,none⟩=some v:=by rw[Lib.cell_of_heap hb2];rfl
 have f1:w2.frozen? ⟨b,1,none⟩=false:=Lib.frozen_of_heap hb2 1
 obtain⟨ao,n',cap,rfl⟩:∃ao n' cap,v'=.slice ao n' cap:=by
  rcases hown'.2 with⟨hv,_⟩|⟨g,cap,cur,fz,hv,_⟩
  · exact⟨_,_,_,hv⟩
  · exact⟨_,_,_,hv⟩
 have hrw:∀R,v.ownBlock=some R→RowJ 1 w1 b R:=fun R hR=>by
  rcases hown.2 with⟨rfl,_⟩|⟨g,cap,cur,fz,rfl,_⟩
  · cases hR
  · cases hR;exact rowAt_of hbk
 go_wp2
 go_ret2
 refine⟨rfl,Lib.BuilderAtF.put (T:=(ρ.t 72)) (e:=(ρ.t 5)) hB hb2 (bs':=bs++Lib.strCells s) (by simpa[Lib.strCells_length] using hown') X.neB5,?_⟩
 have hb3:(w2.setCell ⟨b,1,none⟩ (.slice ao n' cap)).heap[b]?=some (.cells #[.pointer (some ⟨b,0,none⟩),.slice ao n' cap] (ρ.t 72) (0,0)):=by simp[World.setCell,Array.getElem?_modify,hb2]
 refine⟨?_,?_,?_,?_,fun k hk hkb hkr=>?_,fun R hR=>?_⟩
 · exact hgrow.os.trans hf1.os
 · exact hgrow.tape.trans hf1.tape
 · exact hgrow.output.trans hf1.output
 · have:=hgrow.size;simp[World.setCell];omega
 · refine(Below.heap_setCell _ _ _ _ hkb).trans ((hgrow.block k (by omega) (fun e=>?_)).trans (hf1.block k hk hkb hkr))
   exact hkr (((hf1.row k (hrw k e.symm))).resolve_right (by omega))
 · rcases hrow' R (rowAt_own hb3 hR) with h2|h2
   · exact hf1.row R (hrw R h2)
   · exact .inr (by omega)
set_option maxHeartbeats 1000000 in
set_option maxRecDepth 100000 in
theorem string_b(L:Lays.n169 P ρ)(X:Builder.Extra P ρ)(B b:Nat)(l:List UInt8)(w:World)(h:Lib.IsBuilderF (ρ.t 72) (ρ.t 5) B b (Lib.byteCells l) w)(h0:l≠[]) :
 Calls P (ρ.f 169) #[.pointer (some ⟨b,0,none⟩)] w fun e w'=>e=.returned (.string ⟨l.toArray⟩)∧Lib.IsBuilderF (ρ.t 72) (ρ.t 5) B b (Lib.byteCells l) w'∧BldF 1 b w w':=by
 obtain⟨p,hp,hAt⟩:∃p,(p=.pointer none∨p=.pointer (some ⟨b,0,none⟩))∧Lib.BuilderAtF (ρ.t 72) (ρ.t 5) B b p (Lib.byteCells l) w:=by
  rcases h with h|h
  · exact⟨_,.inl rfl,h⟩
  · exact⟨_,.inr rfl,h⟩
 obtain⟨hB,v,hbk,hown,hne⟩:=hAt
 have hl0:l.length≠0:=by simpa using h0
 rw[Lib.byteCells_length] at hown
 obtain⟨g,cap,cur,fz,rfl,hbg,hg,hfz,hnc,hcm,hcs,htake⟩:∃g cap cur fz,v=.slice (some ⟨g,0,none⟩) l.length cap∧B≤g∧w.heap[g]?=some (.cells cur (ρ.t 5) fz)∧fz.2≤l.length*1∧l.length≤cap∧cap≤maxLen∧cur.size=cap*1∧cur.toList.take (l.length*1)=Lib.byteCells l:=by
  rcases hown.2 with⟨_,hz⟩|⟨g,cap,cur,fz,hv,r⟩
  · exact absurd hz hl0
  · exact⟨g,cap,cur,fz,hv,r⟩
 have c1:w.drew.cell? ⟨b,1,none⟩=some (.slice (some ⟨g,0,none⟩) l.length cap):=by
  have:w.drew.heap[b]?=some (.cells #[p,.slice (some ⟨g,0,none⟩) l.length cap] (ρ.t 72) (0,0)):=hbk
  rw[Lib.cell_of_heap this];rfl
 have hSD:(Builtin.unsafeSliceData_ #[(ρ.t 37)] (ρ.t 127) #[.slice (some ⟨g,0,none⟩) l.length cap]).run P w.drew=.ok (.pointer (some ⟨g,0,none⟩)) w.drew :=
  Lib.run_unsafeSliceData_row _ _ _ _ _ _ (by omega)
 have hUS:(Builtin.unsafeString_ #[(ρ.t 127),(ρ.t 3)] (ρ.t 9) #[.pointer (some ⟨g,0,none⟩),.int .i64 l.length]).run P w.drew=.ok (.string ⟨l.toArray⟩) (w.drew.freeze ⟨g,0,none⟩ l.length):=by
  refine Lib.run_unsafeString_row w.drew (ρ.t 127) (ρ.t 3) (ρ.t 9) (ρ.t 5) L.t127 X.cellsByte g cur.size (by have hg':w.drew.heap[g]?=some (.cells cur (ρ.t 5) fz):=hg;simp[World.shape?,hg']) l h0 (by omega) (by unfold maxLen at hcm;omega) ?_
  intro j x hx
  have:=hown.cells (g:=g) rfl j (.int .u8 x.toNat) (by simp[Lib.byteCells,hx])
  exact this
 have hkeep:Lib.IsBuilderF (ρ.t 72) (ρ.t 5) B b (Lib.byteCells l) (w.drew.freeze ⟨g,0,none⟩ l.length):=by
  have hA:Lib.BuilderAtF (ρ.t 72) (ρ.t 5) B b p (Lib.byteCells l) w.drew:=⟨hB,_,hbk,by rw[Lib.byteCells_length];exact hown,hne⟩
  have hF:=hA.froze (g:=g) (cap:=cap) (by rw[Lib.byteCells_length];exact c1)
  rw[Lib.byteCells_length] at hF
  rcases hp with rfl|rfl
  · exact .inl hF
  · exact .inr hF
 have hgb:b≠g:=fun e=>hne (by simp[Value.ownBlock,e])
 have hother:∀k,k≠g→(w.drew.freeze ⟨g,0,none⟩ l.length).heap[k]?=w.heap[k]?:=fun k hk=>by
  unfold World.freeze
  rw[if_neg hl0]
  simp only[Array.getElem?_modify]
  rw[if_neg (fun e=>hk e.symm)]
  rfl
 have hframe:BldF 1 b w (w.drew.freeze ⟨g,0,none⟩ l.length):=by
  refine⟨?_,?_,?_,?_,fun k _ _ hkr=>hother k (fun e=>hkr (e▸rowAt_of hbk)),fun R ⟨arr,n,cap,T,fr,e,e'⟩=>.inl ⟨arr,n,cap,T,fr,(hother b hgb).symm.trans e,e'⟩⟩
  · unfold World.freeze;rw[if_neg hl0];rfl
  · unfold World.freeze;rw[if_neg hl0];rfl
  · unfold World.freeze;rw[if_neg hl0];rfl
  · unfold World.freeze;rw[if_neg hl0];show w.heap.size≤(Array.modify w.heap g _).size;rw[Array.size_modify];exact Nat.le_refl _
 have mixed:=L.mixed
 have t72:=L.t72;have a72:=L.a72;have z72:=L.z72;have v72:=L.v72;have u72:=run_underlying L.t72
 have t70:=L.t70;have a70:=L.a70;have z70:=L.z70;have v70:=L.v70;have u70:=run_underlying L.t70
 have t37:=L.t37;have a37:=L.a37;have z37:=L.z37;have v37:=L.v37;have u37:=run_underlying L.t37
 have t127:=L.t127;have a127:=L.a127;have z127:=L.z127;have v127:=L.v127;have u127:=run_underlying L.t127
 have t3:=L.t3;have a3:=L.a3;have z3:=L.z3;have v3:=L.v3;have u3:=run_underlying L.t3
 have t9:=L.t9;have a9:=L.a9;have z9:=L.z9;have v9:=L.v9;have u9:=run_underlying L.t9
 have t5:=X.t5;have a5:=X.a5;have z5:=X.z5;have v5:=X.v5;have u5:=run_underlying X.t5
 go_enter L.f169,Body.n169_ntmps ρ
 go_wp2
 go_region_o
 all_goals (go_wp2;go_ret;exact⟨rfl,hkeep,hframe⟩)
end Go.Proofs.Fl
namespace Go.Proofs
open Go.Shelf
def Tryz.lays125_ren:Go.Shelf.Ren:=⟨fun|125=>280|128=>315|129=>316|n=>n,fun|46=>360|3=>3|51=>269|53=>266|4=>4|5=>5|9=>9|n=>n,fun|n=>n⟩
theorem Tryz.lays125:Go.Proofs.Lays.n125 Tryz.prog Tryz.lays125_ren:={
 mixed:=by kernel_rfl
 f125:=Tryz.func280.trans (congrArg some (by kernel_rfl))
 f128:=Tryz.func315.trans (congrArg some (by kernel_rfl))
 f129:=Tryz.func316.trans (congrArg some (by kernel_rfl))
 t3:=Tryz.underlying3
 a3:=Tryz.isAgg3
 z3:=Tryz.sizeOf3
 v3:=Tryz.zeroValue3
 t4:=Tryz.underlying4
 a4:=Tryz.isAgg4
 z4:=Tryz.sizeOf4
 v4:=Tryz.zeroValue4
 t5:=Tryz.underlying5
 a5:=Tryz.isAgg5
 z5:=Tryz.sizeOf5
 v5:=Tryz.zeroValue5
 t9:=Tryz.underlying9
 a9:=Tryz.isAgg9
 z9:=Tryz.sizeOf9
 v9:=Tryz.zeroValue9
 t46:=Tryz.underlying360
 a46:=Tryz.isAgg360
 z46:=Tryz.sizeOf360
 v46:=Tryz.zeroValue360
 t51:=Tryz.underlying269
 a51:=Tryz.isAgg269
 z51:=Tryz.sizeOf269
 v51:=Tryz.zeroValue269
 t53:=Tryz.underlying266
 a53:=Tryz.isAgg266
 z53:=Tryz.sizeOf266
 v53:=Tryz.zeroValue266 }
theorem Tryz.bits_Len(x:Int)(w:World)(h0:0≤x)(h1:x≤18446744073709551615) :
 Calls Tryz.prog 280 #[.int .u64 x] w fun e w'=>e=.returned (.int .i64 (Lib.bitLen x.toNat))∧w'=w:=Any.bits_Len Tryz.lays125 x w h0 h1
def Tryz.laysM246_ren:Go.Shelf.Ren:=⟨fun|246=>327|283=>350|284=>351|285=>352|286=>353|129=>316|317=>360|318=>361|319=>362|320=>363|337=>365|338=>366|n=>n,fun|2=>2|3=>3|9=>9|4=>4|171=>416|0=>0|53=>266|37=>318|5=>5|173=>418|212=>429|51=>269|20=>20|213=>430|46=>360|232=>432|233=>433|n=>n,fun|17=>0|18=>2|19=>3|n=>n⟩
def Tryz.laysM243_ren:Go.Shelf.Ren:=⟨fun|243=>291|246=>327|283=>350|284=>351|285=>352|286=>353|129=>316|317=>360|318=>361|319=>362|320=>363|337=>365|338=>366|n=>n,fun|3=>3|9=>9|2=>2|4=>4|171=>416|0=>0|53=>266|37=>318|5=>5|173=>418|212=>429|51=>269|20=>20|213=>430|46=>360|232=>432|233=>433|n=>n,fun|17=>0|18=>2|19=>3|n=>n⟩
def Tryz.laysM171_ren:Go.Shelf.Ren:=⟨fun|171=>245|243=>291|246=>327|283=>350|284=>351|285=>352|286=>353|129=>316|317=>360|318=>361|319=>362|320=>363|337=>365|338=>366|n=>n,fun|3=>3|9=>9|2=>2|4=>4|171=>416|0=>0|53=>266|37=>318|5=>5|173=>418|212=>429|51=>269|20=>20|213=>430|46=>360|232=>432|233=>433|n=>n,fun|17=>0|18=>2|19=>3|n=>n⟩
theorem Tryz.laysM171:Go.Proofs.LaysM.n171 Tryz.prog Tryz.laysM171_ren:={
 mixed:=by kernel_rfl
 f129:=Tryz.func316.trans (congrArg some (by kernel_rfl))
 f171:=Tryz.func245.trans (congrArg some (by kernel_rfl))
 f243:=Tryz.func291.trans (congrArg some (by kernel_rfl))
 f246:=Tryz.func327.trans (congrArg some (by kernel_rfl))
 f283:=Tryz.func350.trans (congrArg some (by kernel_rfl))
 f284:=Tryz.func351.trans (congrArg some (by kernel_rfl))
 f285:=Tryz.func352.trans (congrArg some (by kernel_rfl))
 f286:=Tryz.func353.trans (congrArg some (by kernel_rfl))
 f317:=Tryz.func360.trans (congrArg some (by kernel_rfl))
 f318:=Tryz.func361.trans (congrArg some (by kernel_rfl))
 f319:=Tryz.func362.trans (congrArg some (by kernel_rfl))
 f320:=Tryz.func363.trans (congrArg some (by kernel_rfl))
 f337:=Tryz.func365.trans (congrArg some (by kernel_rfl))
 f338:=Tryz.func366.trans (congrArg some (by kernel_rfl))
 t0:=Tryz.underlying0
 a0:=Tryz.isAgg0
 z0:=Tryz.sizeOf0
 v0:=Tryz.zeroValue0
 t2:=Tryz.underlying2
 a2:=Tryz.isAgg2
 z2:=Tryz.sizeOf2
 v2:=Tryz.zeroValue2
 t3:=Tryz.underlying3
 a3:=Tryz.isAgg3
 z3:=Tryz.sizeOf3
 v3:=Tryz.zeroValue3
 t4:=Tryz.underlying4
 a4:=Tryz.isAgg4
 z4:=Tryz.sizeOf4
 v4:=Tryz.zeroValue4
 t5:=Tryz.underlying5
 a5:=Tryz.isAgg5
 z5:=Tryz.sizeOf5
 v5:=Tryz.zeroValue5
 t9:=Tryz.underlying9
 a9:=Tryz.isAgg9
 z9:=Tryz.sizeOf9
 v9:=Tryz.zeroValue9
 t20:=Tryz.underlying20
 a20:=Tryz.isAgg20
 z20:=Tryz.sizeOf20
 v20:=Tryz.zeroValue20
 t37:=Tryz.underlying318
 a37:=Tryz.isAgg318
 z37:=Tryz.sizeOf318
 v37:=Tryz.zeroValue318
 t46:=Tryz.underlying360
 a46:=Tryz.isAgg360
 z46:=Tryz.sizeOf360
 v46:=Tryz.zeroValue360
 t51:=Tryz.underlying269
 a51:=Tryz.isAgg269
 z51:=Tryz.sizeOf269
 v51:=Tryz.zeroValue269
 t53:=Tryz.underlying266
 a53:=Tryz.isAgg266
 z53:=Tryz.sizeOf266
 v53:=Tryz.zeroValue266
 t171:=Tryz.underlying416
 a171:=Tryz.isAgg416
 z171:=Tryz.sizeOf416
 v171:=Tryz.zeroValue416
 t173:=Tryz.underlying418
 a173:=Tryz.isAgg418
 z173:=Tryz.sizeOf418
 v173:=Tryz.zeroValue418
 t212:=Tryz.underlying429
 a212:=Tryz.isAgg429
 z212:=Tryz.sizeOf429
 v212:=Tryz.zeroValue429
 t213:=Tryz.underlying430
 a213:=Tryz.isAgg430
 z213:=Tryz.sizeOf430
 t232:=Tryz.underlying432
 a232:=Tryz.isAgg432
 z232:=Tryz.sizeOf432
 v232:=Tryz.zeroValue432
 t233:=Tryz.underlying433
 a233:=Tryz.isAgg433
 z233:=Tryz.sizeOf433
 v233:=Tryz.zeroValue433
 g17:=by kernel_rfl
 g18:=by kernel_rfl
 g19:=by kernel_rfl
 i0:=by kernel_rfl
 i2:=by kernel_rfl
 i3:=by kernel_rfl
 i4:=by kernel_rfl
 i5:=by kernel_rfl
 i9:=by kernel_rfl
 i20:=by kernel_rfl
 i37:=by kernel_rfl
 i46:=by kernel_rfl
 i51:=by kernel_rfl
 i53:=by kernel_rfl
 i171:=by kernel_rfl
 i173:=by kernel_rfl
 i212:=by kernel_rfl
 i232:=by kernel_rfl
 i233:=by kernel_rfl
 m17:=by kernel_rfl
 m18:=by kernel_rfl
 m19:=by kernel_rfl }
open Go.RowKit Go.Sort Go.Lib in
theorem Tryz.strconv_Itoa(n:Int)(h0 : -9223372036854775808≤n)(h1:n≤9223372036854775807)(w:World)(htab:Lib.TabIs Tryz.prog w "internal/strconv.uint64pow10" .u64 Lib.pow10Tab) :
 Calls Tryz.prog 245 #[.int .i64 n] w fun e w'=>e=.returned (.string ⟨(Lib.itoa n).toArray⟩)∧∃k os,w'=grow (w.drewN k) os:=Any.strconv_Itoa Tryz.laysM171 n h0 h1 w htab
def Tryz.lays105_ren:Go.Shelf.Ren:=⟨fun|105=>247|212=>293|99=>294|165=>295|166=>246|170=>296|169=>248|263=>329|264=>330|206=>331|240=>292|241=>332|276=>328|277=>354|n=>n,fun|9=>9|3=>3|4=>4|20=>20|0=>0|46=>360|109=>368|5=>5|72=>320|76=>327|51=>269|146=>399|53=>266|148=>401|70=>317|37=>318|75=>326|127=>372|164=>397|80=>176|n=>n,fun|n=>n⟩
theorem Tryz.lays105:Go.Proofs.Lays.n105 Tryz.prog Tryz.lays105_ren:={
 mixed:=by kernel_rfl
 f99:=Tryz.func294.trans (congrArg some (by kernel_rfl))
 f105:=Tryz.func247.trans (congrArg some (by kernel_rfl))
 f165:=Tryz.func295.trans (congrArg some (by kernel_rfl))
 f166:=Tryz.func246.trans (congrArg some (by kernel_rfl))
 f169:=Tryz.func248.trans (congrArg some (by kernel_rfl))
 f170:=Tryz.func296.trans (congrArg some (by kernel_rfl))
 f206:=Tryz.func331.trans (congrArg some (by kernel_rfl))
 f212:=Tryz.func293.trans (congrArg some (by kernel_rfl))
 f240:=Tryz.func292.trans (congrArg some (by kernel_rfl))
 f241:=Tryz.func332.trans (congrArg some (by kernel_rfl))
 f263:=Tryz.func329.trans (congrArg some (by kernel_rfl))
 f264:=Tryz.func330.trans (congrArg some (by kernel_rfl))
 f276:=Tryz.func328.trans (congrArg some (by kernel_rfl))
 f277:=Tryz.func354.trans (congrArg some (by kernel_rfl))
 t0:=Tryz.underlying0
 a0:=Tryz.isAgg0
 z0:=Tryz.sizeOf0
 v0:=Tryz.zeroValue0
 t3:=Tryz.underlying3
 a3:=Tryz.isAgg3
 z3:=Tryz.sizeOf3
 v3:=Tryz.zeroValue3
 t4:=Tryz.underlying4
 a4:=Tryz.isAgg4
 z4:=Tryz.sizeOf4
 v4:=Tryz.zeroValue4
 t5:=Tryz.underlying5
 a5:=Tryz.isAgg5
 z5:=Tryz.sizeOf5
 v5:=Tryz.zeroValue5
 t9:=Tryz.underlying9
 a9:=Tryz.isAgg9
 z9:=Tryz.sizeOf9
 v9:=Tryz.zeroValue9
 t20:=Tryz.underlying20
 a20:=Tryz.isAgg20
 z20:=Tryz.sizeOf20
 v20:=Tryz.zeroValue20
 t37:=Tryz.underlying318
 a37:=Tryz.isAgg318
 z37:=Tryz.sizeOf318
 v37:=Tryz.zeroValue318
 t46:=Tryz.underlying360
 a46:=Tryz.isAgg360
 z46:=Tryz.sizeOf360
 v46:=Tryz.zeroValue360
 t51:=Tryz.underlying269
 a51:=Tryz.isAgg269
 z51:=Tryz.sizeOf269
 v51:=Tryz.zeroValue269
 t53:=Tryz.underlying266
 a53:=Tryz.isAgg266
 z53:=Tryz.sizeOf266
 v53:=Tryz.zeroValue266
 t70:=Tryz.underlying317
 a70:=Tryz.isAgg317
 z70:=Tryz.sizeOf317
 v70:=Tryz.zeroValue317
 t72:=Tryz.underlying320
 a72:=Tryz.isAgg320
 z72:=Tryz.sizeOf320
 v72:=Tryz.zeroValue320
 t75:=Tryz.underlying326
 a75:=Tryz.isAgg326
 z75:=Tryz.sizeOf326
 v75:=Tryz.zeroValue326
 t76:=Tryz.underlying327
 a76:=Tryz.isAgg327
 z76:=Tryz.sizeOf327
 v76:=Tryz.zeroValue327
 t109:=Tryz.underlying368
 a109:=Tryz.isAgg368
 z109:=Tryz.sizeOf368
 v109:=Tryz.zeroValue368
 t127:=Tryz.underlying372
 a127:=Tryz.isAgg372
 z127:=Tryz.sizeOf372
 v127:=Tryz.zeroValue372
 t146:=Tryz.underlying399
 a146:=Tryz.isAgg399
 z146:=Tryz.sizeOf399
 v146:=Tryz.zeroValue399
 t148:=Tryz.underlying401
 a148:=Tryz.isAgg401
 z148:=Tryz.sizeOf401
 v148:=Tryz.zeroValue401
 t164:=Tryz.underlying397
 a164:=Tryz.isAgg397
 z164:=Tryz.sizeOf397
 v164:=Tryz.zeroValue397 }
theorem Tryz.Builder_Extra_105:Builder.Extra Tryz.prog Tryz.lays105_ren:={
 sizeBuilder:=by kernel_rfl
 liesBuilder:=by kernel_rfl
 t5:=Tryz.underlying5
 a5:=Tryz.isAgg5
 z5:=Tryz.sizeOf5
 v5:=Tryz.zeroValue5
 infoByte:=by kernel_rfl
 cellsByte:=by kernel_rfl
 sizeByte:=by kernel_rfl
 neB5:=by decide }
open Go.RowKit Go.Lib in
theorem Tryz.strings_Repeat(s:ByteArray)(c:Nat)(w:World)(hc:c≤9223372036854775807)(hlen:s.size*c≤140737488355328) :
 Calls Tryz.prog 247 #[.string s,.int .i64 c] w fun e w'=>e=.returned (.string ⟨(Lib.repeatL s.data.toList c).toArray⟩)∧Below w.heap.size w w':=Any.strings_Repeat Tryz.lays105 Tryz.Builder_Extra_105 s c w hc hlen
end Go.Proofs
namespace Go.Proofs.Fl
open Go.RowKit Go.Shelf
theorem VRL.one{H:Heap}{args:List Value}{x:IV}(h:VRL H args [x]):∃v,args=[v]∧VR H v x:=by
 cases h with|cons v _ vs _ h t=>cases t;exact⟨v,rfl,h⟩
theorem VRL.two{H:Heap}{args:List Value}{x y:IV}(h:VRL H args [x,y]):∃u v,args=[u,v]∧VR H u x∧VR H v y:=by
 cases h with|cons u _ us _ h t=>obtain⟨v,rfl,hv⟩:=t.one;exact⟨u,v,rfl,h,hv⟩
theorem strSize(s:ByteArray):s.size=s.data.toList.length:=Lib.size_eq s
theorem pure_lib{J:Keep}{f:FuncId}{xs:List IV}{r:IV}(hf:∃fn,Tryz.prog.funcs[f]?=some fn∧(fn.name == "runtime.NumGoroutine")=false∧fn.body.isNone=false)
 (h:∀(H:Heap) (w:World) (args:List Value),J.I w→VRL H args xs→Calls Tryz.prog f args.toArray w fun e w'=>∃v,e=.returned v∧(∀H,VR H v r)∧Below w.heap.size w w'):C J f xs r:=by
 refine⟨hf,fun H w args hI hH hargs=>(h H w args hI hargs).mono ?_⟩
 rintro e w' ⟨v,rfl,hv,hb⟩
 refine⟨v,H,rfl,fun b arr hb'=>?_,HExt.refl _ _,hv H,hb⟩
 obtain⟨t,fr,ht⟩:=hH b arr hb'
 exact⟨t,fr,(hb.block b (hH.lt hb')).trans ht⟩
theorem below_grow(w:World)(k:Nat)(os:Array Obj):Below w.heap.size w (Go.Sort.grow (w.drewN k) os):=by
 refine⟨rfl,rfl,rfl,?_,fun j hj=>?_⟩
 · simp[Go.Sort.grow,World.drewN]
 · simp[Go.Sort.grow,World.drewN,Array.getElem?_append,hj]
theorem f158_ok(J:Keep){s:List UInt8}{c:Nat}(hc:s.length*c≤140737488355328)(hc2:c≤9223372036854775807):C J 247 [.str s,.int .i64 (c:Nat)] (.str (Lib.repeatL s c)):=by
 refine pure_lib ⟨_,Tryz.func247,rfl,rfl⟩ fun H w args hI hargs=>?_
 obtain⟨u,v,rfl,hu,hv⟩:=hargs.two
 obtain⟨s,rfl,rfl⟩:=VR.asStr hu
 rw[VR.asInt hv]
 refine(Tryz.strings_Repeat s c w hc2 (by rw[strSize];exact hc)).mono ?_
 rintro e w' ⟨rfl,hb⟩
 exact⟨_,rfl,fun H=>.str _ _ (by simp),hb⟩
structure LibI(J:Keep):Prop where
 pow10:∀w,J.I w→Lib.TabIs Tryz.prog w "internal/strconv.uint64pow10" .u64 Lib.pow10Tab
theorem f198_ok{J:Keep}(L:LibI J){n:Int}(h0 : -9223372036854775808≤n)(h1:n≤9223372036854775807):C J 245 [.int .i64 n] (.str (Lib.itoa n)):=by
 refine pure_lib ⟨_,Tryz.func245,rfl,rfl⟩ fun H w args hI hargs=>?_
 obtain⟨u,rfl,hu⟩:=hargs.one
 rw[VR.asInt hu]
 refine(Tryz.strconv_Itoa n h0 h1 w (L.pow10 w hI)).mono ?_
 rintro e w' ⟨rfl,k,os,rfl⟩
 exact⟨_,rfl,fun H=>.str _ _ (by simp),below_grow _ _ _⟩
theorem byteCells_append(a b:List UInt8):Lib.byteCells (a++b)=Lib.byteCells a++Lib.byteCells b:=by simp[Lib.byteCells]
theorem strCells_eq(s:ByteArray):Lib.strCells s=Lib.byteCells s.data.toList:=by
 simp[Lib.strCells,Lib.byteCells]
theorem bld199{s t:List UInt8}(hl:s.length+t.length≤140737488355328):BldC Tryz.prog 246 s [.str t] (s++t) (.tup [.int .i64 (t.length:Nat),.nil 0]):=by
 refine⟨⟨_,Tryz.func246,rfl,rfl⟩,fun H w b args hargs hb=>?_⟩
 obtain⟨u,rfl,hu⟩:=hargs.one
 obtain⟨t,rfl,rfl⟩:=VR.asStr hu
 refine(writeString_b { Tryz.lays105 with } Tryz.Builder_Extra_105 0 b (Lib.byteCells s) t w hb (by rw[Lib.byteCells_length,strSize];exact hl) (Nat.zero_le _)).mono ?_
 rintro e w' ⟨rfl,h1,h2⟩
 refine⟨_,rfl,fun H=>.tup [_,_] _ (.cons _ _ _ _ ?_ (.cons _ _ _ _ .nilI .nil)),.inr ?_,h2⟩
 · rw[strSize];exact .int _ _
 · rw[byteCells_append,←strCells_eq];exact h1
theorem bld200{s:List UInt8}(hs:s≠[]):BldC Tryz.prog 248 s [] s (.str s):=by
 refine⟨⟨_,Tryz.func248,rfl,rfl⟩,fun H w b args hargs hb=>?_⟩
 cases hargs
 refine(string_b { Tryz.lays105 with } Tryz.Builder_Extra_105 0 b s w hb hs).mono ?_
 rintro e w' ⟨rfl,h1,h2⟩
 exact⟨_,rfl,fun H=>.str _ _ (by simp),h1,h2⟩
section
variable {J:Keep}{nt:Nat}{σ:AS}{K:Exit→AS→Prop}
theorem W.build(n:Nat){id:Nat}{all:Array Oper}{o:Oper}{fo p:Operand}{args:List Operand}{ats:Array TypeId}(ho:all.toList[n]?=some o)(hd:dstsOk nt all.toList=true)(hg:o.guard=none)(hop:o.op=.call { callee:=.value fo,args:=(p::args).toArray,argTypes:=ats })
 (h:opsP TT (cx J).C all (all.toList.take n) σ.nx σ.tm σ.bx [] fun tm bx _=>match evS tm fo,evS tm p,toIs bx (evS tm) args with
   | .iv (.fn f),.ptr g 0,some (xs,[])=>∃s s' r,bx g=some (.bld (.str s))∧(∀g' s',bx g'=some (.bld s')→g'=g)∧BldC Tryz.prog f s xs s' r∧
    opsP TT (cx J).C all (all.toList.drop (n+1)) (σ.nx+n+1) (putS tm o.dst (.iv r)) (upd bx g (some (.bld (.str s')))) [] fun tm bx _=>K .normal ⟨tm,bx,σ.nx+all.size⟩
   |_,_,_=>False):W J nt (.region id all false) σ K:=by
 unfold W
 exact CW.build (X:=cx J) n ho hd hg hop h
theorem W.newBld{id:Nat}{o:Oper}{d:Nat}(hd:Nat.blt d nt=true)(hdst:o.dst=some d)(hg:o.guard=none)(hop:o.op=.alloc bldT)
 (hb:σ.bx σ.nx=none) (h:K .normal ⟨upd σ.tm d (.ptr σ.nx 0),upd σ.bx σ.nx (some (.bld (.str []))),σ.nx+1⟩):W J nt (.region id #[o] false) σ K:=by
 unfold W
 exact CW.newBld (X:=cx J) ((by simpa[Nat.blt_eq] using hd)) hdst hg hop (i:=(Tryz.prog.info? bldT).getD default) (by kernel_rfl) (by kernel_rfl) hb h
end
end Go.Proofs.Fl
namespace Go.Proofs.Fl
open Go.RowKit
attribute [local irreducible] IntKind.wrap PureC MutC MakC IterC
theorem f163_ok(J:Keep)(ds:List IV):C J 165 [.agg [.sl ds]] (.bool ((ds.length:Int)==0)):=by
 refine fn_ok Tryz.func165 rfl rfl rfl ?_
 repeat (((first|refine W.RS (by kernel_rfl) ?_|refine W.ret ?_|refine⟨_,rfl,?_⟩|refine⟨rfl,?_⟩);conv=>whnf))
 rfl
theorem f222_ok(J:Keep)(a:Int):C J 265 [.int .i64 a] (.bool false):=by
 refine fn_ok Tryz.func265 rfl rfl rfl ?_
 repeat (((first|refine W.RS (by kernel_rfl) ?_|refine W.ret ?_|refine⟨false,bne_eq_false_iff_eq.2 (by omega),?_⟩|refine⟨rfl,?_⟩);conv=>whnf))
 simp[oneOf]
theorem f223_ok(J:Keep)(a:Int):C J 266 [.int .u32 a] (.bool false):=by
 refine fn_ok Tryz.func266 rfl rfl rfl ?_
 repeat (((first|refine W.RS (by kernel_rfl) ?_|refine W.ret ?_|refine⟨false,bne_eq_false_iff_eq.2 (by omega),?_⟩|refine⟨rfl,?_⟩);conv=>whnf))
 simp[oneOf]
def cmpI(a b:Int):Int:=if a<b then -1 else if b<a then 1 else 0
theorem f190_ok(J:Keep)(a b:Int):C J 200 [.int .i64 a,.int .i64 b] (.int .i64 (cmpI a b)):=by
 refine fn_ok Tryz.func200 rfl rfl rfl ?_
 repeat (first|((first|refine W.RS (by kernel_rfl) ?_|refine W.skip ?_|refine⟨_,f222_ok _ _,?_⟩|refine⟨_,rfl,?_⟩|refine⟨rfl,?_⟩);conv=>whnf)|(refine W.S ?_)|(refine W.condF rfl ?_))
 refine W.cond rfl (fun h=>?_) (fun h=>?_)
 · have h:=of_decide_eq_true h
   repeat (((first|refine W.RS (by kernel_rfl) ?_|refine W.ret ?_);conv=>whnf))
   simp[oneOf,cmpI,h]
 · have h:=of_decide_eq_false h
   repeat (first|((first|refine W.RS (by kernel_rfl) ?_|refine W.skip ?_|refine⟨_,rfl,?_⟩|refine⟨rfl,?_⟩);conv=>whnf)|(refine W.S ?_))
   refine W.cond rfl (fun h=>?_) (fun h=>?_)
   · have h2:=of_decide_eq_true h
     repeat (((first|refine W.RS (by kernel_rfl) ?_|refine W.ret ?_);conv=>whnf))
     simp[oneOf,cmpI];omega
   · have h2:=of_decide_eq_false h
     repeat (((first|refine W.RS (by kernel_rfl) ?_|refine W.ret ?_|refine W.skip ?_);conv=>whnf))
     simp[oneOf,cmpI];omega
end Go.Proofs.Fl
namespace Go.Proofs.Dig
def nv(B:Nat):List Nat→Nat
 | []=>0
 |d::ds=>d+B*nv B ds
theorem nv_nil(B:Nat):nv B []=0:=rfl
theorem nv_cons(B d:Nat)(ds:List Nat):nv B (d::ds)=d+B*nv B ds:=rfl
theorem nv_append(B:Nat)(a b:List Nat):nv B (a++b)=nv B a+B^a.length*nv B b:=by
 induction a with
 |nil=>simp[nv]
 |cons d a ih=>simp only[List.cons_append,nv,ih,List.length_cons,Nat.pow_succ];rw[Nat.mul_add];rw[Nat.mul_comm (B^a.length) B];rw[Nat.mul_assoc];omega
theorem nv_snoc(B d:Nat)(a:List Nat):nv B (a ++ [d])=nv B a+B^a.length*d:=by
 rw[nv_append];simp[nv]
theorem nv_replicate(B n:Nat):nv B (List.replicate n 0)=0:=by
 induction n with
 |zero=>rfl
 |succ n ih=>simp[List.replicate_succ,nv,ih]
def Dg(B:Nat)(ds:List Nat):Prop:=∀d∈ds,d<B
theorem Dg.nil(B:Nat):Dg B []:=by intro d h;simp at h
theorem Dg.append{B:Nat}{a b:List Nat}(ha:Dg B a)(hb:Dg B b):Dg B (a++b):=by
 intro d h;rcases List.mem_append.1 h with h|h
 · exact ha d h
 · exact hb d h
theorem Dg.single{B d:Nat}(h:d<B):Dg B [d]:=by intro x hx;simp at hx;omega
theorem Dg.left{B:Nat}{a b:List Nat}(h:Dg B (a++b)):Dg B a:=fun d hd=>h d (by simp[hd])
theorem Dg.take{B:Nat}{a:List Nat}(h:Dg B a)(n:Nat):Dg B (a.take n):=fun d hd=>h d (List.mem_of_mem_take hd)
theorem Dg.drop{B:Nat}{a:List Nat}(h:Dg B a)(n:Nat):Dg B (a.drop n):=fun d hd=>h d (List.mem_of_mem_drop hd)
theorem Dg.get{B:Nat}{a:List Nat}(h:Dg B a){i:Nat}(hi:i<a.length):a[i]<B:=h _ (List.getElem_mem hi)
theorem Dg.getD{B:Nat}{a:List Nat}(h:Dg B a)(hB:0<B)(i:Nat):a.getD i 0<B:=by
 rw[List.getD_eq_getElem?_getD]
 by_cases hi:i<a.length
 · rw[List.getElem?_eq_getElem hi];exact h.get hi
 · rw[List.getElem?_eq_none (by omega)];exact hB
theorem Dg.replicate{B:Nat}(hB:0<B)(n:Nat):Dg B (List.replicate n 0):=by
 intro d h;have:=List.eq_of_mem_replicate h;omega
theorem Dg.set{B:Nat}{a:List Nat}(h:Dg B a){i x:Nat}(hx:x<B):Dg B (a.set i x):=by
 intro d hd
 rcases List.mem_or_eq_of_mem_set hd with h1|h1
 · exact h d h1
 · omega
theorem nv_lt{B:Nat}{ds:List Nat}(h:Dg B ds):nv B ds<B^ds.length:=by
 induction ds with
 |nil=>simp[nv]
 |cons d ds ih =>
  have h1:=ih (fun x hx=>h x (by simp[hx]))
  have h2:=h d (by simp)
  simp only[nv,List.length_cons,Nat.pow_succ]
  have:B*(nv B ds+1)≤B*B^ds.length:=Nat.mul_le_mul_left B h1
  rw[Nat.mul_add] at this
  rw[Nat.mul_comm (B^ds.length) B]
  omega
def Nm(ds:List Nat):Prop:=∀d,ds.getLast?=some d→d≠0
theorem Nm.nil:Nm []:=by intro d h;simp at h
theorem Nm.snoc{a:List Nat}{d:Nat}(h:d≠0):Nm (a ++ [d]):=by intro x hx;simp at hx;omega
theorem Nm.cons{a:List Nat}{d:Nat}(h:Nm (d::a)):Nm a:=by
 intro x hx
 cases a with
 |nil=>simp at hx
 |cons y a=>exact h x (by rw[List.getLast?_cons_cons];exact hx)
theorem Nm.drop{a:List Nat}(h:Nm a)(n:Nat):Nm (a.drop n):=by
 intro x hx
 rw[List.getLast?_drop] at hx
 split at hx
 · simp at hx
 · exact h x hx
theorem snoc_of_ne{a:List Nat}(h:a≠[]):∃b d,a=b ++ [d]:=⟨a.dropLast,a.getLast h,(List.dropLast_concat_getLast h).symm⟩
structure Ok(B:Nat)(ds:List Nat):Prop where
 dg:Dg B ds
 nm:Nm ds
theorem Ok.nil(B:Nat):Ok B []:=⟨Dg.nil B,Nm.nil⟩
theorem nv_ge{B:Nat}{ds:List Nat}(h:Nm ds)(hne:ds≠[]):B^(ds.length-1)≤nv B ds:=by
 obtain⟨a,d,rfl⟩:=snoc_of_ne hne
 have hd:d≠0:=h d (by simp)
 rw[nv_snoc]
 simp only[List.length_append,List.length_cons,List.length_nil,Nat.zero_add,Nat.add_sub_cancel]
 have:B^a.length*1≤B^a.length*d:=Nat.mul_le_mul_left _ (by omega)
 omega
theorem nv_pos{B:Nat}(hB:0<B){ds:List Nat}(h:Nm ds)(hne:ds≠[]):0<nv B ds :=
 Nat.lt_of_lt_of_le (Nat.pow_pos hB) (nv_ge h hne)
theorem nv_zero_iff{B:Nat}(hB:0<B){ds:List Nat}(h:Nm ds):nv B ds=0↔ds=[]:=by
 constructor
 · intro h0
   by_cases hne:ds=[]
   · exact hne
   · have:=nv_pos hB h hne;omega
 · rintro rfl;rfl
theorem nv_lt_of_len{B:Nat}(hB:0<B){a b:List Nat}(ha:Dg B a)(hb:Nm b)(h:a.length<b.length):nv B a<nv B b:=by
 have h1:=nv_lt ha
 have h2:B^(b.length-1)≤nv B b:=nv_ge hb (by intro e;subst e;simp at h)
 have h3:B^a.length≤B^(b.length-1):=Nat.pow_le_pow_right hB (by omega)
 omega
theorem digit_lt{B x y d e:Nat}(hx:x<B)(h:d<e):x+B*d<y+B*e:=by
 have:B*(d+1)≤B*e:=Nat.mul_le_mul_left _ (by omega)
 rw[Nat.mul_add] at this;omega
theorem nv_lt_top{B:Nat}{a b c:List Nat}{d e:Nat}(ha:Dg B a)(hl:a.length=b.length)(h:d<e) :
 nv B (a++d::c)<nv B (b++e::c):=by
 rw[nv_append,nv_append,nv_cons,nv_cons,hl,Nat.mul_add,Nat.mul_add]
 have h1:=nv_lt ha
 rw[hl] at h1
 have h2:=digit_lt (y:=nv B b) h1 h
 omega
theorem nv_inj{B:Nat}(hB:1<B):∀{a b:List Nat},Ok B a→Ok B b→nv B a=nv B b→a=b
 | [],b,_,hb,h=>((nv_zero_iff (by omega) hb.nm).1 h.symm).symm
 |d::a,[],ha,_,h=>(nv_zero_iff (by omega) ha.nm).1 h
 |d::a,e::b,ha,hb,h=>by
  simp only[nv] at h
  have h1:=ha.dg d (by simp)
  have h2:=hb.dg e (by simp)
  have h3:d=e:=by
   have:=congrArg (· % B) h
   simpa[Nat.add_mul_mod_self_left,Nat.mod_eq_of_lt h1,Nat.mod_eq_of_lt h2] using this
  subst h3
  have h4:nv B a=nv B b:=by
   have:B*nv B a=B*nv B b:=by omega
   exact Nat.eq_of_mul_eq_mul_left (by omega) this
  rw[nv_inj hB ⟨fun x hx=>ha.dg x (by simp[hx]),ha.nm.cons⟩ ⟨fun x hx=>hb.dg x (by simp[hx]),hb.nm.cons⟩ h4]
def strip(ds:List Nat):List Nat:=(ds.reverse.dropWhile (· == 0)).reverse
theorem strip_snoc_zero(a:List Nat):strip (a ++ [0])=strip a:=by simp[strip]
theorem strip_snoc{a:List Nat}{d:Nat}(h:d≠0):strip (a ++ [d])=a ++ [d]:=by simp[strip,h]
theorem strip_spec(ds:List Nat):Nm (strip ds)∧∃n,ds=strip ds++List.replicate n 0:=by
 induction hn:ds.length generalizing ds with
 |zero=>have:ds=[]:=List.eq_nil_of_length_eq_zero hn;subst this;exact⟨Nm.nil,0,rfl⟩
 |succ n ih =>
  obtain⟨a,d,rfl⟩:=snoc_of_ne (a:=ds) (by intro e;subst e;simp at hn)
  by_cases hd:d=0
  · subst hd
    rw[strip_snoc_zero]
    obtain⟨h1,k,h2⟩:=ih a (by simpa using hn)
    refine⟨h1,k+1,?_⟩
    rw[List.replicate_succ',←List.append_assoc,←h2]
  · rw[strip_snoc hd]
    exact⟨Nm.snoc hd,0,by simp⟩
theorem nv_strip(B:Nat)(ds:List Nat):nv B (strip ds)=nv B ds:=by
 obtain⟨_,n,h⟩:=strip_spec ds
 conv=>rhs;rw[h]
 rw[nv_append,nv_replicate];simp
theorem Dg.strip{B:Nat}{ds:List Nat}(h:Dg B ds):Dg B (strip ds):=by
 obtain⟨_,n,e⟩:=strip_spec ds
 rw[e] at h
 exact h.left
theorem Ok.strip{B:Nat}{ds:List Nat}(h:Dg B ds):Ok B (strip ds):=⟨h.strip,(strip_spec ds).1⟩
theorem len_le_of_lt{B:Nat}(hB:1<B){a:List Nat}(ha:Ok B a){k:Nat}(h:nv B a<B^k):a.length≤k:=by
 by_cases hne:a=[]
 · subst hne;simp
 · have h1:=nv_ge (B:=B) ha.nm hne
   have h2:B^(a.length-1)<B^k:=by omega
   have:=(Nat.pow_lt_pow_iff_right hB).1 h2
   omega
theorem nv_take_add(B:Nat)(a:List Nat)(n:Nat)(h:n≤a.length):nv B a=nv B (a.take n)+B^n*nv B (a.drop n):=by
 conv=>lhs;rw[←List.take_append_drop n a]
 rw[nv_append,List.length_take,Nat.min_eq_left h]
theorem take_succ_getD{a:List Nat}{i:Nat}(h:i<a.length):a.take (i+1)=a.take i ++ [a[i]]:=by
 rw[List.take_succ_eq_append_getElem h]
theorem nv_take_succ(B:Nat)(a:List Nat)(i:Nat)(h:i<a.length):nv B (a.take (i+1))=nv B (a.take i)+B^i*a[i]:=by
 rw[take_succ_getD h,nv_snoc,List.length_take,Nat.min_eq_left (by omega)]
theorem nv_drop(B:Nat)(a:List Nat)(i:Nat)(h:i<a.length):nv B (a.drop i)=a[i]+B*nv B (a.drop (i+1)):=by
 rw[List.drop_eq_getElem_cons h,nv_cons]
theorem set_take_succ{o:List Nat}{i x:Nat}(h:i<o.length):(o.set i x).take (i+1)=o.take i ++ [x]:=by
 rw[take_succ_getD (by simpa using h),List.take_set,List.set_eq_of_length_le (by simp;omega)]
 simp
theorem set_drop_succ(o:List Nat)(i x:Nat):(o.set i x).drop (i+1)=o.drop (i+1):=by
 rw[List.drop_set,if_pos (by omega)]
theorem set_drop_self{o:List Nat}{i x:Nat}(h:i<o.length):(o.set i x).drop i=x::o.drop (i+1):=by
 rw[List.drop_eq_getElem_cons (by simpa using h),set_drop_succ]
 simp
theorem carry_step{B i c c' x x' s X:Nat}{A:List Nat}(hA:A.length=i)(h:nv B A+B^i*c=X)(hx:x=x'+B*c')(hs:x=s+c) :
 nv B (A ++ [x'])+B^(i+1)*c'=X+B^i*s:=by
 rw[nv_snoc,hA,Nat.pow_succ,←h,Nat.mul_assoc]
 have:B^i*x=B^i*x'+B^i*(B*c'):=by rw[hx,Nat.mul_add]
 have h2:B^i*x=B^i*s+B^i*c:=by rw[hs,Nat.mul_add]
 omega
theorem borrow_step{B i c c' x s y X Y:Nat}{A:List Nat}(hA:A.length=i)(h:nv B A+Y=X+B^i*c)(hx:x+s+c=y+B*c') :
 nv B (A ++ [x])+(Y+B^i*s)=(X+B^i*y)+B^(i+1)*c':=by
 rw[nv_snoc,hA,Nat.pow_succ,Nat.mul_assoc]
 have h2:B^i*(x+s+c)=B^i*(y+B*c'):=by rw[hx]
 rw[Nat.mul_add,Nat.mul_add,Nat.mul_add] at h2
 omega
end Go.Proofs.Dig
namespace Go.Proofs.Fl
open Go.RowKit Go.Proofs.Dig
attribute [local irreducible] IntKind.wrap PureC MutC MakC IterC
theorem f191_ok(J:Keep)(a b:Int):C J 201 [.int .u32 a,.int .u32 b] (.int .i64 (cmpI a b)):=by
 refine fn_ok Tryz.func201 rfl rfl rfl ?_
 repeat (first|((first|refine W.RS (by kernel_rfl) ?_|refine W.skip ?_|refine⟨_,f223_ok _ _,?_⟩|refine⟨_,rfl,?_⟩|refine⟨rfl,?_⟩);conv=>whnf)|(refine W.S ?_)|(refine W.condF rfl ?_))
 refine W.cond rfl (fun h=>?_) (fun h=>?_)
 · have h:=of_decide_eq_true h
   repeat (((first|refine W.RS (by kernel_rfl) ?_|refine W.ret ?_);conv=>whnf))
   simp[oneOf,cmpI,h]
 · have h:=of_decide_eq_false h
   repeat (first|((first|refine W.RS (by kernel_rfl) ?_|refine W.skip ?_|refine⟨_,rfl,?_⟩|refine⟨rfl,?_⟩);conv=>whnf)|(refine W.S ?_))
   refine W.cond rfl (fun h=>?_) (fun h=>?_)
   · have h2:=of_decide_eq_true h
     repeat (((first|refine W.RS (by kernel_rfl) ?_|refine W.ret ?_);conv=>whnf))
     simp[oneOf,cmpI];omega
   · have h2:=of_decide_eq_false h
     repeat (((first|refine W.RS (by kernel_rfl) ?_|refine W.ret ?_|refine W.skip ?_);conv=>whnf))
     simp[oneOf,cmpI];omega
abbrev B9:Nat:=1000000000
def u32(d:Nat):IV:=.int .u32 d
abbrev mgI(l:List Nat):IV:=.agg [.sl (l.map u32)]
def cmpL(a b:List Nat):Int:=cmpI (nv B9 a) (nv B9 b)
theorem ivEq{k:IntKind}{a b:Int}(h:a=b):SV.iv (.int k a)=SV.iv (.int k b):=by rw[h]
theorem get_u32{l:List Nat}{j:Nat}(h:j<l.length):(l.map u32)[j]?=some (u32 l[j]):=by simp[h]
theorem cmpI_zero{x y:Int}(h:cmpI x y=0):x=y:=by
 unfold cmpI at h
 split at h
 · cases h
 · split at h
   · cases h
   · omega
theorem bne_false{x y:Int}(h:(x != y)=false):x=y:=by simpa using h
theorem bne_true{x y:Int}(h:(x != y)=true):x≠y:=by simpa using h
theorem cmpL_len{a b:List Nat}(ha:Ok B9 a)(hb:Ok B9 b)(h:a.length≠b.length):cmpL a b=cmpI a.length b.length:=by
 unfold cmpL cmpI
 rcases Nat.lt_or_gt_of_ne h with h|h
 · have:=nv_lt_of_len (by decide) ha.dg hb.nm h
   rw[if_pos (by omega),if_pos (by omega)]
 · have:=nv_lt_of_len (by decide) hb.dg ha.nm h
   rw[if_neg (by omega),if_pos (by omega),if_neg (by omega),if_pos (by omega)]
theorem cmpL_top{a b:List Nat}(ha:Ok B9 a)(hb:Ok B9 b)(hl:a.length=b.length){k:Nat}(hk:k<a.length)(hd:a.drop (k+1)=b.drop (k+1))(hne:a[k]≠b[k]'(by omega)) :
 cmpL a b=cmpI (a[k]:Nat) (b[k]'(by omega):Nat):=by
 have ea:a=a.take k++a[k]::a.drop (k+1):=by simp
 have eb:b=b.take k++b[k]'(by omega)::a.drop (k+1):=by rw[hd];simp
 have hlt:(a.take k).length=(b.take k).length:=by simp;omega
 unfold cmpL cmpI
 rcases Nat.lt_or_gt_of_ne hne with h|h
 · have:=nv_lt_top (B:=B9) (c:=a.drop (k+1)) (ha.dg.take k) hlt h
   rw[←ea,←eb] at this
   rw[if_pos (by omega),if_pos (by omega)]
 · have:=nv_lt_top (B:=B9) (c:=a.drop (k+1)) (hb.dg.take k) hlt.symm h
   rw[←ea,←eb] at this
   rw[if_neg (by omega),if_pos (by omega),if_neg (by omega),if_pos (by omega)]
theorem f133_ok(J:Keep){a b:List Nat}(ha:Ok B9 a)(hb:Ok B9 b)(hl:a.length<2^60):C J 104 [mgI a,mgI b] (.int .i64 (cmpL a b)):=by
 have la:(a.map u32).length=a.length:=by simp
 have lb:(b.map u32).length=b.length:=by simp
 refine fn_ok Tryz.func104 rfl rfl rfl ?_
 repeat (first|((first|refine W.RS (by kernel_rfl) ?_|refine⟨_,f190_ok _ _ _,?_⟩|refine⟨_,rfl,?_⟩|refine⟨rfl,?_⟩);conv=>whnf)|(refine W.S ?_))
 refine W.cond rfl (fun h=>?_) (fun h=>?_)
 · have h:=bne_true h
   rw[la,lb] at h
   repeat (((first|refine W.RS (by kernel_rfl) ?_|refine W.ret ?_);conv=>whnf))
   rw[cmpL_len ha hb (fun e=>h (by rw[e];simp[cmpI])),la,lb]
   rfl
 · have h:=cmpI_zero (bne_false h)
   have hab:a.length=b.length:=by omega
   repeat (first|((first|refine W.RS (by kernel_rfl) ?_|refine W.skip ?_|refine⟨rfl,_,w64 (by omega),?_⟩|refine⟨_,rfl,?_⟩);conv=>whnf)|(refine W.S ?_)|(refine W.block ?_))
   refine W.loop (G:={ k:Nat // k≤a.length∧a.drop k=b.drop k }) (fun k=>mkA [(2,.ptr 0 0),(3,.ptr 1 0),(6,.iv (.int .i64 ((k.1:Int)-1)))] [(0,.var (mgI a)),(1,.var (mgI b))] 2) (fun k=>k.1) ⟨a.length,Nat.le_refl _,by simp[hab]⟩
    (Wk.tab [] ⟨⟨rfl,rfl⟩,⟨rfl,rfl⟩,⟨?_,rfl⟩,trivial⟩ ⟨rfl,rfl,trivial⟩ rfl) ?_
   · show SV.iv (.int .i64 _)=SV.iv (.int .i64 _)
     rw[la]
   · rintro⟨k,hk,hd⟩
     dsimp only
     repeat (first|((first|refine W.RS (by kernel_rfl) ?_|refine⟨_,rfl,?_⟩|refine⟨rfl,?_⟩);conv=>whnf)|(refine W.S ?_))
     refine W.cond rfl (fun h=>?_) (fun h=>?_)
     · have h:=of_decide_eq_true h
       obtain⟨k,rfl⟩:∃j,k=j+1:=⟨k-1,by omega⟩
       have hk1:k<a.length:=by omega
       repeat (first|((first|refine W.RS (by kernel_rfl) ?_|refine W.skip ?_);conv=>whnf)|(refine W.S ?_)|(refine W.block ?_))
       refine⟨k,_,by omega,get_u32 hk1,rfl,?_⟩
       conv=>whnf
       refine⟨k,_,by omega,get_u32 (show k<b.length by omega),rfl,?_⟩
       conv=>whnf
       repeat (((first|refine W.RS (by kernel_rfl) ?_|refine⟨_,f191_ok _ _ _,?_⟩|refine⟨_,rfl,?_⟩|refine⟨rfl,?_⟩);conv=>whnf))
       refine W.cond rfl (fun h=>?_) (fun h=>?_)
       · have h2:=bne_true h
         repeat (((first|refine W.RS (by kernel_rfl) ?_|refine W.ret ?_);conv=>whnf))
         have hne:a[k]≠b[k]:=fun e=>h2 (by rw[e];simp[cmpI])
         rw[cmpL_top ha hb hab hk1 hd hne]
         rfl
       · have h2:=cmpI_zero (bne_false h)
         repeat (((first|refine W.R (by kernel_rfl) ?_|refine W.skip ?_|refine⟨rfl,_,w64 (by omega),?_⟩);conv=>whnf))
         refine⟨⟨k,by omega,?_⟩,Wk.tab [] ⟨⟨rfl,rfl⟩,⟨rfl,rfl⟩,⟨ivEq (by dsimp only;omega),rfl⟩,trivial⟩ ⟨rfl,rfl,trivial⟩ rfl,?_⟩
         · rw[List.drop_eq_getElem_cons hk1,List.drop_eq_getElem_cons (show k<b.length by omega),hd,show a[k]=b[k] by omega]
         · show k<k+1
           omega
     · have h:=of_decide_eq_false h
       have hk0:k=0:=by omega
       subst hk0
       repeat (((first|refine W.RS (by kernel_rfl) ?_|refine W.ret ?_|refine W.exit ?_);conv=>whnf))
       have e:a=b:=by simpa using hd
       subst e
       simp[oneOf,cmpL,cmpI]
theorem strip_take_zero{l:List Nat}{n:Nat}(hn:n<l.length)(h0:l[n]=0):strip (l.take (n+1))=strip (l.take n):=by
 rw[take_succ_getD hn,h0,strip_snoc_zero]
theorem strip_take_ne{l:List Nat}{n:Nat}(hn:n<l.length)(h0:l[n]≠0):strip (l.take (n+1))=l.take (n+1):=by
 rw[take_succ_getD hn,strip_snoc h0]
theorem mgEq{a:List IV}{l:List Nat}(h:a=l.map u32):IV.agg [.sl a]=mgI l:=by rw[h]
theorem f188_ok(J:Keep){l:List Nat}(hl:l.length<2^60):C J 199 [.sl (l.map u32)] (mgI (strip l)):=by
 have la:(l.map u32).length=l.length:=by simp
 refine fn_ok Tryz.func199 rfl rfl rfl ?_
 repeat (first|((first|refine W.RS (by kernel_rfl) ?_|refine⟨_,rfl,?_⟩);conv=>whnf)|(refine W.S ?_)|(refine W.block ?_))
 refine W.loop (G:={ n:Nat // n≤l.length∧strip l=strip (l.take n) }) (fun n=>mkA [(0,.iv (.sl (l.map u32))),(2,.ptr 0 0),(3,.iv (.int .i64 (n.1:Int)))] [(0,.var (.agg [.sl []]))] 1) (fun n=>n.1) ⟨l.length,Nat.le_refl _,by simp⟩
  (Wk.tab [] ⟨⟨rfl,rfl⟩,⟨rfl,rfl⟩,⟨ivEq (by dsimp only;omega),rfl⟩,trivial⟩ ⟨rfl,trivial⟩ rfl) ?_
 rintro⟨n,hn,hs⟩
 dsimp only
 by_cases h:n=0
 · subst h
   repeat (first|((first|refine W.RS (by kernel_rfl) ?_|refine W.ret ?_|refine W.exit ?_|refine⟨false,decide_eq_false (by omega),?_⟩|refine⟨_,rfl,?_⟩|refine⟨rfl,?_⟩|refine⟨by omega,by omega,by omega,.inr (by simp),.inl rfl,?_⟩|refine⟨_,fun h=>absurd h Bool.false_ne_true,fun _=>rfl,?_⟩);conv=>whnf)|(refine W.S ?_)|(refine W.condF rfl ?_))
   refine mgEq ?_
   rw[hs];rfl
 · obtain⟨n,rfl⟩:∃m,n=m+1:=⟨n-1,by omega⟩
   repeat (first|((first|refine W.RS (by kernel_rfl) ?_|refine⟨rfl,_,w64 (by omega),?_⟩|refine⟨true,decide_eq_true (by omega),?_⟩|refine⟨rfl,?_⟩);conv=>whnf)|(refine W.S ?_))
   refine⟨n,_,by omega,get_u32 (show n<l.length by omega),rfl,?_⟩
   conv=>whnf
   by_cases h0:l[n]=0
   · repeat (first|((first|refine W.R (by kernel_rfl) ?_|refine W.skip ?_|refine⟨rfl,_,w64 (by omega),?_⟩|refine⟨true,decide_eq_true (by omega),?_⟩|refine⟨rfl,?_⟩|refine⟨_,fun _=>rfl,fun h=>absurd h.symm Bool.false_ne_true,?_⟩);conv=>whnf)|(refine W.block ?_)|(refine W.condT rfl ?_))
     refine⟨⟨n,by omega,by rw[hs,strip_take_zero (by omega) h0]⟩,Wk.tab [] ⟨⟨rfl,rfl⟩,⟨rfl,rfl⟩,⟨ivEq (by dsimp only;omega),rfl⟩,trivial⟩ ⟨rfl,trivial⟩ rfl,?_⟩
     dsimp only;omega
   · repeat (first|((first|refine W.RS (by kernel_rfl) ?_|refine W.ret ?_|refine W.exit ?_|refine⟨false,decide_eq_false (by omega),?_⟩|refine⟨_,rfl,?_⟩|refine⟨rfl,?_⟩|refine⟨by omega,by omega,by omega,.inr (by simp),.inl rfl,?_⟩|refine⟨_,fun _=>rfl,fun h=>absurd h.symm Bool.false_ne_true,?_⟩);conv=>whnf)|(refine W.condF rfl ?_))
     rw[strip_take_ne (by omega) h0] at hs
     refine mgEq ?_
     rw[hs];simp
end Go.Proofs.Fl
