/-
  For every list of rules, every number of variables and every level the statement RegionSparse holds: the sparse rule is the reference's, or the error is.
-/
import Derived.Test.YtmkieokpghpjiaaGreatDoorS3
import Derived.Shelf.SlSortCmp.WholeK
import Derived.LoopNIn
set_option linter.all false
namespace Go.Proofs
open Go
abbrev Bf:=@Nat.le_add_right
abbrev Oh:=@Go.run_firstCells_some
abbrev Oi:=@List.mem_append_right
abbrev Oj:=@List.mem_append_left
abbrev Ol:=@Go.wpIn_loop_rounds
abbrev fg:=@List.mem_singleton
abbrev fh:=@Nat.ble_eq_true_of_le
abbrev gC:=@Iff.rfl
abbrev iA:=@Int.ofNat_eq_natCast
abbrev oK:=@List.cons.injEq
abbrev xJ:=@Go.roundsIn_succ
end Go.Proofs
namespace Go.Proofs.En
open Go.RowKit Go.Proofs.Fl
def bJ{α:Sort _}(n:Nat)(k:Nat->α):α:=match n with
 |0=>k 0
 |m+1=>k (m+1)
def zP{α:Sort _}(i:Int)(k:Int->α):α:=match i with
 | .ofNat n=>bJ n fun m=>k (.ofNat m)
 | .negSucc n=>bJ n fun m=>k (.negSucc m)
def gE{α U:Type _}:List α->(List α->U)->U
 | [],k=>k []
 |x::xs,k=>gE xs fun ys=>k (x::ys)
def bz{α:Sort _}(n:Nat)(k:Nat->α):bJ n k=k n:=by cases n<;>rfl
def Ch{α:Sort _}(i:Int)(k:Int->α):zP i k=k i:=by cases i<;>simp[zP,bz]
def dE{α U:Type _}(l:List α)(k:List α->U):gE l k=k l:=by
 induction l generalizing k with
 |nil=>rfl
 |cons x xs ih=>simp[gE,ih]
abbrev Wr:=List (Nat×EO)
abbrev cc:=Option (ES×Wr)
abbrev Hp:=Nat->Option EO
def ae(x:IV):ES:=.w (.one (.iv x))
def dW:IV->EW
 | .agg cs=>.agg (cs.map .iv)
 |x=>.one (.iv x)
def dS:IV->ES
 | .agg cs=>.w (.agg (cs.map .iv))
 | .tup xs=>.tup (xs.map dW)
 |x=>.w (.one (.iv x))
def b7(sz:Nat)(es:List IV):Bool:=es.all fun y=>Nat.beq y.cells.length sz && !y.isTup
def iM(k:IntKind)(n:Int):cc:=zP n fun n=>some (ae (.int k n),[])
def ju(b:Bool):cc:=match b with
 |true=>some (ae (.bool true),[])
 |false=>some (ae (.bool false),[])
def cE:Value->ES
 | .bool b=>ae (.bool b)
 | .int k n=>ae (.int k n)
 | .string s=>ae (.str s.data.toList)
 | .slice none 0 0=>ae (.nil 3)
 | .nilIface=>ae (.nil 0)
 | .nilFunc=>ae (.nil 1)
 | .pointer none=>ae (.nil 2)
 |_=>.unk
def am(tm:Nat->ES):Operand->ES
 | .tmp t=>tm t
 | .const v=>cE v
 | .func f=>ae (.fn f)
 | .global _=>.unk
def cW(u:Nat):List (Nat×Nat)->Option Nat
 | []=>none
 | (v,p)::l=>bif Nat.beq v u then some p else cW u l
def EM(u off:Nat)(vs:List (Nat×Nat)):List (Nat×Nat):=vs.map fun p=>bif Nat.beq p.1 u then p else(p.1,Nat.min p.2 off)
def ji(o:Option EO)(u off n:Nat):Option (List EV) :=
 match o with
 |some (.mem _ cs _ vs _)=>match cW u vs with
  |some p=>bif Nat.ble (off+n) p then some ((cs.drop off).take n) else none
  |none=>none
 |_=>none
def iQ(o:Option EO)(u off:Nat)(new:List EV):Option EO :=
 match o with
 |some (.mem e cs false vs cnt)=>match cW u vs with
  |some p=>bif Nat.ble (off+new.length) p then gE (splice cs off new) fun cs'=>some (.mem e cs' false (EM u off vs) cnt) else none
  |none=>none
 |_=>none
def mkV(Z:QS)(ag:Bool)(cs:List EV):Option EW :=
 match ag with
 |true=>some (wy Z cs)
 |false=>match cs with
  | [c]=>some (.one c)
  |_=>none
def g8(zs:List EV):Nat->List EV
 |0=>[]
 |n+1=>zs++g8 zs n
def kT(Z:QS)(places:Nat->Option (Nat×Nat)):List EV->List (Nat×ES)->Option (List EV)
 |cs,[]=>some cs
 |cs,(j,.w y)::rest=>match places j with
  |some (off,sz)=>bif Nat.beq (y.cells Z).length sz&&Nat.ble (off+sz) cs.length then kT Z places (splice cs off (y.cells Z)) rest else none
  |none=>none
 |_,_=>none
section
variable (T:TypeId->Option TY)(ze:TypeId->Option (List EV))(Z:QS)
def il(h:Hp)(g:Nat)(e:TypeId)(cs:List EV)(k:Nat->Nat->ES):cc :=
 match h g with
 |none=>gE cs fun cs=>bJ cs.length fun n=>some (k g n,[(g,.mem e cs false [(0,n)] 1)])
 |some _=>none
def tH(h:Hp)(g:Nat)(t:TypeId):cc :=
 match ze t with
 |some cs=>il h g t cs fun g _=>.w (.one (.ptr g 0 0))
 |none=>none
def ua(h:Hp)(g:Nat)(t:TypeId)(x:ES):cc :=
 match x with
 | .w y=>il h g t (y.cells Z) fun g _=>.w (.one (.ptr g 0 0))
 |_=>none
def zU(t:TypeId)(parts:List (Nat×ES)):cc :=
 match T t,ze t with
 |some ty,some zs=>match ty.sh with
  | .struct=>match kT Z (fun j=>(ty.fields[j]?).map fun p=>(p.1,p.2.2)) zs parts with
   |some cs=>gE cs fun cs=>some (.w (wy Z cs),[])
   |none=>none
  | .array _ e=>match T e with
   |some te=>match kT Z (fun j=>some (j*te.size,te.size)) zs parts with
    |some cs=>gE cs fun cs=>some (.w (wy Z cs),[])
    |none=>none
   |none=>none
  |_=>none
 |_,_=>none
def vb(h:Hp)(g:Nat)(t:TypeId)(len:Nat)(parts:List (Nat×ES)):cc :=
 match T t with
 |some ty=>match ty.sh with
  | .slice e=>match T e,ze e with
   |some te,some zs=>bif Nat.blt 0 te.size&&Nat.ble (len*te.size) 16777216&&Nat.beq zs.length te.size then(match kT Z (fun i=>some (i*te.size,te.size)) (g8 zs len) parts with
    |some cs=>il h g e cs fun g _=>.w (.one (.slc g 0 0 len (.ex len)))
    |none=>none) else none
   |_,_=>none
  |_=>none
 |none=>none
def sW(h:Hp)(g:Nat)(t:TypeId)(l c:ES):cc :=
 match T t,l,c with
 |some ty,.w (.one (.iv (.int _ (.ofNat m)))),.w (.one (.iv (.int _ (.ofNat m'))))=>match ty.sh with
  | .slice e=>match T e,ze e with
   |some te,some zs=>bif Nat.beq m m'&&Nat.blt 0 te.size&&Nat.beq zs.length te.size&&Nat.ble (te.bytes*m) 281474976710656&&Nat.ble m 1000000 then il h g e (g8 zs m) fun g _=>.w (.one (.slc g 0 0 m (.ex m))) else none
   |_,_=>none
  |_=>none
 |_,_,_=>none
def ke(h:Hp)(t:TypeId)(x:ES):cc :=
 match T t,x with
 |some ty,.w (.one (.ptr g u off))=>match ji (h g) u off ty.size with
  |some cs=>gE cs fun cs=>match mkV Z ty.sh.agg cs with
   |some r=>some (.w r,[])
   |none=>none
  |none=>none
 |some ty,.w (.one (.dp y off))=>match jE ty.sh.agg ty.size y off with
  |some r=>bif r.isTup then none else some (dS r,[])
  |none=>none
 |_,_=>none
def py(h:Hp)(t:TypeId)(x y:ES):cc :=
 match T t,x,y with
 |some ty,.w (.one (.ptr g u off)),.w z=>bif Nat.beq (z.cells Z).length ty.size then(match iQ (h g) u off (z.cells Z) with
  |some o=>some (.und,[(g,o)])
  |none=>none) else none
 |_,_,_=>none
def qR(s:TypeId)(x:ES)(j:Nat):cc :=
 match T s,x with
 |some ty,.w (.one (.ptr g u off))=>match ty.sh,ty.fields[j]? with
  | .struct,some (fo,_,sz)=>bif Nat.blt 0 sz then bJ (off+fo) fun o=>some (.w (.one (.ptr g u o)),[]) else none
  |_,_=>none
 |some ty,.w (.one (.dp y off))=>match ty.sh,ty.fields[j]? with
  | .struct,some (fo,_,sz)=>bif Nat.blt 0 sz then bJ (off+fo) fun o=>some (.w (.one (.dp y o)),[]) else none
  |_,_=>none
 |_,_=>none
def nU(t:TypeId)(x ix:ES):cc :=
 match T t,x,ix with
 |some ty,.w (.one (.slc g u off n _)),.w (.one (.iv (.int _ (.ofNat j))))=>match ty.sh with
  | .slice e=>match T e with
   |some te=>bif Nat.blt j n then bJ (off+j*te.size) fun o=>some (.w (.one (.ptr g u o)),[]) else none
   |none=>none
  |_=>none
 |some ty,.w (.one (.ptr g u off)),.w (.one (.iv (.int _ (.ofNat j))))=>match ty.sh with
  | .array n e=>match T e with
   |some te=>bif Nat.blt j n then bJ (off+j*te.size) fun o=>some (.w (.one (.ptr g u o)),[]) else none
   |none=>none
  |_=>none
 |some ty,.w (.one (.iv (.sl es))),.w (.one (.iv (.int _ (.ofNat j))))=>match ty.sh with
  | .slice e=>match T e,es[j]? with
   |some te,some y=>bif Nat.beq y.cells.length te.size then some (.w (.one (.dp y 0)),[]) else none
   |_,_=>none
  |_=>none
 |_,_,_=>none
def zS(s:TypeId)(x:ES)(j:Nat):cc :=
 match T s,x with
 |some ty,.w (.agg cs)=>match ty.sh,ty.fields[j]? with
  | .struct,some (fo,ag,sz)=>bif Nat.ble (fo+sz) cs.length then gE ((cs.drop fo).take sz) fun l=>(match mkV Z ag l with
   |some r=>some (.w r,[])
   |none=>none) else none
  |_,_=>none
 |_,_=>none
def yB(x:ES)(j:Nat):cc :=
 match x with
 | .tup xs=>match xs[j]? with
  |some y=>some (.w y,[])
  |none=>none
 |_=>none
def ky(v:Option ES)(d:Nat):Option Nat :=
 match v with
 |none=>some d
 |some (.w (.one (.iv (.int _ (.ofNat m)))))=>some m
 |_=>none
def uz(o:Option EO)(u off n sz:Nat):Nat :=
 match o with
 |some (.mem _ _ _ vs _)=>match cW u vs with
  |some p=>bif Nat.ble (off+n*sz) p&&Nat.blt 0 sz then(p-off)/sz else n
  |none=>n
 |_=>n
def jd(hp:Hp)(t:TypeId)(x:ES)(lo hi mx:Option ES):cc :=
 match T t with
 |some ty=>match ty.sh,x with
  | .slice e,.w (.one (.slc g u off n cap))=>match T e with
   |some te=>match ky lo 0,ky hi n with
    |some l,some h=>match mx,cap with
     |none,.ex c=>bif Nat.ble l h&&Nat.ble h c then bJ (bif Nat.beq c l then off else off+l*te.size) fun o=>bJ (h-l) fun n'=>bJ (c-l) fun c'=>some (.w (.one (.slc g u o n' (.ex c'))),[]) else none
     |none,.fin sz=>bJ (uz (hp g) u off n sz) fun kn=>bif Nat.ble l h&&Nat.ble h kn&&Nat.blt l kn&&Nat.beq sz te.size then bJ (off+l*te.size) fun o=>bJ (h-l) fun n'=>some (.w (.one (.slc g u o n' (.fin sz))),[]) else
      bif Nat.beq l h&&Nat.ble h kn&&Nat.beq sz te.size then some (ae (.sl []),[]) else none
     |some m,.ex c=>match ky (some m) 0,hi with
      |some m,some _=>bif Nat.ble l h&&Nat.ble h m&&Nat.ble m c then bJ (bif Nat.beq m l then off else off+l*te.size) fun o=>bJ (h-l) fun n'=>bJ (m-l) fun c'=>some (.w (.one (.slc g u o n' (.ex c'))),[]) else none
      |_,_=>none
     |some m,.fin _=>match ky (some m) 0,hi with
      |some m,some _=>bif Nat.ble l h&&Nat.ble h m&&Nat.ble m n then bJ (bif Nat.beq m l then off else off+l*te.size) fun o=>bJ (h-l) fun n'=>bJ (m-l) fun c'=>some (.w (.one (.slc g u o n' (.ex c'))),[]) else none
      |_,_=>none
    |_,_=>none
   |none=>none
  | .slice e,.w (.one (.iv (.sl es)))=>match T e,ky lo 0,ky hi es.length,mx with
   |some te,some l,some h,none=>bif Nat.ble l h&&Nat.ble h es.length&&(Nat.beq l 0||b7 te.size es) then some (ae (.sl ((es.take h).drop l)),[]) else none
   |_,_,_,_=>none
  | .array n e,.w (.one (.ptr g u off))=>match T e,lo,hi,mx with
   |some _,none,none,none=>some (.w (.one (.slc g u off n (.ex n))),[])
   |_,_,_,_=>none
  |_,_=>none
 |none=>none
def tL:List ES->Option (List Nat)
 | []=>some []
 | .w (.one (.ptr g 0 0))::l=>(tL l).map (g :: ·)
 |_=>none
def yn(fn:Fn)(first captured:List ES):cc :=
 match fn,first,tL captured with
 | .func f,[],some []=>some (ae (.fn f),[])
 | .func f,[],some (g::gs)=>some (.w (.one (.clo f (g::gs))),[])
 |_,_,_=>none
def tZ(op:BinOp)(k:IntKind)(a b:Int):cc :=
 match op with
 | .add=>iM k (k.wrap (a+b))
 | .sub=>iM k (k.wrap (a-b))
 | .mul=>iM k (k.wrap (a*b))
 | .quo=>bif decide (b=0) then none else iM k (k.wrap (a.tdiv b))
 | .rem=>bif decide (b=0) then none else iM k (a.tmod b)
 | .eql=>ju (a==b)
 | .neq=>ju (a != b)
 | .lss=>ju (decide (a<b))
 | .leq=>ju (decide (a<=b))
 | .gtr=>ju (decide (a>b))
 | .geq=>ju (decide (a>=b))
 |_=>none
def strE(op:BinOp)(a b:List UInt8):cc :=
 match op with
 | .add=>bif Nat.ble (a.length+b.length) 1000000 then gE (a++b) fun l=>some (ae (.str l),[]) else none
 | .eql=>ju (a==b)
 | .neq=>ju (!(a==b))
 |_=>none
def Eg:EV->Option Bool
 | .iv (.nil 3)=>some true
 | .slc .. => some false
 | .iv (.sl (_::_))=>some false
 |_=>none
def pX(op:BinOp)(t:TypeId)(x y:ES):cc :=
 match x,y with
 | .w (.one (.iv (.int k a))),.w (.one (.iv (.int k' b)))=>bif decide (k=k') then tZ op k a b else none
 | .w (.one (.iv (.str a))),.w (.one (.iv (.str b)))=>strE op a b
 | .w (.one c),.w (.one (.iv (.nil 3)))=>match T t,Eg c,op with
  |some ty,some b,.eql=>match ty.sh with
   | .slice _=>ju b
   |_=>none
  |some ty,some b,.neq=>match ty.sh with
   | .slice _=>ju (!b)
   |_=>none
  |_,_,_=>none
 |_,_=>none
def sf(op:UnOp)(x:ES):cc :=
 match op,x with
 | .not,.w (.one (.iv (.bool a)))=>ju (!a)
 | .neg,.w (.one (.iv (.int k a)))=>iM k (k.wrap (0-a))
 |_,_=>none
def wC(s d:TypeId)(x:ES):cc :=
 match T s,T d,x with
 |some ts,some td,.w (.one (.iv (.int _ a)))=>match ts.sh,td.sh with
  | .int _,.int k=>iM k (k.wrap a)
  |_,_=>none
 |_,_,_=>none
def wB(c a b:ES):cc :=
 match c with
 | .w (.one (.iv (.bool true)))=>some (a,[])
 | .w (.one (.iv (.bool false)))=>some (b,[])
 |_=>none
def Az(x:ES):cc :=
 match x with
 | .w (.one (.ptr g u o))=>some (.w (.one (.ptr g u o)),[])
 | .w (.one (.dp y o))=>some (.w (.one (.dp y o)),[])
 |_=>none
def fU(h:Hp)(sz:Nat)(x:ES):Option (List EV×Nat) :=
 match x with
 | .w (.one (.slc g u off n _))=>(ji (h g) u off (n*sz)).map fun l=>(l,n)
 | .w (.one (.iv (.nil 3)))=>some ([],0)
 | .w (.one (.iv (.sl es)))=>bif b7 sz es then some ((es.flatMap IV.cells).map .iv,es.length) else none
 |_=>none
def ot(t:TypeId)(x:ES):cc :=
 match T t,x with
 |some ty,.w (.one (.slc _ _ _ n _))=>match ty.sh with
  | .slice _=>some (ae (.int .i64 (.ofNat n)),[])
  |_=>none
 |some ty,.w (.one (.iv (.nil 3)))=>match ty.sh with
  | .slice _=>some (ae (.int .i64 0),[])
  |_=>none
 |some ty,.w (.one (.iv (.sl es)))=>match ty.sh with
  | .slice _=>iM .i64 (.ofNat es.length)
  |_=>none
 |some ty,.w (.one (.iv (.str l)))=>match ty.sh with
  | .string=>iM .i64 (.ofNat l.length)
  |_=>none
 |_,_=>none
def oa(vs:List (Nat×Nat)):List (Nat×Nat):=vs.take 64
def jc(h:Hp)(g:Nat)(t:TypeId)(s x:ES):cc :=
 match T t with
 |some ty=>match ty.sh with
  | .slice e=>match T e with
   |some te=>bif Nat.blt 0 te.size&&Nat.beq te.zero.cells.length te.size then(match fU h te.size x with
    |some (news,m)=>match s with
     | .w (.one (.iv (.nil 3)))=>bif Nat.beq m 0 then some (s,[]) else bif Nat.ble m 1000000&&Nat.ble (m*te.bytes) 140737488355328 then il h g e news fun g _=>.w (.one (.slc g 0 0 m (.fin te.size))) else none
     | .w (.one (.slc g1 u1 off1 n1 cap))=>bif Nat.beq m 0 then some (s,[]) else
      bif Nat.ble (n1+m) 1000000&&Nat.ble ((n1+m)*te.bytes) 140737488355328 then(match cap with
      | .ex c=>bif Nat.ble (n1+m) c then(match iQ (h g1) u1 (off1+n1*te.size) news with
       |some o=>bJ (n1+m) fun n=>some (.w (.one (.slc g1 u1 off1 n (.ex c))),[(g1,o)])
       |none=>none) else(match ji (h g1) u1 off1 (n1*te.size) with
       |some olds=>il h g e (olds++news) fun g _=>.w (.one (.slc g 0 0 (n1+m) (.fin te.size)))
       |none=>none)
      | .fin sz=>match h g1 with
       |some (.mem e1 cs false vs cnt)=>bif Nat.beq sz te.size&&Nat.beq e1 e&&Nat.beq off1 0 then(match cW u1 vs with
        |some p=>bif Nat.ble ((n1+m)*te.size) p then(match iQ (h g1) u1 (off1+n1*te.size) news with
         |some o=>bJ (n1+m) fun n=>some (.w (.one (.slc g1 u1 off1 n (.fin sz))),[(g1,o)])
         |none=>none) else bif Nat.ble (n1*te.size) p then
         gE (cs.take (n1*te.size)++news) fun cs'=>bJ cnt fun u=>bJ (n1+m) fun n=>bJ (n*te.size) fun q=>bJ (u+1) fun cnt'=>
          gE ((u,q)::oa (vs.map fun p=>(p.1,Nat.min p.2 (n1*te.size)))) fun vs'=>some (.w (.one (.slc g1 u 0 n (.fin te.size))),[(g1,.mem e1 cs' false vs' cnt')]) else none
        |none=>none) else none
       |_=>none) else none
     |_=>none
    |none=>none) else none
   |none=>none
  |_=>none
 |none=>none
def oc(h:Hp)(t:TypeId)(d x:ES):cc :=
 match T t with
 |some ty=>match ty.sh with
  | .slice e=>match T e with
   |some te=>match fU h te.size x,d with
    |some (news,m),.w (.one (.slc g1 u1 off1 n1 _))=>bJ (Nat.min m n1) fun k=>match iQ (h g1) u1 off1 (news.take (k*te.size)) with
     |some o=>some (ae (.int .i64 (.ofNat k)),[(g1,o)])
     |none=>none
    |_,_=>none
   |none=>none
  |_=>none
 |none=>none
def l6(h:Hp)(t:TypeId)(d:ES):cc :=
 match T t with
 |some ty=>match ty.sh with
  | .slice e=>match T e,ze e with
   |some te,some zs=>bif Nat.beq zs.length te.size then(match d with
    | .w (.one (.slc g1 u1 off1 n1 _))=>match iQ (h g1) u1 off1 (g8 zs n1) with
     |some o=>some (.tup [],[(g1,o)])
     |none=>none
    | .w (.one (.iv (.sl [])))=>some (.tup [],[])
    | .w (.one (.iv (.nil 3)))=>some (.tup [],[])
    |_=>none) else none
   |_,_=>none
  |_=>none
 |none=>none
def uE(mx:Bool)(x y:ES):cc :=
 match x,y with
 | .w (.one (.iv (.int k a))),.w (.one (.iv (.int _ c)))=>bif mx then iM k (if c>a then c else a) else iM k (if c<a then c else a)
 |_,_=>none
def gc(h:Hp)(g:Nat)(b:Builtin)(ats:List TypeId)(args:List ES):cc :=
 match b,args,ats with
 | .len,[x],[t]=>ot T t x
 | .max,[x,y],_=>uE true x y
 | .min,[x,y],_=>uE false x y
 | .append,[s,x],[t,t']=>bif Nat.beq t t' then jc T h g t s x else none
 | .copy,[d,x],[t,_]=>oc T h t d x
 | .clear,[d],[t]=>l6 T ze h t d
 |_,_,_=>none
def ri:List EV->Option (List Int)
 | []=>some []
 | .iv (.int .i64 n)::l=>(ri l).map (n :: ·)
 |_=>none
inductive KV where
 |str (s:List UInt8)
 |ints (l:List Int)
 deriving DecidableEq
def iK:EW->Option KV
 | .one (.iv (.str s))=>some (.str s)
 | .agg cs=>(ri cs).map .ints
 |_=>none
def fN(ok:KV->Bool)(k:KV):List (EW×EW×Nat)->Nat->Option (List (Nat×EW×Nat))
 | [],_=>some []
 | (x,y,b)::l,i=>match iK x,fN ok k l (i+1) with
   |some k',some r=>bif ok k' then(bif decide (k'=k) then some ((i,y,b)::r) else some r) else none
   |_,_=>none
def vL(h:Hp)(g:Nat)(res:Option ES):cc :=
 match res,h g with
 |none,none=>some (.w (.one (.mp g)),[(g,.map [] 0)])
 |_,_=>none
def m9(mk:TypeId->Option (TypeId×TypeId×(KV->Bool)))(zw:TypeId->Option EW)(h:Hp)(t:TypeId)(x ix:ES)(cok:Bool):cc :=
 match mk t,x,ix with
 |some (_,e,ok),.w (.one (.mp g)),.w kx=>match h g,iK kx with
  |some (.map es _),some k=>bif ok k then(match fN ok k es 0,zw e with
   |some [],some z=>some (bif cok then .tup [z,.one (.iv (.bool false))] else .w z,[])
   |some [(_,y,_)],some _=>some (bif cok then .tup [y,.one (.iv (.bool true))] else .w y,[])
   |_,_=>none) else none
  |_,_=>none
 |_,_,_=>none
def jR(mk:TypeId->Option (TypeId×TypeId×(KV->Bool)))(h:Hp)(t:TypeId)(x ix y:ES):cc :=
 match mk t,x,ix,y with
 |some (_,_,ok),.w (.one (.mp g)),.w kx,.w v=>match h g,iK kx with
  |some (.map es ck),some k=>bif ok k then(match fN ok k es 0 with
   |some []=>bJ (ck+1) fun ck'=>gE (es ++ [(kx,v,ck)]) fun es'=>some (.und,[(g,.map es' ck')])
   |some [(i,_,b)]=>gE (es.set i (kx,v,b)) fun es'=>some (.und,[(g,.map es' ck)])
   |_=>none) else none
  |_,_=>none
 |_,_,_,_=>none
def pz(mk:TypeId->Option (TypeId×TypeId×(KV->Bool)))(h:Hp)(g:Nat)(t:TypeId)(x:ES):cc :=
 match mk t,x with
 |some _,.w (.one (.mp gm))=>match h gm,h g with
  |some (.map _ ck),none=>bJ ck fun ck=>some (.w (.one (.ptr g 0 0)),[(g,.iter gm ck [] ck none)])
  |_,_=>none
 |_,_=>none
def rN(b:Nat):List (EW×EW×Nat)->Option (EW×EW)
 | []=>none
 | (k,v,b')::l=>bif Nat.beq b' b then some (k,v) else rN b l
def rD(h:Hp)(x:ES):cc :=
 match x with
 | .w (.one (.ptr gi 0 0))=>match h gi with
  |some (.iter gm _ _ last (some b))=>match h gm with
   |some (.map es ck)=>bif Nat.beq ck last then(match rN b es with
    |some (k,v)=>some (.tup [k,v],[])
    |none=>none) else none
   |_=>none
  |_=>none
 |_=>none
def wn(T:TypeId->Option TY)(t:TypeId)(x ix:ES):cc :=
 match T t,x,ix with
 |some ty,.w (.agg cs),.w (.one (.iv (.int _ (.ofNat i))))=>match ty.sh with
  | .array n e=>match T e with
   |some te=>bif Nat.blt i n&&(Nat.beq te.size 1 && !te.sh.agg) then(match cs[i]? with
    |some c=>some (.w (.one c),[])
    |none=>none) else none
   |none=>none
  |_=>none
 |_,_,_=>none
end
structure Tab where
 T:TypeId->Option TY
 zw:TypeId->Option EW
 mp:TypeId->Option (TypeId×TypeId×(KV->Bool))
def Tab.ze(B:Tab)(Z:QS)(t:TypeId):Option (List EV):=(B.zw t).map (·.cells Z)
def eOp(Z:QS)(B:Tab)(o:Op)(V:Operand->ES)(h:Hp)(g:Nat):cc :=
 match o with
 | .move x | .assign x=>some (V x,[])
 | .pick c a b=>wB (V c) (V a) (V b)
 | .alloc t=>tH (B.ze Z) h g t
 | .box t x=>ua Z h g t (V x)
 | .build t parts=>zU B.T (B.ze Z) Z t (parts.toList.map fun p=>(p.1,V p.2))
 | .buildSlice t len parts=>vb B.T (B.ze Z) Z h g t len (parts.toList.map fun p=>(p.1,V p.2))
 | .load t x=>ke B.T Z h t (V x)
 | .store t x y=>py B.T Z h t (V x) (V y)
 | .nilCheck x=>Az (V x)
 | .binOp op t x y _=>pX B.T op t (V x) (V y)
 | .unOp op _ x=>sf op (V x)
 | .convert s d x=>wC B.T s d (V x)
 | .makeFunc fn first captured=>yn fn (first.toList.map V) (captured.toList.map V)
 | .makeSlice t l c=>sW B.T (B.ze Z) h g t (V l) (V c)
 | .slice t x lo hi mx=>jd B.T h t (V x) (lo.map V) (hi.map V) (mx.map V)
 | .fieldAddr s x j=>qR B.T s (V x) j
 | .field s x j=>zS B.T Z s (V x) j
 | .indexAddr t x ix=>nU B.T t (V x) (V ix)
 | .extract x j=>yB (V x) j
 | .call { callee:=.builtin b,args,argTypes }=>gc B.T (B.ze Z) h g b argTypes.toList (args.toList.map V)
 | .makeMap _ r=>vL h g (r.map V)
 | .lookup t x ix c=>m9 B.mp B.zw h t (V x) (V ix) c
 | .mapUpdate t m k v=>jR B.mp h t (V m) (V k) (V v)
 | .insert t m k v=>jR B.mp h t (V m) (V k) (V v)
 | .range t x=>pz B.mp h g t (V x)
 | .entry x=>rD h (V x)
 | .index t x ix=>wn B.T t (V x) (V ix)
 |_=>none
inductive KVR:Value->KV->Prop
 |str (s:ByteArray):KVR (.string s) (.str s.data.toList)
 |ints (l:List Int):KVR (.agg (l.map (Value.int .i64)).toArray) (.ints l)
structure EX where
 P:Program
 B:Tab
 hT:cu P B.T
 hm:P.follows .mixedOrders=true
 I:World->Prop
 Z:QS
 hzw:∀t y,B.zw t=some y->∃i z,P.info? t=some i/\i.zero=some z/\∀H U,WR Z H U z y
 hmk:∀t k e ok,B.mp t=some (k,e,ok)->P.underlying t=some (.map k e)/\Maps.Keyed P k/\∀v kv,KVR v kv->ok kv=true->∃l,keyOf P k v=some l
abbrev EX.T(X:EX):TypeId->Option TY:=X.B.T
abbrev EX.ze(X:EX):TypeId->Option (List EV):=X.B.ze X.Z
def EX.hze(X:EX)(t:TypeId)(cs:List EV)(h:X.ze t=some cs):∃i z,X.P.info? t=some i/\i.zero=some z/\∀H U,CRL X.Z H U z.cells.toList cs:=by
 unfold EX.ze Tab.ze at h;cases hz:X.B.zw t with
 |none=>rw[hz] at h;cases h
 |some y=>
  rw[hz] at h;simp only[fE,ai] at h;obtain⟨i,z,h1,h2,h3⟩:=X.hzw t y hz;exact⟨i,z,h1,h2,fun H U=>by rw[<-h];exact(h3 H U).cells⟩
structure ESt(X:EX)(E:EEnv)(nt:Nat)(H:ak)(U:Bm)(tm:Nat->ES)(h:Hp)(a:Act)(w:World):Prop where
 sim:ESim X.Z E H U h w
 slot:∀t,SRe X.Z H U (a.tmps.getD t undef) (tm t)
 size:a.tmps.size=nt
def dz(tm:Nat->ES)(dst:Option Nat)(r:ES):Nat->ES :=
 match dst with
 |some d=>az tm d r
 |none=>tm
def bw(h:Hp):Wr->Hp
 | []=>h
 | (g,o)::l=>bw (az h g (some o)) l
def MarkSame(w w':World):Prop:=∀D:Nat,w.heap[D]?=some (Obj.deferred (some []))->w'.heap[D]?=w.heap[D]?
def MarkSame.refl(w:World):MarkSame w w:=fun _ _=>rfl
def MarkSame.below{w w':World}(h:Below w.heap.size w w'):MarkSame w w':=fun D hD=>h.block D (Array.getElem?_eq_some_iff.1 hD).1
def MarkSame.row{w:World}{b:Nat}{cs arr:Array Value}{e:TypeId}{fr:Nat×Nat}(hb:w.heap[b]?=some (.cells arr e fr)):MarkSame w (w.setRow b cs):=fun D hD=>nM w b D cs (fun e'=>by subst e';rw[hb] at hD;cases hD)
section
variable {X:EX}{E:EEnv}{nt:Nat}{H H':ak}{U U':Bm}{tm:Nat->ES}{h h':Hp}{a:Act}{w w':World}{o:Oper}
def Xo(v:Value):SRe X.Z H U v (cE v):=by
 unfold cE;split<;>first
  |trivial
  |exact⟨rfl,VR.bool _⟩
  |exact⟨rfl,VR.int _ _⟩
  |exact⟨rfl,VR.str _ _ rfl⟩
  |exact⟨rfl,VR.nilS⟩
  |exact⟨rfl,VR.nilI⟩
  |exact⟨rfl,VR.nilF⟩
  |exact⟨rfl,VR.nilP⟩
def PK{v:Value}{x:IV}(h:VR H v x)(h1:x.isTup=false)(h2:x.isAgg=false):v.oneCell'=true:=by
 cases h<;>first|rfl|(simp[IV.isTup] at h1;done)|(simp[IV.isAgg] at h2;done)
def MG{v:Value}{x:IV}(h:VR H v x)(ht:x.isTup=false):WR X.Z H U v (dW x):=by
 cases hx:x.isAgg with
 |true=>
  cases x<;>first|(simp[IV.isAgg] at hx;done)|skip
  rename_i cs;obtain⟨vs,rfl,h1,h2⟩:=h.asAgg;exact⟨vs,rfl,Ct h1 h2⟩
 |false=>
  have e:dW x=.one (.iv x):=by cases x<;>first|rfl|simp[IV.isAgg] at hx
  rw[e];exact⟨PK h ht hx,h⟩
def Al{v:Value}{x:IV}(h:VR H v x)(ht:x.isTup=false):SRe X.Z H U v (dS x):=by
 have e:dS x=.w (dW x):=by cases x<;>first|rfl|simp[IV.isTup] at ht
 rw[e];exact MG h ht
def bF(hS:ESt X E nt H U tm h a w)(x:Operand):SRe X.Z H U (a.eval x) (am tm x):=by
 cases x with
 |tmp t=>exact hS.slot t
 |const v=>exact Xo v
 |func f=>exact⟨rfl,VR.fn f⟩
 |global _=>trivial
def ESt.fin(hS:ESt X E nt H U tm h a w){dst:Option Nat}(hd:∀d,dst=some d->d<nt)(hH:HLe H H')(hB:BLe U U')(hs:ESim X.Z E H' U' h' w'){v:Value}{r:ES}(hv:SRe X.Z H' U' v r) :
 ESt X E nt H' U' (dz tm dst r) h' (a.put dst v) w':=by
 cases dst with
 |none=>exact⟨hs,fun t=>(hS.slot t).mono hH hB,hS.size⟩
 |some d=>
  refine⟨hs,fun t=>?_,?_⟩
  .
   have hlt:d<a.tmps.size:=by rw[hS.size];exact hd d rfl
   show SRe X.Z H' U' ((a.tmps.setIfInBounds d v).getD t undef) (az tm d r t);by_cases ht:t=d
   . subst ht;have e:(a.tmps.setIfInBounds t v).getD t undef=v:=by simp[Array.getD,hlt]
     rw[e,a6];exact hv
   have e:(a.tmps.setIfInBounds d v).getD t undef=a.tmps.getD t undef:=by
    simp only[FB,NO];rw[aq (by omega)]
   rw[e,aI _ _ _ ht];exact(hS.slot t).mono hH hB
  show(a.tmps.setIfInBounds d v).size=nt;rw[FG];exact hS.size
def OpOk(X:EX)(E:EEnv)(H:ak)(U:Bm)(h:Hp)(a:Act)(w:World)(o:Oper)(r:ES)(ws:Wr):Prop :=
 ∃v w' U',((execOp a.eval o).run X.P w=.ok (.value v) w'\/(v=undef/\(execOp a.eval o).run X.P w=.ok .skip w'))/\BLe U U'/\ESim X.Z E H U' (bw h ws) w'/\MarkSame w w'/\SRe X.Z H U' v r
def OpOk.pure(hS:ESt X E nt H U tm h a w){v:Value}{r:ES}(hr:(execOp a.eval o).run X.P w=.ok (.value v) w)(hv:SRe X.Z H U v r):OpOk X E H U h a w o r [] :=
 ⟨v,w,U,.inl hr,BLe.refl _,hS.sim,MarkSame.refl _,hv⟩
def oZ{k:IntKind}{n:Int}{r:ES}{ws:Wr}(he:iM k n=some (r,ws)):r=ae (.int k n)/\ws=[]:=by
 unfold iM at he;rw[Ch] at he;simp only[ai,aC] at he;exact⟨he.1.symm,he.2.symm⟩
def q9{b:Bool}{r:ES}{ws:Wr}(he:ju b=some (r,ws)):r=ae (.bool b)/\ws=[]:=by
 cases b<;>(simp only[ju,ai,aC] at he;exact⟨he.1.symm,he.2.symm⟩)
def SRe.int{v:Value}{k:IntKind}{n:Int}(h:SRe X.Z H U v (.w (.one (.iv (.int k n))))):v=.int k n:=VR.asInt h.2
def SRe.bool{v:Value}{b:Bool}(h:SRe X.Z H U v (.w (.one (.iv (.bool b))))):v=.bool b:=oV h.2
def rH{v:Value}(h:VR H v (.nil 3)):v=.slice none 0 0:=by cases h;rfl
def ok_move(hS:ESt X E nt H U tm h a w){x:Operand}(ho:o.op=.move x\/o.op=.assign x):OpOk X E H U h a w o (am tm x) []:=by
 refine OpOk.pure hS (v:=a.eval x) ?_ (bF hS x);rcases ho with ho|ho<;>simp only[execOp,ho]<;>rfl
def ok_pick(hS:ESt X E nt H U tm h a w){c x y:Operand}(ho:o.op=.pick c x y){r:ES}{ws:Wr}(he:wB (am tm c) (am tm x) (am tm y)=some (r,ws)):OpOk X E H U h a w o r ws:=by
 have hc:=bF hS c;unfold wB at he;split at he<;>rename_i hcc<;>(try cases he)
 . rw[hcc] at hc;refine OpOk.pure hS (v:=a.eval x) ?_ (bF hS x);simp only[execOp,ho,hc.bool,asBool,aw,aA,av];rfl
 rw[hcc] at hc;refine OpOk.pure hS (v:=a.eval y) ?_ (bF hS y);simp only[execOp,ho,hc.bool,asBool,aw,aA,av];rfl
def tl(hS:ESt X E nt H U tm h a w){g:Nat}{e:TypeId}{cs:List EV}{k:Nat->Nat->ES}{r:ES}{ws:Wr}(he:il h g e cs k=some (r,ws)){arr:Array Value}(ha:CRL X.Z H U (arr.toList.take cs.length) cs)(hl:cs.length<=arr.size:=by omega) :
 ∃ U',BLe U U'/\U' g 0=some (w.heap.size,arr.size)/\ESim X.Z E H U' (bw h ws) (w.alloc (.cells arr e))/\MarkSame w (w.alloc (.cells arr e))/\r=k g cs.length:=by
 unfold il at he;split at he
 .
  rename_i hg;rw[dE,bz] at he;simp only[ai,aC] at he;obtain⟨rfl,rfl⟩:=he;have hbe:Below w.heap.size w (w.alloc (.cells arr e)):=(kA _ _).alloc (ah _) _;have hnew:H w.heap.size=none:=by
   cases hx:H w.heap.size with
   |none=>rfl
   |some arr'=>have:=hS.sim.has.lt hx;omega
  obtain⟨hb,hs⟩:=hS.sim.alloc hg (b:=.cells arr e) (s:=arr.size) (o:=.mem e cs false [(0,cs.length)] 1) Nat.one_pos (by
   refine⟨fun _ u k hk=>?_,fun u p hup=>?_⟩
   . by_cases e:u=0
     . subst e;rw[fH] at hk;cases hk;exact hnew
     rw[kE _ _ _ _ (fun e'=>e e'.2),hS.sim.noB hg] at hk;cases hk
   simp only[fg,aC] at hup;obtain⟨rfl,rfl⟩:=hup;refine⟨Nat.one_pos,_,arr,fH _ _ _ _,hS.sim.lo _ (ah _),by simpa using hnew,nK _ _,rfl,ah _,hl,?_⟩;rw[cN];exact ha.mono (HLe.refl _) (kI (hS.sim.noB hg 0)))
  exact⟨_,hb,fH _ _ _ _,hs,MarkSame.below hbe,rfl⟩
 cases he
def EX.run_zero{t:TypeId}{cs:List EV}(hz:X.ze t=some cs):∃z:Value,(∀w,(zeroValue t).run X.P w=.ok z w)/\(∀H U,CRL X.Z H U z.cells.toList cs)/\z.cells.size=cs.length/\∃i,X.P.info? t=some i/\i.zero=some z:=by
 obtain⟨i,z,h1,h2,h3⟩:=X.hze t cs hz;exact⟨z,fun w=>by simp[zeroValue,typeInfo,h1,h2],h3,by have:=(h3 (fun _=>none) (fun _ _=>none)).length;simpa using this,i,h1,h2⟩
def ok_alloc(hS:ESt X E nt H U tm h a w){t:TypeId}(ho:o.op=.alloc t){g:Nat}{r:ES}{ws:Wr}(he:tH X.ze h g t=some (r,ws)):OpOk X E H U h a w o r ws:=by
 unfold tH at he;split at he
 . rename_i cs hz;obtain⟨z,hz1,hz2,hz3,_⟩:=EX.run_zero hz;obtain⟨U',b1,b2,b3,b4,rfl⟩:=tl hS he (arr:=z.cells) (by rw[ay (by simp[hz3])];exact hz2 H U);refine⟨.pointer (some ⟨w.heap.size,0,none⟩),_,U',.inl ?_,b1,b3,b4,⟨_,b2,rfl⟩⟩;simp only[execOp,ho,Instr.alloc,aw,hz1,av,newVar,newRow,nL,aA];rfl
 cases he
def ok_box(hS:ESt X E nt H U tm h a w){t:TypeId}{x:Operand}(ho:o.op=.box t x){g:Nat}{r:ES}{ws:Wr}(he:ua X.Z h g t (am tm x)=some (r,ws)):OpOk X E H U h a w o r ws:=by
 have hx:=bF hS x;unfold ua at he;split at he
 . rename_i y hy;rw[hy] at hx;have hx:WR X.Z H U (a.eval x) y:=hx;obtain⟨U',b1,b2,b3,b4,rfl⟩:=tl hS he (arr:=(a.eval x).cells) (by rw[ay (by simp[hx.size])];exact hx.cells) (by rw[hx.size];exact ah _);refine⟨.pointer (some ⟨w.heap.size,0,none⟩),_,U',.inl ?_,b1,b3,b4,⟨_,b2,rfl⟩⟩;simp only[execOp,ho,Instr.box,aw,av,newVar,newRow,nL,aA];rfl
 cases he
def yz{places:Nat->Option (Nat×Nat)}{V:Operand->Value}{f:Operand->ES}(hρ:∀x,SRe X.Z H U (V x) (f x)):∀{parts:List (Nat×Operand)} {cs:List EV} {cells:Array Value} {r:List EV},CRL X.Z H U cells.toList cs->kT X.Z places cs (parts.map fun p=>(p.1,f p.2))=some r->
 ∃cells',Instr.fill places cells (parts.map fun p=>(p.1,V p.2))=some cells'/\CRL X.Z H U cells'.toList r
 | [],cs,cells,r,hc,he=>by
  simp only[eP,kT,ai] at he;subst he;exact⟨cells,rfl,hc⟩
 | (j,x)::rest,cs,cells,r,hc,he=>by
   have hx:=hρ x;simp only[aZ] at he;cases hfx:f x with
   |w y=>
    rw[hfx] at he hx;have hx:WR X.Z H U (V x) y:=hx;unfold kT at he;split at he
    .
     rename_i off sz hp;cases hb:(Nat.beq (y.cells X.Z).length sz&&Nat.ble (off+sz) cs.length) with
     |false=>rw[hb] at he;cases he
     |true=>
      rw[hb] at he;simp only[al] at he;simp only[aH] at hb;have c1:=aB hb.1;have c2:=bl hb.2;have hs:=hx.size;have hl:=hc.length;simp only[fC] at hl;have hfit:off+(V x).cells.size<=cells.size:=by omega
      have hfold:=BG (V x) cells off hfit;obtain⟨cells',e1,e2⟩:=yz hρ (parts:=rest) (cs:=splice cs off (y.cells X.Z)) (cells:=(V x).cells.zipIdx.foldl (fun cs (c,j)=>cs.setIfInBounds (off+j) c) cells) (by rw[hfold];exact hc.splice hx.cells off) he;refine⟨cells',?_,e2⟩;simp only[aZ,Instr.fill,hp];have hsz:(V x).cells.size=sz:=by omega
      rw[aq (by simp only[ne_eq,hsz,uH,decide_false,xe,ff];omega)];exact e1
    cases he
   |_=>rw[hfx] at he;unfold kT at he;cases he
def ok_build(hS:ESt X E nt H U tm h a w){t:TypeId}{parts:Array (Nat×Operand)}(ho:o.op=.build t parts){r:ES}{ws:Wr}(he:zU X.T X.ze X.Z t (parts.toList.map fun p=>(p.1,am tm p.2))=some (r,ws)):OpOk X E H U h a w o r ws:=by
 unfold zU at he;split at he
 .
  rename_i ty zs ht hz;obtain⟨i,d,z,ok⟩:=aT (X.hT t ty ht);obtain⟨z',hz1,hz2,hz3,i',hz4,hz5⟩:=EX.run_zero hz;have hd':=ok.sh;have ei:i'=i:=by have:=ok.info;rw[hz4] at this;simpa using this
  subst ei;have ez:z'=z:=by have:=ok.zero;rw[hz5] at this;simpa using this
  subst ez;split at he
  .
   rename_i hsh;rw[hsh] at hd';obtain⟨fs,rfl⟩:=qM hd';have hfields:ja X.P fs.toList=some ty.fields:=ok.fields;have hpl:=Bl hfields;split at he
   .
    rename_i cs hf;rw[dE] at he;simp only[ai,aC] at he;obtain⟨rfl,rfl⟩:=he;have hplace:(fun j=>(ty.fields[j]?).map fun p=>(p.1,p.2.2))=(((ty.fields.map fun p=>(p.1,p.2.2)).toArray[·]?):Nat->Option (Nat×Nat)):=by funext j;simp
    rw[hplace] at hf;obtain⟨cells',e1,e2⟩:=yz (fun x=>bF hS x) (hz2 H U) hf;refine OpOk.pure hS (v:=.agg cells') ?_ ?_
    . have hr:=Gg ok w (parts.map fun(i,x)=>(i,a.eval x)) hpl (cells:=cells') (by simpa using e1);simp only[execOp,ho,aw,hr,av,aA]
    have:=CH e2;show WR _ _ _ _ _;simpa using this
   cases he
  .
   rename_i n e hsh;rw[hsh] at hd';obtain rfl:=sR hd';split at he
   .
    rename_i te hte;obtain⟨ie,de,zee,oke⟩:=aT (X.hT e te hte);split at he
    . rename_i cs hf;rw[dE] at he;simp only[ai,aC] at he;obtain⟨rfl,rfl⟩:=he;obtain⟨cells',e1,e2⟩:=yz (fun x=>bF hS x) (hz2 H U) hf;refine OpOk.pure hS (v:=.agg cells') ?_ ?_
      . have hr:=Gk ok oke w (parts.map fun(i,x)=>(i,a.eval x)) (cells:=cells') (by simpa using e1);simp only[execOp,ho,aw,hr,av,aA]
      have:=CH e2;show WR _ _ _ _ _;simpa using this
    cases he
   cases he
  cases he
 cases he
end
section
variable {X:EX}{E:EEnv}{nt:Nat}{H H':ak}{U U':Bm}{tm:Nat->ES}{h h':Hp}{a:Act}{w w':World}{o:Oper}
def xY(zs:List EV):∀n,(g8 zs n).length=n*zs.length
 |0=>by simp[g8]
 |n+1=>by simp[g8,xY zs n,bQ];omega
def vQ{z:Value}{zs:List EV}(hz:CRL X.Z H U z.cells.toList zs):∀n,CRL X.Z H U (aX (List.replicate n z)) (g8 zs n)
 |0=>trivial
 |n+1=>by
  rw[qA,nY];exact hz.append (vQ hz n)
def GI{Z:QS}{places:Nat->Option (Nat×Nat)}:∀(parts:List (Nat×ES)) {cs r:List EV},kT Z places cs parts=some r->r.length=cs.length
 | [],cs,r,he=>by simp only[kT,ai] at he;rw[he]
 | (j,x)::rest,cs,r,he=>by
   cases x with
   |w y=>
    unfold kT at he;split at he
    .
     rename_i off sz hp;cases hb:(Nat.beq (y.cells Z).length sz&&Nat.ble (off+sz) cs.length) with
     |false=>rw[hb] at he;cases he
     |true=>
      rw[hb] at he;simp only[al] at he;simp only[aH] at hb;have c1:=aB hb.1;have c2:=bl hb.2;rw[GI rest he,jm]
    cases he
   |_=>unfold kT at he;cases he
def ok_buildSlice(hS:ESt X E nt H U tm h a w){t:TypeId}{len:Nat}{parts:Array (Nat×Operand)}(ho:o.op=.buildSlice t len parts){g:Nat}{r:ES}{ws:Wr}(he:vb X.T X.ze X.Z h g t len (parts.toList.map fun p=>(p.1,am tm p.2))=some (r,ws)):OpOk X E H U h a w o r ws:=by
 unfold vb at he;split at he
 .
  rename_i ty ht;obtain⟨i,d,z,ok⟩:=aT (X.hT t ty ht);have hd':=ok.sh;split at he
  .
   rename_i e hsh;rw[hsh] at hd';obtain rfl:=fG hd';split at he
   .
    rename_i te zs hte hz;obtain⟨ie,de,zee,oke⟩:=aT (X.hT e te hte);obtain⟨ze,hz1,hz2,hz3,i',hz4,hz5⟩:=EX.run_zero hz;cases hb:(Nat.blt 0 te.size&&Nat.ble (len*te.size) 16777216&&Nat.beq zs.length te.size) with
    |false=>rw[hb] at he;cases he
    |true=>
     rw[hb] at he;simp only[al] at he;simp only[aH] at hb;obtain⟨⟨b1,b2⟩,b3⟩:=hb;have hp:0<te.size:=kz (by simpa[Nat.blt] using b1);have hl:=bl b2;have hzl:=aB b3;have hzc:ze.cells.size=te.size:=by omega
     split at he
     .
      rename_i cs hf;have hmf:=vo hzc hp len;obtain⟨cells',e1,e2⟩:=yz (fun x=>bF hS x) (cells:=madeCells ze.cells (len*te.size)) (by rw[hmf];exact vQ (hz2 H U) len) hf;have hcl:=e2.length;simp only[fC] at hcl;have hsz:cells'.size=len*te.size:=by
       rw[hcl,GI _ hf,xY,hzl]
      obtain⟨U',b1,b2,b3,b4,rfl⟩:=tl hS he (arr:=cells') (by rw[ay (by simp[hcl])];exact e2);refine⟨.slice (some ⟨w.heap.size,0,none⟩) len len,_,U',.inl ?_,b1,b3,b4,⟨_,len,b2,rfl,ah _,rfl⟩⟩;have hnl:¬(len*te.size>2^24):=by omega
      have e1':Instr.fill (fun i=>some (i*te.size,te.size)) (madeCells ze.cells (len*te.size)) (parts.map fun(i,x)=>(i,a.eval x)).toList=some cells':=by simpa using e1
      simp only[execOp,ho,Instr.buildSlice,aw,ok.run_und,av,oke.run_size,hnl,bM];by_cases h0:len*te.size=0
      . have em:madeCells ze.cells (len*te.size)=(Array.range (len*te.size)).map (fun x=>(#[]:Array Value)[x%(#[]:Array Value).size]!):=by
         simp[h0,madeCells,Array.range_zero']
        rw[em] at e1';simp only[au h0,aw,aA,av,e1',newRow,nL];rfl
      have em:madeCells ze.cells (len*te.size)=(Array.range (len*te.size)).map (fun x=>ze.cells[x%ze.cells.size]!):=rfl;rw[em] at e1';simp only[aq h0,aw,aA,av,hz1,e1',newRow,nL];rfl
     cases he
   cases he
  cases he
 cases he
def ok_makeSlice(hS:ESt X E nt H U tm h a w){t:TypeId}{l c:Operand}(ho:o.op=.makeSlice t l c){g:Nat}{r:ES}{ws:Wr}(he:sW X.T X.ze h g t (am tm l) (am tm c)=some (r,ws)):OpOk X E H U h a w o r ws:=by
 have hl:=bF hS l;have hc:=bF hS c;unfold sW at he;split at he
 .
  rename_i ty k1 m k2 m' ht hle hce;rw[hle] at hl;rw[hce] at hc;obtain⟨i,d,z,ok⟩:=aT (X.hT t ty ht);have hd':=ok.sh;split at he
  .
   rename_i e hsh;rw[hsh] at hd';obtain rfl:=fG hd';split at he
   .
    rename_i te zs hte hz;obtain⟨ie,de,zee,oke⟩:=aT (X.hT e te hte);obtain⟨ze,hz1,hz2,hz3,i',hz4,hz5⟩:=EX.run_zero hz;cases hb:(Nat.beq m m'&&Nat.blt 0 te.size&&Nat.beq zs.length te.size&&Nat.ble (te.bytes*m) 281474976710656&&Nat.ble m 1000000) with
    |false=>rw[hb] at he;cases he
    |true=>
     rw[hb] at he;simp only[al] at he;simp only[aH] at hb;obtain⟨⟨⟨⟨b0,b1⟩,b3⟩,b4⟩,b5⟩:=hb;have em:=aB b0;subst em;have hp:0<te.size:=kz (by simpa[Nat.blt] using b1);have hzl:=aB b3;have h4:=bl b4;have h5:=bl b5;have hzc:ze.cells.size=te.size:=by omega
     have hmf:=vo hzc hp m;have hms:(madeCells ze.cells (m*te.size)).size=m*te.size:=by simp[size_madeCells]
     obtain⟨U',b1,b2,b3,b4,rfl⟩:=tl hS he (arr:=madeCells ze.cells (m*te.size)) (by rw[ay (by rw[fC,hms,xY,hzl];exact ah _),hmf];exact vQ (hz2 H U) m) (by rw[hms,xY,hzl];exact ah _);have hb':((ie.bytes:Nat):Int)*(m:Int)<=281474976710656:=by
      rw[oke.bytes];have:((te.bytes*m:Nat):Int)<=281474976710656:=by omega
      rwa[kB] at this
     have ez:i'=ie:=by have:=oke.info;rw[hz4] at this;simpa using this
     subst ez;have hr:=run_make (P:=X.P) w t e i' ze ok.und hz4 hz5 k1 k2 (m:Int) (m:Int) (by omega) (uM _) hb' (by omega);simp only[mL,oke.size] at hr;refine⟨.slice (some ⟨w.heap.size,0,none⟩) m m,_,U',.inl ?_,b1,b3,b4,⟨_,m,b2,rfl,ah _,rfl⟩⟩;have e1:=hl.int;have e2:=hc.int;simp only[iA] at e1 e2;simp only[execOp,ho,e1,e2,aw,hr,av,aA]
   cases he
  cases he
 cases he
def oX{u p:Nat}:∀{vs:List (Nat×Nat)},cW u vs=some p->(u,p)∈vs
 | [],h=>by simp[cW] at h
 | (v,q)::l,h=>by
   unfold cW at h;cases hb:Nat.beq v u with
   |true=>
    rw[hb] at h;simp only[al,ai] at h;rw[aB hb,h];simp
   |false=>rw[hb] at h;exact dC _ (oX h)
def zy(hS:ESim X.Z E H U h w){g u off n:Nat}{cs:List EV}(he:ji (h g) u off n=some cs) :
 ∃k arr e,U g u=some k/\w.heap[k.1]?=some (.cells arr e (0,0))/\off+n<=arr.size/\CRL X.Z H U ((arr.toList.drop off).take n) cs/\arr.size=k.2/\cs.length=n:=by
 unfold ji at he;split at he
 .
  rename_i e cs0 fz vs cnt hg;split at he
  .
   rename_i p hv;cases hb:Nat.ble (off+n) p with
   |false=>rw[hb] at he;cases he
   |true=>
    rw[hb] at he;simp only[al,ai] at he;subst he;have hle:=bl hb;obtain⟨_,k,arr,h1,h2,h3,h4,h5,h6,h7,h8⟩:=(hS.obj g _ hg).2 u p (oX hv);refine⟨k,arr,e,h1,h4,by omega,?_,h5,by simp;omega⟩;have:=(h8.drop off).take n;rw[mH,mH,cB,cB,ce (by omega)] at this;exact this
  cases he
 cases he
def mkV_ok{ag:Bool}{cs:List EV}{r:EW}(he:mkV X.Z ag cs=some r){vs:List Value}(hv:CRL X.Z H U vs cs):(ag=true/\WR X.Z H U (.agg vs.toArray) r)\/(ag=false/\∃v,vs=[v]/\WR X.Z H U v r):=by
 unfold mkV at he;split at he
 . simp only[ai] at he;subst he;exact .inl ⟨rfl,CH hv⟩
 split at he
 .
  simp only[ai] at he;subst he;cases vs with
  |nil=>exact hv.elim
  |cons v vs=>cases vs with
   |nil=>exact .inr ⟨rfl,v,rfl,hv.1⟩
   |cons=>exact hv.2.elim
 cases he
def Ub(hS:ESt X E nt H U tm h a w){t:TypeId}{x:Operand}(ho:o.op=.load t x){r:ES}{ws:Wr}(he:ke X.T X.Z h t (am tm x)=some (r,ws)):OpOk X E H U h a w o r ws:=by
 have hx:=bF hS x;unfold ke at he;split at he
 .
  rename_i ty g u off ht hxe;rw[hxe] at hx;obtain⟨k,hk,hx⟩:=hx;obtain⟨i,d,z,ok⟩:=aT (X.hT t ty ht);split at he
  .
   rename_i cs hrd;rw[dE] at he;obtain⟨k',arr,e,h1,h2,h3,h4,h5,h6⟩:=zy hS.sim hrd;rw[hk] at h1;cases h1;split at he
   .
    rename_i y hv;simp only[ai,aC] at he;obtain⟨rfl,rfl⟩:=he;have hcell:∀j c,((arr.toList.drop off).take ty.size)[j]?=some c->w.cell? ⟨k.1,off+j,none⟩=some c:=fun j c hc=>by
     rw[qD w _ _ arr e (0,0) h2];rw[dt] at hc;split at hc
     . simpa using hc
     simp at hc
    rcases mkV_ok hv h4 with⟨q1,q2⟩|⟨q1,v,q2,q3⟩
    .
     refine OpOk.pure hS (v:=.agg ((arr.toList.drop off).take ty.size).toArray) ?_ q2;have hl:=NR (P:=X.P) w ⟨k.1,off,none⟩ ((arr.toList.drop off).take ty.size) (fun j c hc=>by rw[eW];exact hcell j c hc);have hlen:((arr.toList.drop off).take ty.size).length=ty.size:=by simp;omega
     rw[hlen] at hl;have hr:(loadVar t ⟨k.1,off,none⟩).run X.P w=.ok (.agg ((arr.toList.drop off).take ty.size).toArray) w:=by
      simp only[loadVar,aw,ok.run_agg,q1,av,bL,ok.run_size,hl,aA]
     simp only[execOp,ho,hx,Instr.loadAt,Instr.sureAddr,aw,aA,av,hr]
    refine OpOk.pure hS (v:=v) ?_ q3;have h0:=hcell 0 v (by rw[q2];rfl);rw[fF] at h0;have hr:(loadVar t ⟨k.1,off,none⟩).run X.P w=.ok v w:=by
     simp only[loadVar,aw,ok.run_agg,q1,av,dB,bM,run_load,h0]
    simp only[execOp,ho,hx,Instr.loadAt,Instr.sureAddr,aw,aA,av,hr]
   cases he
  cases he
 .
  rename_i ty y off ht hxe;rw[hxe] at hx;obtain⟨b,base,v,arr,hxv,hb,h4,h6⟩:=hx;obtain⟨i,d,z,ok⟩:=aT (X.hT t ty ht);obtain⟨e,fr,h5⟩:=hS.sim.has b arr hb;split at he
  .
   rename_i r0 hl;cases hrt:r0.isTup with
   |true=>rw[hrt] at he;cases he
   |false=>
    rw[hrt] at he;simp only[bh,ai,aC] at he;obtain⟨rfl,rfl⟩:=he;obtain⟨u,hr,hu⟩:=sJ ok h5 h4 h6 hl;refine OpOk.pure hS (v:=u) ?_ (Al hu hrt);simp only[execOp,ho,hxv,Instr.loadAt,Instr.sureAddr,aw,aA,av,hr]
  cases he
 cases he
def Rm{u off:Nat}{vs:List (Nat×Nat)}{v q:Nat}(h:(v,q)∈EM u off vs):(v=u/\(v,q)∈vs)\/(v≠u/\∃q',(v,q')∈vs/\q<=q'/\q<=off):=by
 unfold EM at h;obtain⟨p,hp,e⟩:=List.mem_map.1 h;cases hb:Nat.beq p.1 u with
 |true=>
  rw[hb] at e;simp only[al] at e;subst e;exact .inl ⟨aB hb,hp⟩
 |false=>
  rw[hb] at e;simp only[bh,aC] at e;obtain⟨e1,e2⟩:=e;have e2':q=min p.2 off:=e2.symm;refine .inr ⟨fun e'=>?_,p.2,by rw[<-e1];exact hp,by omega,by omega⟩;rw[e1,e',bD] at hb;cases hb
def Bu{α:Type}{A Yz9:List α}{off p:Nat}(h:p<=off)(h2:off<=A.length):(splice A off Yz9).take p=A.take p:=by
 unfold splice;rw[dI,jJ (by simp;omega),cB,ce h]
def xR{α:Type}{A Yz9:List α}{off p:Nat}(h:off+Yz9.length<=p:=by omega)(h2:p<=A.length:=by omega):(splice A off Yz9).take p=splice (A.take p) off Yz9:=by
 apply qE;intro k;rw[dt];by_cases hk:k<p
 . rw[au hk,sN (by omega),sN (by simp;omega),dt,au hk]
 rw[aq hk,sN (by simp;omega),aq (by omega),dt,aq hk]
def zm(hS:ESim X.Z E H U h w){g u off:Nat}{new:List EV}{o':EO}(he:iQ (h g) u off new=some o'){us:List Value}(hu:CRL X.Z H U us new) :
 ∃k arr e,U g u=some k/\w.heap[k.1]?=some (.cells arr e (0,0))/\off+us.length<=arr.size/\arr.size=k.2/\ESim X.Z E H U (az h g (some o')) (w.setRow k.1 (splice arr.toList off us).toArray)/\MarkSame w (w.setRow k.1 (splice arr.toList off us).toArray):=by
 unfold iQ at he;split at he
 .
  rename_i e cs vs cnt hg;split at he
  .
   rename_i p hv;cases hb:Nat.ble (off+new.length) p with
   |false=>rw[hb] at he;cases he
   |true=>
    rw[hb,dE] at he;simp only[al,ai] at he;subst he;have hle:=bl hb;have hO:=hS.obj g _ hg;obtain⟨_,k,arr,h1,h2,h3,h4,h5,h6,h7,h8⟩:=hO.2 u p (oX hv);have h3:H k.1=none:=hO.1 rfl u k h1;have hul:=hu.length;have hsz:(splice arr.toList off us).toArray.size=arr.size:=by
     simp only[lD];rw[jm (by simp;omega),fC]
    have hrow:=uL w k.1 arr (splice arr.toList off us).toArray e (0,0) h4;refine⟨k,arr,e,h1,h4,by omega,h5,?_,MarkSame.row h4⟩;refine hS.turn (by rw[hg];simp) rfl rfl rfl (by simp) (fun k' _ hk'=>nM _ _ _ _ (fun e'=>hk' u k h1 e'.symm)) (fun u' s' hs'=>hO.1 rfl u' s' hs') (BLe.refl _) (fun _ _ _=>rfl) (fun u' k' hk'=>?_) ⟨fun _=>hO.1 rfl,fun v q hvq=>?_⟩
    . obtain⟨hlt,hown,o2,ho2,hc2⟩:=hS.domN hg (by simp) u' k' hk';rw[hg] at ho2;cases ho2;exact⟨hc2,by simpa using hlt,hown,.inl ⟨u',k',hk',rfl⟩⟩
    rcases Rm hvq with⟨rfl,hm⟩|⟨hne,q',hm,hq1,hq2⟩
    .
     obtain⟨c1,k',arr',d1,d2,d3,d4,d5,d6,d7,d8⟩:=hO.2 v q hm;rw[h1] at d1;cases d1;rw[h4] at d4;cases d4;refine⟨c1,k,_,h1,h2,by simpa using h3,hrow,by rw[hsz];exact h5,by rw[jm];exact d6,by rw[hsz];exact d7,?_⟩;rcases gb q (off+new.length) with hlt|hge
     .
      -- the prefix ends inside: cut both
      have e1:(splice arr.toList off us).take q=((splice arr.toList off us).take (off+new.length)).take q:=by rw[cB,ce (by omega)]
      have e2:(splice cs off new).take q=((splice cs off new).take (off+new.length)).take q:=by rw[cB,ce (by omega)]
      show CRL X.Z H U ((splice arr.toList off us).take q) _;have hl1:off+us.length<=off+new.length:=by omega
      have hl2:off+new.length<=arr.toList.length:=by simp;omega
      rw[e1,e2,xR hl1 hl2,xR (ah _)];refine CRL.take q (CRL.splice ?_ hu off);have:=h8.take (off+new.length);rwa[cB,cB,ce hle] at this
     show CRL X.Z H U ((splice arr.toList off us).take q) _;rw[xR (by omega) (by simp;omega),xR];exact d8.splice hu off
    obtain⟨c1,k',arr',d1,d2,d3,d4,d5,d6,d7,d8⟩:=hO.2 v q' hm;have hd8:CRL X.Z H U (arr'.toList.take q) ((splice cs off new).take q):=by
     rw[Bu hq2 (by omega)];have:=d8.take q;rwa[cB,cB,ce hq1] at this
    by_cases hk:k'.1=k.1
    . rw[hk,h4] at d4;cases d4;refine⟨c1,k',_,d1,d2,by rw[hk];simpa using h3,by rw[hk];exact hrow,by rw[hsz];exact d5,by rw[jm];omega,by rw[hsz];omega,?_⟩;show CRL X.Z H U ((splice arr.toList off us).take q) _;rw[Bu hq2 (by simp;omega)];exact hd8
    refine⟨c1,k',arr',d1,d2,d3,(nM _ _ _ _ hk).trans d4,d5,by rw[jm];omega,by omega,hd8⟩
  cases he
 cases he
end
section
variable {X:EX}{E:EEnv}{nt:Nat}{H H':ak}{U U':Bm}{tm:Nat->ES}{h h':Hp}{a:Act}{w w':World}{o:Oper}
def R0(hS:ESt X E nt H U tm h a w){t:TypeId}{x y:Operand}(ho:o.op=.store t x y){r:ES}{ws:Wr}(he:py X.T X.Z h t (am tm x) (am tm y)=some (r,ws)):OpOk X E H U h a w o r ws:=by
 have hx:=bF hS x;have hy:=bF hS y;unfold py at he;split at he
 .
  rename_i ty g u off z ht hxe hye;rw[hxe] at hx;rw[hye] at hy;obtain⟨k,hk,hx⟩:=hx;have hy:WR X.Z H U (a.eval y) z:=hy;obtain⟨i,d,zz,ok⟩:=aT (X.hT t ty ht);cases hb:Nat.beq (z.cells X.Z).length ty.size with
  |false=>rw[hb] at he;cases he
  |true=>
   rw[hb] at he;simp only[al] at he;have hsz:=aB hb;split at he
   . rename_i o' hw;simp only[ai,aC] at he;obtain⟨rfl,rfl⟩:=he;obtain⟨k',arr,e,h1,h2,h3,h4,h5,h6⟩:=zm hS.sim hw hy.cells;rw[hk] at h1;cases h1;have hrun:=Bn (P:=X.P) ok (o:=off) h2 (u:=a.eval y) (by rw[hy.size,hsz]) (by simpa using h3) hy.cells.one;refine⟨undef,_,U,.inr ⟨rfl,?_⟩,BLe.refl _,h5,h6,rfl⟩;simp only[execOp,ho,hx,Instr.storeAt,Instr.sureAddr,aw,aA,av,hrun]
   cases he
 cases he
def ok_fieldAddr(hS:ESt X E nt H U tm h a w){t:TypeId}{x:Operand}{j:Nat}(ho:o.op=.fieldAddr t x j){r:ES}{ws:Wr}(he:qR X.T t (am tm x) j=some (r,ws)):OpOk X E H U h a w o r ws:=by
 have hx:=bF hS x;unfold qR at he;split at he
 .
  rename_i ty g u off ht hxe;rw[hxe] at hx;obtain⟨k,hk,hx⟩:=hx;obtain⟨i,d,z,ok⟩:=aT (X.hT t ty ht);split at he
  .
   rename_i fo ag sz hsh hf;cases hb:Nat.blt 0 sz with
   |false=>rw[hb] at he;cases he
   |true=>
    rw[hb,bz] at he;simp only[al,ai,aC] at he;obtain⟨rfl,rfl⟩:=he;have hsz:0<sz:=kz (by simpa[Nat.blt] using hb);have hd':=ok.sh;rw[hsh] at hd';obtain⟨fs,rfl⟩:=qM hd';obtain⟨fd,fi,dd,e1,e2,e3,e4,e5,e6⟩:=sH (show ja X.P fs.toList=some ty.fields from ok.fields) hf;refine OpOk.pure hS (v:=.pointer (some ⟨k.1,off+fo,none⟩)) ?_ ⟨k,hk,rfl⟩;have e1':fs[j]?=some fd:=by simpa using e1
    have hs:(sizeOf fd.type).run X.P w=.ok fi.size w:=by simp[sizeOf,typeInfo,e3]
    have h0:¬fi.size=0:=by omega
    simp only[execOp,ho,hx,Instr.fieldAt,aw,ok.run_und,av,e1',Instr.sureAddr,aA,fieldPlace,hs,h0,bM,eW,e2]
  cases he
 .
  rename_i ty y off ht hxe;rw[hxe] at hx;obtain⟨b,base,v,arr,hxv,q1,q2,q3⟩:=hx;obtain⟨i,d,z,ok⟩:=aT (X.hT t ty ht);split at he
  .
   rename_i fo ag sz hsh hf;cases hb:Nat.blt 0 sz with
   |false=>rw[hb] at he;cases he
   |true=>
    rw[hb,bz] at he;simp only[al,ai,aC] at he;obtain⟨rfl,rfl⟩:=he;have hsz:0<sz:=kz (by simpa[Nat.blt] using hb);have hd':=ok.sh;rw[hsh] at hd';obtain⟨fs,rfl⟩:=qM hd';obtain⟨fd,fi,dd,e1,e2,e3,e4,e5,e6⟩:=sH (show ja X.P fs.toList=some ty.fields from ok.fields) hf;refine OpOk.pure hS (v:=.pointer (some ⟨b,base+off+fo,none⟩)) ?_ ⟨b,base,v,arr,by rw[mG],q1,q2,q3⟩;have e1':fs[j]?=some fd:=by simpa using e1
    have hs:(sizeOf fd.type).run X.P w=.ok fi.size w:=by simp[sizeOf,typeInfo,e3]
    have h0:¬fi.size=0:=by omega
    simp only[execOp,ho,hxv,Instr.fieldAt,aw,ok.run_und,av,e1',Instr.sureAddr,aA,fieldPlace,hs,h0,bM,eW,e2]
  cases he
 cases he
def O7(hS:ESt X E nt H U tm h a w){t:TypeId}{x ix:Operand}(ho:o.op=.indexAddr t x ix){r:ES}{ws:Wr}(he:nU X.T t (am tm x) (am tm ix)=some (r,ws)):OpOk X E H U h a w o r ws:=by
 have hx:=bF hS x;have hi:=bF hS ix;unfold nU at he;split at he
 .
  rename_i ty g u off n cap kk j ht hxe hie;rw[hxe] at hx;rw[hie] at hi;obtain⟨k,c,hk,hx,_⟩:=hx;have hi:=hi.int;simp only[iA] at hi;obtain⟨i,d,z,ok⟩:=aT (X.hT t ty ht);have hd':=ok.sh;split at he
  .
   rename_i e hsh;rw[hsh] at hd';obtain rfl:=fG hd';split at he
   .
    rename_i te hte;obtain⟨ie,de,ze,oke⟩:=aT (X.hT e te hte);cases hb:Nat.blt j n with
    |false=>rw[hb] at he;cases he
    |true=>
     rw[hb,bz] at he;simp only[al,ai,aC] at he;obtain⟨rfl,rfl⟩:=he;have hlt:j<n:=kz (by simpa[Nat.blt] using hb);refine OpOk.pure hS (v:=.pointer (some ⟨k.1,off+j*te.size,none⟩)) ?_ ⟨k,hk,rfl⟩;have hcond:(0:Int)<=(j:Int)/\(j:Int)<(n:Int):=⟨by omega,by omega⟩;simp only[execOp,ho,hx,hi,Instr.indexAt,asIntOf,aw,aA,av,ok.run_und,hcond,xf,bL,mL,oke.run_size,eW]
   cases he
  cases he
 .
  rename_i ty g u off kk j ht hxe hie;rw[hxe] at hx;rw[hie] at hi;obtain⟨k,hk,hx⟩:=hx;have hi:=hi.int;simp only[iA] at hi;obtain⟨i,d,z,ok⟩:=aT (X.hT t ty ht);have hd':=ok.sh;split at he
  .
   rename_i n e hsh;rw[hsh] at hd';obtain rfl:=sR hd';split at he
   .
    rename_i te hte;obtain⟨ie,de,ze,oke⟩:=aT (X.hT e te hte);cases hb:Nat.blt j n with
    |false=>rw[hb] at he;cases he
    |true=>
     rw[hb,bz] at he;simp only[al,ai,aC] at he;obtain⟨rfl,rfl⟩:=he;have hlt:j<n:=kz (by simpa[Nat.blt] using hb);refine OpOk.pure hS (v:=.pointer (some ⟨k.1,off+j*te.size,none⟩)) ?_ ⟨k,hk,rfl⟩;have hcond:(0:Int)<=(j:Int)/\(j:Int)<(n:Int):=⟨by omega,by omega⟩;simp only[execOp,ho,hx,hi,Instr.indexAt,asIntOf,Instr.sureAddr,aw,aA,av,ok.run_und,hcond,xf,bL,mL,oke.run_size,eW]
   cases he
  cases he
 .
  rename_i ty es kk j ht hxe hie;rw[hxe] at hx;rw[hie] at hi;have hi:=hi.int;have hxd:VR H (a.eval x) (.sl es):=hx.2;simp only[iA] at hi;obtain⟨i,d,z,ok⟩:=aT (X.hT t ty ht);have hd':=ok.sh;split at he
  .
   rename_i e hsh;rw[hsh] at hd';obtain rfl:=fG hd';split at he
   .
    rename_i te y hte hj;obtain⟨ie,de,ze,oke⟩:=aT (X.hT e te hte);cases hb:Nat.beq y.cells.length te.size with
    |false=>rw[hb] at he;cases he
    |true=>
     rw[hb] at he;simp only[al,ai,aC] at he;obtain⟨rfl,rfl⟩:=he;have hy:=aB hb;have hlt:j<es.length:=(List.getElem?_eq_some_iff.1 hj).1;generalize hev:a.eval x=ev at hxd;cases hxd with
     |sl0=>simp at hlt
     |sl b off n cap sz arr vs _ hb hs hn hc hz ha=>
      obtain⟨u,hu1,hu2⟩:=hs.get j y hj;have hm:u∈vs:=bN hu1;have hsz:sz=te.size:=by rw[<-hz u hm,hu2.size,hy]
      have hvl:=hs.length;refine OpOk.pure hS (v:=.pointer (some ⟨b,off+j*te.size,none⟩)) ?_ ⟨b,off+j*te.size,u,arr,rfl,hb,hu2,?_⟩
      . have hlt':(j:Int)<(n:Int):=by omega
        have hcond:(0:Int)<=(j:Int)/\(j:Int)<(n:Int):=⟨by omega,hlt'⟩;simp only[execOp,ho,hev,hi,Instr.indexAt,asIntOf,aw,aA,av,ok.run_und,hcond,xf,bL,mL,oke.run_size,eW]
      rw[<-hsz,hz u hm,<-oD,<-flat_get hz hu1,<-ha,mH,cB,ce];rw[<-uI];have:1*sz<=(vs.length-j)*sz:=cL _ (by omega);omega
   cases he
  cases he
 cases he
def ok_field(hS:ESt X E nt H U tm h a w){t:TypeId}{x:Operand}{j:Nat}(ho:o.op=.field t x j){r:ES}{ws:Wr}(he:zS X.T X.Z t (am tm x) j=some (r,ws)):OpOk X E H U h a w o r ws:=by
 have hx:=bF hS x;unfold zS at he;split at he
 .
  rename_i ty cs ht hxe;rw[hxe] at hx;obtain⟨vs,hx,hvs⟩:=hx;obtain⟨i,d,z,ok⟩:=aT (X.hT t ty ht);split at he
  .
   rename_i fo ag sz hsh hf;cases hb:Nat.ble (fo+sz) cs.length with
   |false=>rw[hb] at he;cases he
   |true=>
    rw[hb,dE] at he;simp only[al] at he;have hle:=bl hb;split at he
    .
     rename_i y hv;simp only[ai,aC] at he;obtain⟨rfl,rfl⟩:=he;have hd':=ok.sh;rw[hsh] at hd';obtain⟨fs,rfl⟩:=qM hd';obtain⟨fd,fi,dd,e1,e2,e3,e4,e5,e6⟩:=sH (show ja X.P fs.toList=some ty.fields from ok.fields) hf;have e1':fs[j]?=some fd:=by simpa using e1
     have hs:(sizeOf fd.type).run X.P w=.ok fi.size w:=by simp[sizeOf,typeInfo,e3]
     have hag:=BU e4 w;rw[e5] at hag;have hl:=hvs.length;rcases mkV_ok hv ((hvs.drop fo).take sz) with⟨q1,q2⟩|⟨q1,v,q2,q3⟩
     . subst q1;refine OpOk.pure hS (v:=.agg ((vs.drop fo).take sz).toArray) ?_ q2;have hpart:(part fd.type vs.toArray fd.offset).run X.P w=.ok (.agg ((vs.drop fo).take sz).toArray) w:=by
        simp only[part,aw,hag,av,bL,hs,aA,e2,e6];congr 2;apply fc;simp only[NS,NT];rw[show fo+sz-fo=sz by omega]
       simp only[execOp,ho,hx,Instr.field,aw,ok.run_und,av,e1',asAgg,aA,hpart]
     subst q1;refine OpOk.pure hS (v:=v) ?_ q3;have h2':vs.toArray[fo]?=some v:=by
      have:((vs.drop fo).take sz)[0]?=some v:=by rw[q2];rfl
      rw[dt] at this;split at this
      . simpa using this
      cases this
     have hpart:(part fd.type vs.toArray fd.offset).run X.P w=.ok v w:=by
      simp only[part,aw,hag,av,dB,bM,e2,h2',aA]
     simp only[execOp,ho,hx,Instr.field,aw,ok.run_und,av,e1',asAgg,aA,hpart]
    cases he
  cases he
 cases he
def ok_extract(hS:ESt X E nt H U tm h a w){x:Operand}{j:Nat}(ho:o.op=.extract x j){r:ES}{ws:Wr}(he:yB (am tm x) j=some (r,ws)):OpOk X E H U h a w o r ws:=by
 have hx:=bF hS x;unfold yB at he;split at he
 .
  rename_i xs hxe;rw[hxe] at hx;obtain⟨vs,hx,hvs⟩:=hx;split at he
  . rename_i y hj;simp only[ai,aC] at he;obtain⟨rfl,rfl⟩:=he;obtain⟨u,h1,h2⟩:=hvs.get j y hj;refine OpOk.pure hS (v:=u) ?_ h2;have h1':vs.toArray[j]?=some u:=by simpa using h1
    simp only[execOp,ho,hx,Instr.extract,h1',aw,aA,av]
  cases he
 cases he
def ok_makeFunc(hS:ESt X E nt H U tm h a w){fn:Fn}{first captured:Array Operand}(ho:o.op=.makeFunc fn first captured){r:ES}{ws:Wr}(he:yn fn (first.toList.map (am tm)) (captured.toList.map (am tm))=some (r,ws)):OpOk X E H U h a w o r ws:=by
 have key:∀(os:List Operand) (gs:List Nat),tL (os.map (am tm))=some gs->(∀g∈gs,∃k,U g 0=some k)/\os.map a.eval=gs.map (io U):=by
  intro os;induction os with
  |nil=>intro gs hg;simp only[eP,tL,ai] at hg;subst hg;exact⟨by simp,rfl⟩
  |cons o os ih=>
   intro gs hg;simp only[aZ] at hg;have hv:=bF hS o;unfold tL at hg;split at hg
   . rename_i hc;cases hc
   .
    rename_i g' l hc;simp only[oK] at hc;obtain⟨hx,rfl⟩:=hc;rw[hx] at hv;obtain⟨k,hk,hv⟩:=hv;cases hp:tL (os.map (am tm)) with
    |none=>rw[hp] at hg;cases hg
    |some gs'=>
     rw[hp] at hg;simp only[fE,ai] at hg;subst hg;obtain⟨i1,i2⟩:=ih gs' hp;exact⟨fun g hg=>(List.mem_cons.1 hg).elim (fun e=>by rw[e];exact⟨k,hk⟩) (i1 g),by simp[i2,hv,io,hk]⟩
   cases hg
 unfold yn at he;split at he
 . rename_i f hfi hp;simp only[ai,aC] at he;obtain⟨rfl,rfl⟩:=he;obtain⟨k1,k2⟩:=key _ _ hp;have e1:first = #[]:=by apply fc;simpa using hfi
   have e2:captured = #[]:=by apply fc;simpa using k2
   subst e1 e2;refine OpOk.pure hS (v:=.func (.func f) #[] #[]) ?_ ⟨rfl,VR.fn f⟩;simp only[execOp,ho,Instr.makeFunc,aw,aA,av];simp
 . rename_i f g gs hfi hp;simp only[ai,aC] at he;obtain⟨rfl,rfl⟩:=he;obtain⟨k1,k2⟩:=key _ _ hp;have e1:first = #[]:=by apply fc;simpa using hfi
   subst e1;have e2:captured.map a.eval=((g::gs).map (io U)).toArray:=by apply fc;simpa using k2
   refine OpOk.pure hS (v:=.func (.func f) #[] ((g::gs).map (io U)).toArray) ?_ ⟨k1,rfl⟩;simp only[execOp,ho,Instr.makeFunc,aw,aA,av,e2];simp
 cases he
def Jb{op:BinOp}{k:IntKind}{p q:Int}{r:ES}{ws:Wr}(he:tZ op k p q=some (r,ws)):ws=[]/\nh op k p q (fun x=>r=ae x/\x.isTup=false/\x.isAgg=false):=by
 cases op<;>simp only[tZ] at he<;>first
  | (cases he;done)
  | (obtain⟨rfl,rfl⟩:=oZ he;exact⟨rfl,_,rfl,rfl,rfl,rfl⟩)
  | (obtain⟨rfl,rfl⟩:=q9 he;exact⟨rfl,_,rfl,rfl,rfl,rfl⟩)
  | (cases hq:decide (q=0) with
     |true=>rw[hq] at he;cases he
     |false=>
      rw[hq] at he;simp only[bh] at he;obtain⟨rfl,rfl⟩:=oZ he;exact⟨rfl,by simpa using hq,_,rfl,rfl,rfl,rfl⟩)
def IF{op:BinOp}{p q:List UInt8}{r:ES}{ws:Wr}(he:strE op p q=some (r,ws)):ws=[]/\nc op p q (fun x=>r=ae x/\x.isTup=false/\x.isAgg=false):=by
 cases op<;>simp only[strE] at he<;>first
  | (cases he;done)
  | (obtain⟨rfl,rfl⟩:=q9 he;exact⟨rfl,_,rfl,rfl,rfl,rfl⟩)
  | (cases hq:Nat.ble (p.length+q.length) 1000000 with
     |false=>rw[hq] at he;cases he
     |true=>
      rw[hq,dE] at he;simp only[al,ai,aC] at he;obtain⟨rfl,rfl⟩:=he;have:=bl hq;exact⟨rfl,by omega,rfl,rfl,rfl⟩)
def Qj{v:Value}{x:IV}(h:VR H v x)(h1:x.isTup=false)(h2:x.isAgg=false):v.oneCell'=true:=by
 cases h<;>first|rfl|simp[IV.isTup,IV.isAgg] at h1 h2
def Bw{P:Program}(n:Nat){t e:TypeId}(ht:P.underlying t=some (.slice e))(ad:Option Addr)(k c:Nat)(w:World):(Op.equalIn (n+1) t (.slice ad k c) (.slice none 0 0)).run P w=.ok ad.isNone w:=by
 cases ad<;>simp only[Op.equalIn,aw,dq ht w,av,aA]<;>rfl
def ok_binOp(hS:ESt X E nt H U tm h a w){op:BinOp}{t t':TypeId}{x y:Operand}(ho:o.op=.binOp op t x y t'){r:ES}{ws:Wr}(he:pX X.T op t (am tm x) (am tm y)=some (r,ws)):OpOk X E H U h a w o r ws:=by
 have hx:=bF hS x;have hy:=bF hS y;have fin:∀{p q v:Value} {x':IV},a.eval x=p->a.eval y=q->(eqGuard op t x y p q).run X.P w=.ok () w->(binOp op t p q).run X.P w=.ok v w->VR H v x'->x'.isTup=false->x'.isAgg=false->OpOk X E H U h a w o (ae x') []:=fun hp hq hg hr hv h1 h2=>by
  refine OpOk.pure hS ?_ ⟨Qj hv h1 h2,hv⟩;simp only[execOp,ho,hp,hq,aw,hg,hr,av,aA]
 unfold pX at he;split at he
 .
  rename_i k p k' q hxe hye;rw[hxe] at hx;rw[hye] at hy;cases hk:decide (k=k') with
  |false=>rw[hk] at he;cases he
  |true=>
   rw[hk] at he;simp only[al] at he;have:=mP hk;subst this;obtain⟨rfl,hi⟩:=Jb he;obtain⟨v,x',hr,hv,rfl,h1,h2⟩:=Ih (P:=X.P) (H:=H) (t:=t) w hi;refine fin hx.int hy.int ?_ hr hv h1 h2;unfold eqGuard;split<;>rfl
 . rename_i p q hxe hye;rw[hxe] at hx;rw[hye] at hy;obtain⟨bs,hxv,hbs⟩:=jU hx.2;obtain⟨cs,hyv,hcs⟩:=jU hy.2;obtain⟨rfl,hi⟩:=IF he;rw[<-hbs,<-hcs] at hi;obtain⟨v,x',hr,hv,rfl,h1,h2⟩:=HS (P:=X.P) (H:=H) (t:=t) w hi;refine fin hxv hyv ?_ hr hv h1 h2;unfold eqGuard;split<;>rfl
 .
  rename_i c hxe hye;rw[hxe] at hx;rw[hye] at hy;have hyv:=rH hy.2;have key:∀{ty:TY} {e:TypeId} {b:Bool},X.T t=some ty->ty.sh=.slice e->Eg c=some b->(Op.equal t (a.eval x) (a.eval y)).run X.P w=.ok b w/\(∃ad n cp,a.eval x=.slice ad n cp):=fun{ty e b} ht hsh hb=>by
   obtain⟨i,d,z,ok⟩:=aT (X.hT t ty ht);have hd':=ok.sh;rw[hsh] at hd';obtain rfl:=fG hd';unfold Eg at hb;split at hb
   . cases hb;have hxv:=rH hx.2;refine⟨?_,_,_,_,hxv⟩;rw[hxv,hyv];exact Bw 9999 ok.und none 0 0 w
   . cases hb;obtain⟨k,cp,_,hxv,_⟩:=hx;refine⟨?_,_,_,_,hxv⟩;rw[hxv,hyv];exact Bw 9999 ok.und _ _ _ w
   . cases hb;rcases hx.2.asSl with⟨h,_⟩|⟨b,off,cap,sz,arr,vs,hxv,_⟩
     . cases h
     refine⟨?_,_,_,_,hxv⟩;rw[hxv,hyv];exact Bw 9999 ok.und _ _ _ w
   cases hb
  split at he
  .
   rename_i ty b ht hb;split at he
   . rename_i e hsh;obtain⟨rfl,rfl⟩:=q9 he;obtain⟨k1,ad,n,cp,k2⟩:=key ht hsh hb;refine fin rfl rfl ?_ (v:=.bool b) ?_ (VR.bool _) rfl rfl
     . rw[k2,hyv];unfold eqGuard;rfl
     rw[k2,hyv] at k1 ⊢;simp only[binOp,aw,k1,av,aA]
   cases he
  .
   rename_i ty b ht hb;split at he
   . rename_i e hsh;obtain⟨rfl,rfl⟩:=q9 he;obtain⟨k1,ad,n,cp,k2⟩:=key ht hsh hb;refine fin rfl rfl ?_ (v:=.bool (!b)) ?_ (VR.bool _) rfl rfl
     . rw[k2,hyv];unfold eqGuard;rfl
     rw[k2,hyv] at k1 ⊢;simp only[binOp,aw,k1,av,aA]
   cases he
  cases he
 cases he
def T9(hS:ESt X E nt H U tm h a w){op:UnOp}{t:TypeId}{x:Operand}(ho:o.op=.unOp op t x){r:ES}{ws:Wr}(he:sf op (am tm x)=some (r,ws)):OpOk X E H U h a w o r ws:=by
 have hx:=bF hS x;unfold sf at he;split at he
 . rename_i b hxe;rw[hxe] at hx;obtain⟨rfl,rfl⟩:=q9 he;refine OpOk.pure hS (v:=.bool (!b)) ?_ ⟨rfl,VR.bool _⟩;simp only[execOp,ho,hx.bool,Op.unary,aw,aA,av]
 . rename_i k n hxe;rw[hxe] at hx;obtain⟨rfl,rfl⟩:=oZ he;refine OpOk.pure hS (v:=.int k (k.wrap (0-n))) ?_ ⟨rfl,VR.int _ _⟩;simp only[execOp,ho,hx.int,Op.unary,Op.intArith,aw,aA,av]
 cases he
def ok_convert(hS:ESt X E nt H U tm h a w){s d:TypeId}{x:Operand}(ho:o.op=.convert s d x){r:ES}{ws:Wr}(he:wC X.T s d (am tm x)=some (r,ws)):OpOk X E H U h a w o r ws:=by
 have hx:=bF hS x;unfold wC at he;split at he
 . rename_i ts td k' n hs htd hxe;rw[hxe] at hx;obtain⟨i1,d1,z1,ok1⟩:=aT (X.hT s ts hs);obtain⟨i2,d2,z2,ok2⟩:=aT (X.hT d td htd);split at he
   . rename_i k0 k h1 h2;have e1:=ok1.sh;rw[h1] at e1;obtain rfl:=yu e1;have e2:=ok2.sh;rw[h2] at e2;obtain rfl:=yu e2;obtain⟨rfl,rfl⟩:=oZ he;refine OpOk.pure hS (v:=.int k (k.wrap n)) ?_ ⟨rfl,VR.int _ _⟩;simp only[execOp,ho,hx.int,convert,aw,ok1.run_und,ok2.run_und,av,Conv.intToInt,aA]
   cases he
 cases he
def Wa(hS:ESt X E nt H U tm h a w){x:Operand}(ho:o.op=.nilCheck x){r:ES}{ws:Wr}(he:Az (am tm x)=some (r,ws)):OpOk X E H U h a w o r ws:=by
 have hx:=bF hS x;unfold Az at he;split at he
 . rename_i g u off hxe;rw[hxe] at hx;simp only[ai,aC] at he;obtain⟨rfl,rfl⟩:=he;obtain⟨k,hk,hv⟩:=hx;refine OpOk.pure hS (v:=.pointer (some ⟨k.1,off,none⟩)) ?_ ⟨k,hk,rfl⟩;simp only[execOp,ho,hv,aA]
 . rename_i y off hxe;rw[hxe] at hx;simp only[ai,aC] at he;obtain⟨rfl,rfl⟩:=he;obtain⟨b,base,v,arr,hv,q1,q2,q3⟩:=hx;refine OpOk.pure hS (v:=.pointer (some ⟨b,base+off,none⟩)) ?_ ⟨b,base,v,arr,rfl,q1,q2,q3⟩;simp only[execOp,ho,hv,aA]
 cases he
end
section
variable {X:EX}{E:EEnv}{nt:Nat}{H H':ak}{U U':Bm}{tm:Nat->ES}{h h':Hp}{a:Act}{w w':World}{o:Oper}
def tJ(hS:ESt X E nt H U tm h a w){v:Option Operand}{d m:Nat}(he:ky (v.map (am tm)) d=some m):Bd (v.map a.eval) d m:=by
 unfold ky at he;cases v with
 |none=>simp only[xg,ai] at he;exact .inl ⟨rfl,he.symm⟩
 |some x=>
  have hx:=bF hS x;simp only[fE] at he;split at he
  . rename_i hh;cases hh
  . rename_i k m' hh;simp only[ai] at hh he;subst he;rw[hh] at hx;have:=hx.int;exact .inr ⟨k,by simp only[fE,this];rfl⟩
  cases he
def Wm(hS:ESim X.Z E H U h w){g u off n sz c:Nat}{k:Nat×Nat}(hk:U g u=some k)(hn:n<=c)(hc:off+c*sz=k.2):uz (h g) u off n sz<=c:=by
 unfold uz;split
 .
  rename_i e cs fz vs cnt hg;split
  .
   rename_i p hv;cases hb:(Nat.ble (off+n*sz) p&&Nat.blt 0 sz) with
   |false=>exact hn
   |true=>
    simp only[al];simp only[aH] at hb;have h1:=bl hb.1;have h2:0<sz:=kz (by simpa[Nat.blt] using hb.2);obtain⟨_,k',arr,d1,d2,d3,d4,d5,d6,d7,d8⟩:=(hS.obj g _ hg).2 u p (oX hv);rw[hk] at d1;cases d1;refine Nat.div_le_of_le_mul ?_;rw[dw];omega
  exact hn
 exact hn
def PS{P:Program}(w:World){t e:TypeId}{te:TY}{ie:TypeInfo}{de:TypeDesc}{ze:Value}(hund:P.underlying t=some (.slice e))(oke:TyOk P e te ie de ze){b off n c:Nat}{lo hi mx:Option Value}{l u m:Nat}
 (hlo:Bd lo 0 l) (hhi:Bd hi n u) (hmx:mx=none\/∃k,mx=some (.int k ((m:Nat):Int))) (hm:mx=none->m=c) (hx:mx=none\/hi≠none) (h1:l<=u) (h2:u<=m) (h3:m<=c) :
 (Instr.sliceAt t (.slice (some ⟨b,off,none⟩) n c) lo hi mx).run P w=.ok (.slice (some ⟨b,bif Nat.beq m l then off else off+l*te.size,none⟩) (u-l) (m-l)) w:=by
 have hb:=nS (P:=P) (isS:=true) (len:=n) (cap:=c) (m:=m) w hlo hhi hmx hm hx h1 h2 h3;have hu:(underlying t).run P w=.ok (.slice e) w:=dq hund w;simp only[Instr.sliceAt,Instr.slice,aw,hu,av,hb,oke.run_size,aA,fE,eW];by_cases hml:m=l
 . rw[au hml,hml,bD,al]
 rw[aq hml,dU hml,bh]
def R1(hS:ESt X E nt H U tm h a w){t:TypeId}{x:Operand}{lo hi mx:Option Operand}(ho:o.op=.slice t x lo hi mx){r:ES}{ws:Wr}(he:jd X.T h t (am tm x) (lo.map (am tm)) (hi.map (am tm)) (mx.map (am tm))=some (r,ws)):OpOk X E H U h a w o r ws:=by
 have hx:=bF hS x;unfold jd at he;split at he
 .
  rename_i ty ht;obtain⟨i,d,z,ok⟩:=aT (X.hT t ty ht);have hd':=ok.sh;split at he
  .
   rename_i e g u off n cap hsh hxe;rw[hsh] at hd';obtain rfl:=fG hd';rw[hxe] at hx;obtain⟨k,c0,hk,hxv,hn,hcap⟩:=hx;split at he
   .
    rename_i te hte;obtain⟨ie,de,ze,oke⟩:=aT (X.hT e te hte);split at he
    .
     rename_i l u' hl hu;have hlo:=tJ hS hl;have hhi:=tJ hS hu;have run:∀{m:Nat},(mx.map a.eval=none\/∃k,mx.map a.eval=some (.int k ((m:Nat):Int)))->(mx.map a.eval=none->m=c0)->(mx.map a.eval=none\/hi.map a.eval≠none)->l<=u'->u'<=m->m<=c0->
      (execOp a.eval o).run X.P w=.ok (.value (.slice (some ⟨k.1,bif Nat.beq m l then off else off+l*te.size,none⟩) (u'-l) (m-l))) w:=fun q1 q2 q3 q4 q5 q6=>by
      have:=PS (P:=X.P) w ok.und oke (b:=k.1) (off:=off) (n:=n) (c:=c0) hlo hhi q1 q2 q3 q4 q5 q6;simp only[execOp,ho,hxv,aw,this,av,aA]
     split at he
     .
      -- no third bound, a known capacity
      rename_i c hmx;have hmx':mx.map a.eval=none:=by cases mx with|none=>rfl|some _=>cases hmx
      have hcc:c0=c:=hcap;subst hcc;cases hb:(Nat.ble l u'&&Nat.ble u' c0) with
      |false=>rw[hb] at he;cases he
      |true=>
       rw[hb,bz,bz,bz] at he;simp only[al,ai,aC] at he;obtain⟨rfl,rfl⟩:=he;simp only[aH] at hb;have b1:=bl hb.1;have b2:=bl hb.2;exact OpOk.pure hS (run (m:=c0) (.inl hmx') (fun _=>rfl) (.inl hmx') b1 b2 (ah _)) ⟨k,c0-l,hk,rfl,by omega,rfl⟩
     .
      rename_i sz hmx;have hmx':mx.map a.eval=none:=by cases mx with|none=>rfl|some _=>cases hmx
      have hcap:off+c0*sz=k.2:=hcap;rw[bz] at he;have hkn:=Wm hS.sim (sz:=sz) hk hn hcap;generalize uz (h g) u off n sz=kn at he hkn;cases hb:(Nat.ble l u'&&Nat.ble u' kn&&Nat.blt l kn&&Nat.beq sz te.size) with
      |true=>
       rw[hb,bz,bz] at he;simp only[al,ai,aC] at he;obtain⟨rfl,rfl⟩:=he;simp only[aH] at hb;obtain⟨⟨⟨b1,b2⟩,b3⟩,b4⟩:=hb;have b1:=bl b1;have b2:=bl b2;have b3:l<kn:=kz (by simpa[Nat.blt] using b3);have b4:=aB b4;subst b4;have hr:=run (m:=c0) (.inl hmx') (fun _=>rfl) (.inl hmx') b1 (by omega) (ah _);rw[dU (show c0≠l by omega),bh] at hr;refine OpOk.pure hS hr ⟨k,c0-l,hk,rfl,by omega,?_⟩;show off+l*te.size+(c0-l)*te.size=k.2;rw[<-hcap,mG,<-bQ];congr 2;omega
      |false=>
       rw[hb] at he;simp only[bh] at he;cases hb2:(Nat.beq l u'&&Nat.ble u' kn&&Nat.beq sz te.size) with
       |false=>rw[hb2] at he;cases he
       |true=>
        rw[hb2] at he;simp only[al,ai,aC] at he;obtain⟨rfl,rfl⟩:=he;simp only[aH] at hb2;have b1:=aB hb2.1.1;have b2:=bl hb2.1.2;subst b1;have hr:=run (m:=c0) (.inl hmx') (fun _=>rfl) (.inl hmx') (ah _) (by omega) (ah _);rw[mM] at hr;exact OpOk.pure hS hr ⟨rfl,VR.sl0 _ _⟩
     .
      rename_i m0 c hmx;split at he
      .
       rename_i m _ hm0 hhi0;have hmm:=tJ hS (v:=mx) (d:=0) (m:=m) (by rw[hmx];exact hm0);have hne:mx≠none:=fun e=>by rw[e] at hmx;cases hmx
       have hmx2:mx.map a.eval=none\/∃k,mx.map a.eval=some (.int k ((m:Nat):Int)):=hmm.mx;have hnn:mx.map a.eval≠none:=by cases mx with|none=>exact absurd rfl hne|some _=>simp
       have hhn:hi.map a.eval≠none:=by cases hi with|none=>cases hhi0|some _=>simp
       have hcc:c0=c:=hcap;subst hcc;cases hb:(Nat.ble l u'&&Nat.ble u' m&&Nat.ble m c0) with
       |false=>rw[hb] at he;cases he
       |true=>
        rw[hb,bz,bz,bz] at he;simp only[al,ai,aC] at he;obtain⟨rfl,rfl⟩:=he;simp only[aH] at hb;have b1:=bl hb.1.1;have b2:=bl hb.1.2;have b3:=bl hb.2;exact OpOk.pure hS (run hmx2 (fun e=>absurd e hnn) (.inr hhn) b1 b2 b3) ⟨k,m-l,hk,rfl,by omega,rfl⟩
      cases he
     rename_i m0 sz hmx;split at he
     .
      rename_i m _ hm0 hhi0;have hmm:=tJ hS (v:=mx) (d:=0) (m:=m) (by rw[hmx];exact hm0);have hne:mx≠none:=fun e=>by rw[e] at hmx;cases hmx
      have hmx2:mx.map a.eval=none\/∃k,mx.map a.eval=some (.int k ((m:Nat):Int)):=hmm.mx;have hnn:mx.map a.eval≠none:=by cases mx with|none=>exact absurd rfl hne|some _=>simp
      have hhn:hi.map a.eval≠none:=by cases hi with|none=>cases hhi0|some _=>simp
      cases hb:(Nat.ble l u'&&Nat.ble u' m&&Nat.ble m n) with
      |false=>rw[hb] at he;cases he
      |true=>
       rw[hb,bz,bz,bz] at he;simp only[al,ai,aC] at he;obtain⟨rfl,rfl⟩:=he;simp only[aH] at hb;have b1:=bl hb.1.1;have b2:=bl hb.1.2;have b3:=bl hb.2;exact OpOk.pure hS (run hmx2 (fun e=>absurd e hnn) (.inr hhn) b1 b2 (by omega)) ⟨k,m-l,hk,rfl,by omega,rfl⟩
     cases he
    cases he
   cases he
  .
   rename_i e es hsh hxe;rw[hsh] at hd';obtain rfl:=fG hd';rw[hxe] at hx;have hxd:VR H (a.eval x) (.sl es):=hx.2;split at he
   .
    rename_i te l u hte hl hu hmx;obtain⟨ie,de,ze,oke⟩:=aT (X.hT e te hte);have hlo:=tJ hS hl;have hhi:=tJ hS hu;have emx:mx=none:=by cases mx with|none=>rfl|some _=>cases hmx
    subst emx;cases hb:(Nat.ble l u&&Nat.ble u es.length&&(Nat.beq l 0||b7 te.size es)) with
    |false=>rw[hb] at he;cases he
    |true=>
     rw[hb] at he;simp only[al,ai,aC] at he;obtain⟨rfl,rfl⟩:=he;simp only[aH,iW] at hb;have h1:=bl hb.1.1;have h3:=bl hb.1.2;have hel:l=0\/∀y∈es,y.cells.length=te.size:=hb.2.imp aB fun hh y hy=>by
      have:=List.all_eq_true.1 hh y hy;simp only[aH] at this;exact aB this.1
     generalize hev:a.eval x=ev at hxd;have key:∀(ad:Option Addr) (n cap:Nat),ev=.slice ad n cap->n=es.length->n<=cap->(execOp a.eval o).run X.P w=.ok (.value (.slice (if cap=l then ad else ad.map (·.add (l*te.size))) (u-l) (cap-l))) w:=by
      intro ad n cap hevs hn hc;have hb:=nS (P:=X.P) (isS:=true) (mx:=none) (len:=n) (cap:=cap) (m:=cap) w hlo (by rw[hn];exact hhi) (.inl rfl) (fun _=>rfl) (.inl rfl) h1 (by omega) (ah _);simp only[execOp,ho,hev,hevs,Instr.sliceAt,Instr.slice,aw,ok.run_und,av,xg,hb,oke.run_size,aA]
     by_cases hlu:u=l
     .
      have hes:(es.take u).drop l=[]:=by rw[hlu];simp
      rw[hes];cases hxd with
      |sl0 ad cap=>
       have hr:=key ad 0 cap rfl rfl (ba _);rw[hlu,mM] at hr;exact OpOk.pure hS hr ⟨rfl,VR.sl0 _ _⟩
      |sl b off n cap sz arr vs _ hb hs hn hc hz ha=>
       have hr:=key _ n cap rfl hn hc;rw[hlu,mM] at hr;exact OpOk.pure hS hr ⟨rfl,VR.sl0 _ _⟩
     cases hxd with
     |sl0 ad cap=>simp at h3;omega
     |sl b off n cap sz arr vs _ hb hs hn hc hz ha=>
      have hr:=key _ n cap rfl hn hc;have hvl:=hs.length;have hne:¬cap=l:=by omega
      rw[aq hne,fE,eW] at hr;have hadd:off+l*te.size=off+l*sz:=by
       rcases hel with hel|hel
       . rw[hel];simp
       have h0:0<vs.length:=by omega
       have hv0:=hz _ (iw h0);obtain⟨y,hy⟩:∃y,es[0]?=some y:=⟨_,bi (show 0<es.length by omega)⟩;obtain⟨u0,e1,e2⟩:=hs.get 0 y hy;have e3:vs[0]=u0:=(List.getElem?_eq_some_iff.1 e1).2;have:=hel y (bN hy);rw[<-e2.size,<-e3,hv0] at this;rw[this]
      rw[hadd] at hr;refine OpOk.pure hS hr ⟨rfl,?_⟩;have hzz:∀v∈(vs.take u).drop l,v.cells.size=sz:=fun v hv=>hz v (dY (jK hv));have hlen:((vs.take u).drop l).length=u-l:=by simp;omega
      refine VR.sl b (off+l*sz) (u-l) (cap-l) sz arr ((vs.take u).drop l) _ hb ((hs.take u).drop l) (by simp;omega) (by omega) hzz ?_;rw[hlen,<-qX l (fun v hv=>hz v (dY hv)),<-qW u hz,<-ha,<-oD];rw[cB,ce (cL _ (by omega)),mH,<-uI]
   cases he
  .
   rename_i n e g u off hsh hxe;rw[hsh] at hd';obtain rfl:=sR hd';rw[hxe] at hx;obtain⟨k,hk,hxv⟩:=hx;split at he
   .
    rename_i te hte hl hh hm;obtain⟨ie,de,ze,oke⟩:=aT (X.hT e te hte);simp only[ai,aC] at he;obtain⟨rfl,rfl⟩:=he;have e1:lo=none:=by cases lo with|none=>rfl|some _=>cases hl
    have e2:hi=none:=by cases hi with|none=>rfl|some _=>cases hh
    have e3:mx=none:=by cases mx with|none=>rfl|some _=>cases hm
    subst e1 e2 e3;refine OpOk.pure hS (v:=.slice (some ⟨k.1,off,none⟩) n n) ?_ ⟨k,n,hk,rfl,ah _,rfl⟩;have hb:=nS (P:=X.P) (lo:=none) (hi:=none) (mx:=none) (isS:=false) (len:=n) (cap:=n) (l:=0) (h:=n) (m:=n) w (.inl ⟨rfl,rfl⟩) (.inl ⟨rfl,rfl⟩) (.inl rfl) (fun _=>rfl) (.inl rfl) (ba _) (ah _) (ah _);simp only[execOp,ho,hxv,Instr.sliceAt,aw,ok.run_und,av,Instr.sureAddr,aA,xg,hb,oke.run_size,nN,uS];by_cases h0:n=0
    . rw[au h0]
    rw[aq h0];rfl
   cases he
  cases he
 cases he
def We(hS:ESt X E nt H U tm h a w){x:Operand}{t:TypeId}(ho:o.op=.call { callee:=.builtin .len,args := #[x],argTypes := #[t] }){r:ES}{ws:Wr}(he:ot X.T t (am tm x)=some (r,ws)):OpOk X E H U h a w o r ws:=by
 have hx:=bF hS x;have fin:∀{ty:TY} {e:TypeId} {ad:Option Addr} {n c:Nat},X.T t=some ty->ty.sh=.slice e->a.eval x=.slice ad n c->OpOk X E H U h a w o (ae (.int .i64 n)) []:=fun{ty e ad n c} ht hsh hxv=>by
  obtain⟨i,d,z,ok⟩:=aT (X.hT t ty ht);have hd':=ok.sh;rw[hsh] at hd';obtain rfl:=fG hd';refine OpOk.pure hS (v:=.int .i64 n) ?_ ⟨rfl,VR.int _ _⟩;have hrun:(Builtin.len_ #[t] o.type #[.slice ad n c]).run X.P w=.ok (.int .i64 n) w:=by
   simp only[Builtin.len_,sr,oG,aw,ok.run_und,av,aA,goInt]
  simp only[execOp,ho,resolve,invoke,builtin,aw,aA,av,jM,aZ,eP,hxv,hrun]
 unfold ot at he;split at he
 . rename_i ty _ _ _ n _ ht hxe;rw[hxe] at hx;obtain⟨k,c,hk,hxv,_⟩:=hx;split at he
   . rename_i e hsh;simp only[ai,aC] at he;obtain⟨rfl,rfl⟩:=he;exact fin ht hsh hxv
   cases he
 . rename_i ty ht hxe;rw[hxe] at hx;have hxv:=rH hx.2;split at he
   . rename_i e hsh;simp only[ai,aC] at he;obtain⟨rfl,rfl⟩:=he;exact fin ht hsh hxv
   cases he
 .
  rename_i ty es ht hxe;rw[hxe] at hx;have hxv:∃ad c,a.eval x=.slice ad es.length c:=by
   rcases VR.asSl hx.2 with⟨h0,ad,cap,hh⟩|⟨b,off,cap,sz,arr,vs,hh,_⟩
   . subst h0;exact⟨ad,cap,hh⟩
   exact⟨_,cap,hh⟩
  obtain⟨ad,c,hxv⟩:=hxv;split at he
  . rename_i e hsh;obtain⟨rfl,rfl⟩:=oZ he;exact fin ht hsh hxv
  cases he
 .
  rename_i ty l ht hxe;rw[hxe] at hx;obtain⟨bs,hxv,hbs⟩:=jU hx.2;obtain⟨i,d,z,ok⟩:=aT (X.hT t ty ht);have hd':=ok.sh;split at he
  .
   rename_i hsh;rw[hsh] at hd';obtain rfl:=sI hd';obtain⟨rfl,rfl⟩:=oZ he;have hsz:bs.size=l.length:=by rw[<-hbs,fC];rfl
   refine OpOk.pure hS (v:=.int .i64 l.length) ?_ ⟨rfl,VR.int _ _⟩;have hrun:(Builtin.len_ #[t] o.type #[.string bs]).run X.P w=.ok (.int .i64 l.length) w:=by
    simp only[Builtin.len_,sr,oG,aw,ok.run_und,av,aA,goInt,hsz]
   simp only[execOp,ho,resolve,invoke,builtin,aw,aA,av,jM,aZ,eP,hxv,hrun]
  cases he
 cases he
def Mu(hS:ESt X E nt H U tm h a w){x y:Operand}{ts:Array TypeId}{mx:Bool}(ho:o.op=.call { callee:=.builtin (bif mx then .max else .min),args := #[x,y],argTypes:=ts }){r:ES}{ws:Wr}(he:uE mx (am tm x) (am tm y)=some (r,ws)):OpOk X E H U h a w o r ws:=by
 have hx:=bF hS x;have hy:=bF hS y;unfold uE at he;split at he
 .
  rename_i k p k' q hxe hye;rw[hxe] at hx;rw[hye] at hy;cases mx with
  |true=>
   simp only[al] at he ho;obtain⟨rfl,rfl⟩:=oZ he;refine OpOk.pure hS (v:=.int k (if q>p then q else p)) ?_ ⟨rfl,VR.int _ _⟩;simp only[execOp,ho,resolve,invoke,builtin,aw,aA,av,jM,aZ,eP,hx.int,hy.int,run_max_int2]
  |false=>
   simp only[bh] at he ho;obtain⟨rfl,rfl⟩:=oZ he;refine OpOk.pure hS (v:=.int k (if q<p then q else p)) ?_ ⟨rfl,VR.int _ _⟩;simp only[execOp,ho,resolve,invoke,builtin,aw,aA,av,jM,aZ,eP,hx.int,hy.int,run_min_int2]
 cases he
def J7(hS:ESim X.Z E H U h w){v:Value}{x:ES}(hv:SRe X.Z H U v x){sz m:Nat}{news:List EV}(he:fU h sz x=some (news,m)) :
 ∃ad c us,v=.slice ad m c/\CRL X.Z H U us news/\us.length=m*sz/\(0<m->∃a,ad=some a/\∀j u,us[j]?=some u->w.cell? (a.add j)=some u):=by
 unfold fU at he;split at he
 .
  rename_i g u off n cap;obtain⟨k,c,hk,hxv,hn,_⟩:=hv;cases hr:ji (h g) u off (n*sz) with
  |none=>rw[hr] at he;cases he
  |some l=>
   rw[hr] at he;simp only[fE,ai,aC] at he;obtain⟨rfl,rfl⟩:=he;obtain⟨k',arr,e,h1,h2,h3,h4,h5,h6⟩:=zy hS hr;rw[hk] at h1;cases h1;refine⟨_,c,_,hxv,h4,by rw[h4.length,h6],fun _=>⟨_,rfl,fun j u hj=>?_⟩⟩;rw[eW,qD w _ _ arr e (0,0) h2];rw[dt] at hj;split at hj
   . simpa using hj
   simp at hj
 . simp only[ai,aC] at he;obtain⟨rfl,rfl⟩:=he;exact⟨_,_,[],rH hv.2,trivial,by simp,fun hh=>absurd hh (by omega)⟩
 .
  rename_i es;cases hb:b7 sz es with
  |false=>rw[hb] at he;cases he
  |true=>
   rw[hb] at he;simp only[al,ai,aC] at he;obtain⟨rfl,rfl⟩:=he;have hz:∀y∈es,y.cells.length=sz/\y.isTup=false:=fun y hy=>by
    have:=List.all_eq_true.1 hb y hy;simp only[aH,gz] at this;exact⟨aB this.1,this.2⟩
   obtain⟨ad,cap,vs,e1,e2,e3,e4,e5⟩:=yt hS.has hv.2 hz;have hvl:=e2.length;have hcells:∀{vs:List Value} {es:List IV},VRL H vs es->VRL H (aX vs) (es.flatMap IV.cells):=by
    intro vs es h;induction vs generalizing es with
    |nil=>cases h;exact .nil
    |cons v vs ih=>cases h with
     |cons _ x _ xs h1 h2=>simpa[aX,cO] using(VR.cells h1).append (ih h2)
   refine⟨ad,cap,aX vs,e1,Ct (hcells e2) (fun c hc=>?_),?_,fun h0=>?_⟩
   . obtain⟨u,hu,hc⟩:=List.mem_flatMap.1 hc;exact e4 u hu c hc
   . rw[jn e3,hvl]
   obtain⟨b,off,rfl,hcell⟩:=e5 (fun e=>by rw[e] at h0;simp at h0);exact⟨_,rfl,fun j u hj=>by rw[eW];exact hcell j u hj⟩
 cases he
end
section
variable {X:EX}{E:EEnv}{nt:Nat}{H H':ak}{U U':Bm}{tm:Nat->ES}{h h':Hp}{a:Act}{w w':World}{o:Oper}
def Gh{P:Program}(w:World)(t ty e:TypeId)(i:TypeInfo)(ht:P.underlying t=some (.slice e))(hi:P.info? e=some i)
 (g off sLen sCap:Nat) (cur:Array Value) {e':TypeId} (hg:w.heap[g]?=some (.cells cur e' (0,0)))
 (a:Addr) (m c:Nat) (news:List Value) (hl:news.length=m*i.size) (hnews:∀j u,news[j]?=some u->w.cell? (a.add j)=some u) (h1:∀u∈news,u.oneCell'=true)
 (hroom:sLen+m<=sCap) (hfit:off+sLen*i.size+news.length<=cur.size) :
 (Builtin.append_ #[t,t] ty #[.slice (some ⟨g,off,none⟩) sLen sCap,.slice (some a) m c]).run P w =
   .ok (.slice (some ⟨g,off,none⟩) (sLen+m) sCap) (w.setRow g (splice cur.toList (off+sLen*i.size) news).toArray):=by
 have hf:=Oh (P:=P) w i.size m a m c news hl hnews;have hst:=FC P g (off+sLen*i.size) e' news 0 cur w hg (by simpa using hfit) h1;simp only[fF] at hst;simp[Builtin.append_,dq ht,sizeOf,typeInfo,hi,Builtin.lenOf,hroom,hf,eW,hst,Fl.splice]
def Q5{vs:List (Nat×Nat)}{p:Nat×Nat}(h:p∈oa vs):p∈vs:=dY h
def QY(hS:ESt X E nt H U tm h a w){s x:Operand}{t:TypeId}(ho:o.op=.call { callee:=.builtin .append,args := #[s,x],argTypes := #[t,t] }){g:Nat}{r:ES}{ws:Wr}(he:jc X.T h g t (am tm s) (am tm x)=some (r,ws)):OpOk X E H U h a w o r ws:=by
 have hs:=bF hS s;have hx:=bF hS x;unfold jc at he;split at he
 .
  rename_i ty ht;obtain⟨i,d,z,ok⟩:=aT (X.hT t ty ht);have hd':=ok.sh;split at he
  .
   rename_i e hsh;rw[hsh] at hd';obtain rfl:=fG hd';split at he
   .
    rename_i te hte;obtain⟨ie,de,ze,oke⟩:=aT (X.hT e te hte);cases hp:(Nat.blt 0 te.size&&Nat.beq te.zero.cells.length te.size) with
    |false=>rw[hp] at he;cases he
    |true=>
     rw[hp] at he;simp only[al] at he;simp only[aH] at hp;have hp':0<te.size:=kz (by simpa[Nat.blt] using hp.1);have hzc:ze.cells.size=te.size:=by rw[(oke.vr H).size,aB hp.2]
     split at he
     .
      rename_i news m hsrc;obtain⟨ad,cx,us,hxv,hus,hul,hcell⟩:=J7 hS.sim hx hsrc;have hnl:news.length=m*te.size:=by rw[<-hus.length,hul]
      have exec:∀{v p:Value} {w':World},a.eval s=p->(Builtin.append_ #[t,t] o.type #[p,.slice ad m cx]).run X.P w=.ok v w'->(execOp a.eval o).run X.P w=.ok (.value v) w':=fun hp hr=>by
       simp only[execOp,ho,resolve,invoke,builtin,aw,aA,av,jM,aZ,eP,hp,hxv,hr]
      have zer:∀{v:Value} {ad':Option Addr} {n c:Nat},m=0->a.eval s=v->v=.slice ad' n c->n<=c->(execOp a.eval o).run X.P w=.ok (.value v) w:=fun hm hv hv' hnc=>by
       subst hm;refine exec hv ?_;rw[hv'];exact xP X.P w t o.type e ie ok.und oke.info _ _ _ hnc ad cx
      split at he
      .
       -- onto nil
       rename_i hse;rw[hse] at hs;have hsv:=rH hs.2;cases hm:Nat.beq m 0 with
       |true=>
        rw[hm] at he;simp only[al,ai,aC] at he;obtain⟨rfl,rfl⟩:=he;have hr:=zer (aB hm) rfl hsv (ah _);refine OpOk.pure hS hr ?_;rw[hse];exact hs
       |false=>
        rw[hm] at he;simp only[bh] at he;have hm0:0<m:=F0 (AX hm);obtain⟨A,rfl,hA⟩:=hcell hm0;cases hb:(Nat.ble m 1000000&&Nat.ble (m*te.bytes) 140737488355328) with
        |false=>rw[hb] at he;cases he
        |true=>
         rw[hb] at he;simp only[al] at he;simp only[aH] at hb;have b1:=bl hb.1;have b2:=bl hb.2;have hr:=run_append_nil (P:=X.P) w t o.type e ie ze ok.und oke.info oke.zero A m cx us (by rw[hul,oke.size]) hA hm0 (by omega) (by rw[oke.bytes];omega);generalize hcap:grownCap w m 0 e=C at hr;have hge:m<=C:=by rw[<-hcap];exact xh _ _ _ _
         have hz:=(oke.vr H).cells;have hS2:ESt X E nt H U tm h a w.drew:=⟨hS.sim.sm rfl rfl rfl rfl,hS.slot,hS.size⟩;obtain⟨U',c1,c2,c3,c4,rfl⟩:=tl hS2 he (arr:=us.toArray++Builtin.zeroCells ze.cells (C-m)) (by
          rw[qG];simp only;rw[jJ (by omega),ay (by omega)];exact hus) (by simp;omega)
         refine⟨_,_,U',.inl (exec hsv hr),c1,c3,fun D hD=>c4 D hD,⟨_,C,c2,rfl,hge,?_⟩⟩;show 0+C*te.size=(us.toArray++Builtin.zeroCells ze.cells (C-m)).size;simp only[xi,lD,uV,hzc,hul,<-bQ,a8];congr 1;omega
      .
       rename_i g1 u1 off1 n1 cap hse;rw[hse] at hs;obtain⟨k,c0,hk,hsv,hn,hcap⟩:=hs;cases hm:Nat.beq m 0 with
       |true=>
        rw[hm] at he;simp only[al,ai,aC] at he;obtain⟨rfl,rfl⟩:=he;have hr:=zer (aB hm) rfl hsv hn;refine OpOk.pure hS hr ?_;rw[hse];exact⟨k,c0,hk,hsv,hn,hcap⟩
       |false=>
        rw[hm] at he;simp only[bh] at he;have hm0:0<m:=F0 (AX hm);obtain⟨A,rfl,hA⟩:=hcell hm0;cases hb:(Nat.ble (n1+m) 1000000&&Nat.ble ((n1+m)*te.bytes) 140737488355328) with
        |false=>rw[hb] at he;cases he
        |true=>
         rw[hb] at he;simp only[al] at he;simp only[aH] at hb;have b1:=bl hb.1;have b2:=bl hb.2
         -- in place, for sure
         have room:∀{o':EO},iQ (h g1) u1 (off1+n1*te.size) news=some o'->n1+m<=c0->OpOk X E H U h a w o (.w (.one (.slc g1 u1 off1 (n1+m) cap))) [(g1,o')]:=fun hw hc=>by
          obtain⟨k',arr,e2,h1,h2,h3,h4,h5,h6⟩:=zm hS.sim hw hus;rw[hk] at h1;cases h1;have hr:=Gh (P:=X.P) w t o.type e ie ok.und oke.info k.1 off1 n1 c0 arr h2 A m cx us (by rw[hul,oke.size]) hA hus.one hc (by rw[oke.size];exact h3);rw[oke.size] at hr;exact⟨_,_,U,.inl (exec hsv hr),BLe.refl _,h5,h6,k,c0,hk,rfl,hc,hcap⟩
         -- a block of its own
         have grow:∀(olds:List Value),olds.length=n1*te.size->(∀j v,olds[j]?=some v->w.cell? ((⟨k.1,off1,none⟩:Addr).add j)=some v)->c0<n1+m->∃C,n1+m<=C/\(olds.toArray++us.toArray++Builtin.zeroCells ze.cells (C-(n1+m))).size=C*te.size/\
          (execOp a.eval o).run X.P w=.ok (.value (.slice (some ⟨w.heap.size,0,none⟩) (n1+m) C)) (w.drew.alloc (.cells (olds.toArray++us.toArray++Builtin.zeroCells ze.cells (C-(n1+m))) e)):=fun olds hol holds hc=>by
          have hr:=run_append_grow (P:=X.P) w t o.type e ie ze ok.und oke.info oke.zero ⟨k.1,off1,none⟩ n1 c0 olds (by rw[hol,oke.size]) holds A m cx us (by rw[hul,oke.size]) hA hc (by omega) (by rw[oke.bytes];exact growslice_fits (by omega) b2);generalize hcap:grownCap w (n1+m) c0 e=C at hr;have hge:n1+m<=C:=by rw[<-hcap];exact xh _ _ _ _
          refine⟨C,hge,?_,exec hsv hr⟩;simp only[xi,lD,uV,hzc,hul,hol,<-bQ];congr 1;omega
         have hS2:ESt X E nt H U tm h a w.drew:=⟨hS.sim.sm rfl rfl rfl rfl,hS.slot,hS.size⟩;split at he
         .
          -- a known capacity
          rename_i c;have hcc:c0=c:=hcap;subst hcc;cases hc:Nat.ble (n1+m) c0 with
          |true=>
           rw[hc] at he;simp only[al] at he;split at he
           . rename_i o' hw;rw[bz] at he;simp only[ai,aC] at he;obtain⟨rfl,rfl⟩:=he;exact room hw (bl hc)
           cases he
          |false=>
           rw[hc] at he;simp only[bh] at he;have hc':c0<n1+m:=by
            rcases gb c0 (n1+m) with h1|h1
            . exact h1
            rw[fh h1] at hc;cases hc
           split at he
           .
            rename_i olds hrd;obtain⟨k',arr,e2,h1,h2,h3,h4,h5,h6⟩:=zy hS.sim hrd;rw[hk] at h1;cases h1;have hol:((arr.toList.drop off1).take (n1*te.size)).length=n1*te.size:=by rw[h4.length,h6]
            obtain⟨C,hC,hCs,hr⟩:=grow _ hol (fun j v hj=>by
             rw[eW,qD w _ _ arr e2 (0,0) h2];rw[dt] at hj;split at hj
             . simpa using hj
             simp at hj) hc'
            have hall:=h4.append hus;obtain⟨U',c1,c2,c3,c4,rfl⟩:=tl hS2 he (arr:=((arr.toList.drop off1).take (n1*te.size)).toArray++us.toArray++Builtin.zeroCells ze.cells (C-(n1+m))) (by
             rw[qG,qG];simp only;rw[<-hall.length,jJ (ah _),cN];exact hall) (by rw[<-hall.length];simp)
            exact⟨_,_,U',.inl hr,c1,c3,fun D hD=>c4 D hD,⟨_,C,c2,rfl,hC,by show 0+C*te.size=_;rw[hCs];try omega⟩⟩
           cases he
         -- to the block's end
         rename_i sz;have hcap0:off1+c0*sz=k.2:=hcap;split at he
         .
          rename_i e1 cs vs cnt hg;cases hb3:(Nat.beq sz te.size&&Nat.beq e1 e&&Nat.beq off1 0) with
          |false=>rw[hb3] at he;cases he
          |true=>
           rw[hb3] at he;simp only[al] at he;simp only[aH] at hb3;have q1:=aB hb3.1.1;have q2:=aB hb3.1.2;have q3:=aB hb3.2;subst q1 q2 q3;simp only[a8] at hcap0;split at he
           .
            rename_i p hv;have hO:=hS.sim.obj g1 _ hg;obtain⟨hcnt,k',arr,d1,d2,d3,d4,d5,d6,d7,d8⟩:=hO.2 u1 p (oX hv);rw[hk] at d1;cases d1;have d3:H k.1=none:=hO.1 rfl u1 k hk;cases hc1:Nat.ble ((n1+m)*te.size) p with
            |true=>
             rw[hc1] at he;simp only[al] at he;split at he
             . rename_i o' hw;rw[bz] at he;simp only[ai,aC] at he;obtain⟨rfl,rfl⟩:=he;have hle:=bl hc1;exact room hw (Nat.le_of_mul_le_mul_right (by omega) hp')
             cases he
            |false=>
             rw[hc1] at he;simp only[bh] at he;cases hc2:Nat.ble (n1*te.size) p with
             |false=>rw[hc2] at he;cases he
             |true=>
              rw[hc2] at he;simp only[al,dE,bz,ai,aC] at he;obtain⟨rfl,rfl⟩:=he;have hle:=bl hc2;have hfresh:U g1 cnt=none:=by
               cases hx:U g1 cnt with
               |none=>rfl
               |some kk=>
                obtain⟨_,_,o2,ho2,hlt⟩:=hS.sim.domN hg (by simp) cnt kk hx;rw[hg] at ho2;cases ho2;exact absurd hlt (Nat.lt_irrefl _)
              have hold:CRL X.Z H U (arr.toList.take (n1*te.size)) (cs.take (n1*te.size)):=by
               have:=d8.take (n1*te.size);rwa[cB,cB,ce hle] at this
              have hall:=hold.append hus;have hcl:(cs.take (n1*te.size)++news).length=(n1+m)*te.size:=by
               rw[bg,bG,ce (by omega),hnl,bQ]
              -- the versions that stay
              have stay:∀{w':World} {U':Bm},BLe U U'->(∀u kk,U g1 u=some kk->kk.1≠k.1->w'.heap[kk.1]?=w.heap[kk.1]?)->(∃arr',w'.heap[k.1]?=some (.cells arr' e1 (0,0))/\arr'.size=arr.size/\arr'.toList.take (n1*te.size)=arr.toList.take (n1*te.size))->
               ∀v q,(v,q)∈oa (vs.map fun p=>(p.1,Nat.min p.2 (n1*te.size)))->v<cnt+1/\∃kk arr',U' g1 v=some kk/\E.own kk.1/\(if false then H kk.1=some arr' else H kk.1=none)/\w'.heap[kk.1]?=some (.cells arr' e1 (0,0))/\arr'.size=kk.2/\q<=(cs.take (n1*te.size)++news).length/\q<=arr'.size/\CRL X.Z H U' (arr'.toList.take q) ((cs.take (n1*te.size)++news).take q):=fun{w' U'} hB hoth ⟨arr',x1,x2,x3⟩ v q hvq=>by
               obtain⟨pp,hpp,epp⟩:=List.mem_map.1 (Q5 hvq);obtain⟨v',q'⟩:=pp;simp only[aC] at epp;obtain⟨rfl,eq⟩:=epp;have eq':q=min q' (n1*te.size):=eq.symm;obtain⟨c1,kk,arr2,f1,f2,f3,f4,f5,f6,f7,f8⟩:=hO.2 v' q' hpp;have hq1:q<=q':=by omega
               have hq2:q<=n1*te.size:=by omega
               have htk:(cs.take (n1*te.size)++news).take q=cs.take q:=by
                rw[jJ (by rw[bG];omega),cB,ce hq2]
               have f8':CRL X.Z H U' (arr2.toList.take q) (cs.take q):=by
                have:=f8.take q;rw[cB,cB,ce hq1] at this;exact this.mono (HLe.refl _) hB
               have f3':H kk.1=none:=hO.1 rfl v' kk f1;refine⟨by omega,kk,?_⟩;by_cases hkk:kk.1=k.1
               . rw[hkk,d4] at f4;cases f4;refine⟨arr',hB _ _ _ f1,f2,by simpa using f3',by rw[hkk];exact x1,by rw[x2];exact f5,by rw[hcl,bQ];omega,by rw[x2];omega,?_⟩;rw[htk];have:arr'.toList.take q=arr.toList.take q:=by
                  rw[<-ce hq2,<-cB,x3,cB]
                 rw[this];exact f8'
               exact⟨arr2,hB _ _ _ f1,f2,by simpa using f3',(hoth v' kk f1 hkk).trans f4,f5,by rw[hcl,bQ];omega,by omega,by rw[htk];exact f8'⟩
              by_cases hroom:n1+m<=c0
              .
               -- in place
               have hfit:0+n1*te.size+us.length<=arr.size:=by
                rw[hul,d5,<-hcap0,a8,<-bQ];exact cL _ hroom
               have hr:=Gh (P:=X.P) w t o.type e1 ie ok.und oke.info k.1 0 n1 c0 arr d4 A m cx us (by rw[hul,oke.size]) hA hus.one hroom (by rw[oke.size];exact hfit);rw[oke.size,a8] at hr;have hrow:=uL w k.1 arr (splice arr.toList (n1*te.size) us).toArray e1 (0,0) d4;have hssz:(splice arr.toList (n1*te.size) us).toArray.size=arr.size:=by
                simp only[lD];rw[jm (by simp;omega),fC]
               have hstk:(splice arr.toList (n1*te.size) us).toArray.toList.take (n1*te.size)=arr.toList.take (n1*te.size):=Bu (ah _) (by simp;omega);refine⟨_,_,mh U g1 cnt k,.inl (exec hsv hr),kI hfresh,hS.sim.turn (by rw[hg];simp) rfl rfl rfl (by simp) (fun k' _ hk'=>nM _ _ _ _ (fun e'=>hk' u1 k hk e'.symm)) (fun u' s' hs'=>hO.1 rfl u' s' hs') (kI hfresh) (fun g' u' hne=>kE _ _ _ _ (fun e'=>hne e'.1)) (fun u' k' hk'=>?_) ⟨fun _ u' k' hk'=>?_,fun v q hvq=>?_⟩,MarkSame.row d4,k,c0,fH _ _ _ _,rfl,hroom,by show 0+c0*te.size=k.2;omega⟩
               . by_cases eu:u'=cnt
                 . subst eu;rw[fH] at hk';cases hk';obtain⟨hlt,hown,_⟩:=hS.sim.domN hg (by simp) u1 k hk;exact⟨uT _,by simpa using hlt,hown,.inl ⟨u1,k,hk,rfl⟩⟩
                 rw[kE _ _ _ _ (fun e'=>eu e'.2)] at hk';obtain⟨hlt,hown,o2,ho2,hc2⟩:=hS.sim.domN hg (by simp) u' k' hk';rw[hg] at ho2;cases ho2;exact⟨Nat.lt_succ_of_lt hc2,by simpa using hlt,hown,.inl ⟨u',k',hk',rfl⟩⟩
               . by_cases eu:u'=cnt
                 . subst eu;rw[fH] at hk';cases hk';exact d3
                 rw[kE _ _ _ _ (fun e'=>eu e'.2)] at hk';exact hO.1 rfl u' k' hk'
               rcases List.mem_cons.1 hvq with e'|hvq
               . simp only[aC] at e';obtain⟨rfl,rfl⟩:=e';refine⟨uT _,k,_,fH _ _ _ _,d2,by simpa using d3,hrow,by rw[hssz];exact d5,by rw[hcl];exact ah _,by rw[hssz,bQ];omega,?_⟩;rw[ay (jL hcl)];have:(splice arr.toList (n1*te.size) us).toArray.toList.take ((n1+m)*te.size)=arr.toList.take (n1*te.size)++us:=by
                  show(splice arr.toList (n1*te.size) us).take ((n1+m)*te.size)=_;unfold Fl.splice;rw[jJ (by simp only[bg,bG,fC,hul,bQ];omega),ay (by simp only[bg,bG,fC,hul,bQ];omega)]
                 rw[this];exact hall.mono (HLe.refl _) (kI hfresh)
               exact stay (kI hfresh) (fun u kk _ hne=>nM _ _ _ _ hne) ⟨_,hrow,hssz,hstk⟩ v q hvq
              -- it grows
              have hold':(arr.toList.take (n1*te.size)).length=n1*te.size:=by rw[bG,fC];omega
              obtain⟨C,hC,hCs,hr⟩:=grow (arr.toList.take (n1*te.size)) hold' (fun j v hj=>by
               rw[eW,a8,qD w _ _ arr e1 (0,0) d4];rw[dt] at hj;split at hj
               . simpa using hj
               simp at hj) (by omega)
              generalize hbig:(arr.toList.take (n1*te.size)).toArray++us.toArray++Builtin.zeroCells ze.cells (C-(n1+m))=big at hr hCs;have hbtk:big.toList.take ((n1+m)*te.size)=arr.toList.take (n1*te.size)++us:=by
               rw[<-hbig,qG,qG];simp only;rw[jJ (by rw[bg,hold',hul,bQ];exact ah _),ay (by rw[bg,hold',hul,bQ];exact ah _)]
              have hbe0:=(kA w.drew.heap.size w.drew).alloc (ah _) (.cells big e1);have hbe:Below w.heap.size w (w.drew.alloc (.cells big e1)):=⟨hbe0.os,hbe0.tape,hbe0.output,hbe0.size,fun k hk=>hbe0.block k hk⟩;have hnewb:w.heap.size<(w.drew.alloc (.cells big e1)).heap.size:=(Array.getElem?_eq_some_iff.1 (nK w.drew (.cells big e1))).1;have hNone:H w.heap.size=none:=by
               cases hx:H w.heap.size with
               |none=>rfl
               |some arr'=>have:=hS.sim.has.lt hx;omega
              refine⟨_,_,mh U g1 cnt (w.heap.size,C*te.size),.inl hr,kI hfresh,hS.sim.turn (by rw[hg];simp) hbe.os hbe.tape hbe.output hbe.size (fun k' hlt _=>hbe.block k' hlt) (fun u' s' hs'=>hO.1 rfl u' s' hs') (kI hfresh) (fun g' u' hne=>kE _ _ _ _ (fun e'=>hne e'.1)) (fun u' k' hk'=>?_) ⟨fun _ u' k' hk'=>?_,fun v q hvq=>?_⟩,MarkSame.below hbe,_,C,fH _ _ _ _,rfl,hC,by show 0+C*te.size=_;omega⟩
              . by_cases eu:u'=cnt
                . subst eu;rw[fH] at hk';cases hk';exact⟨uT _,hnewb,hS.sim.lo _ (ah _),.inr (ah _)⟩
                rw[kE _ _ _ _ (fun e'=>eu e'.2)] at hk';obtain⟨hlt,hown,o2,ho2,hc2⟩:=hS.sim.domN hg (by simp) u' k' hk';rw[hg] at ho2;cases ho2;exact⟨Nat.lt_succ_of_lt hc2,FI hlt hnewb,hown,.inl ⟨u',k',hk',rfl⟩⟩
              . by_cases eu:u'=cnt
                . subst eu;rw[fH] at hk';cases hk';exact hNone
                rw[kE _ _ _ _ (fun e'=>eu e'.2)] at hk';exact hO.1 rfl u' k' hk'
              rcases List.mem_cons.1 hvq with e'|hvq
              . simp only[aC] at e';obtain⟨rfl,rfl⟩:=e';refine⟨uT _,_,big,fH _ _ _ _,hS.sim.lo _ (ah _),by simpa using hNone,nK w.drew _,hCs,by rw[hcl];exact ah _,by rw[hCs];exact cL _ hC,?_⟩;rw[ay (jL hcl),hbtk];exact hall.mono (HLe.refl _) (kI hfresh)
              exact stay (kI hfresh) (fun u kk hkk _=>hbe.block _ (hS.sim.domN hg (by simp) u kk hkk).1) ⟨arr,(hbe.block _ (hS.sim.domN hg (by simp) u1 k hk).1).trans d4,rfl,rfl⟩ v q hvq
           cases he
         cases he
      cases he
     cases he
   cases he
  cases he
 cases he
end
section
variable {X:EX}{E:EEnv}{nt:Nat}{H H':ak}{U U':Bm}{tm:Nat->ES}{h h':Hp}{a:Act}{w w':World}{o:Oper}
def PU{P:Program}(w:World)(sz:Nat){ad:Option Addr}{m c:Nat}{us:List Value}(hul:us.length=m*sz)(hcell:0<m->∃a,ad=some a/\∀j u,us[j]?=some u->w.cell? (a.add j)=some u){k:Nat}(hk:k<=m) :
 (Builtin.firstCells sz k (.slice ad m c)).run P w=.ok (us.take (k*sz)).toArray w:=by
 by_cases h0:k=0
 .
  subst h0;cases ad with
  |none=>simp[Builtin.firstCells]
  |some a=>
   have:=Oh (P:=P) w sz 0 a m c [] (by simp) (by simp);simpa using this
 obtain⟨a,rfl,ha⟩:=hcell (by omega);have hl:(us.take (k*sz)).length=k*sz:=by
  rw[bG,hul,ce (cL _ hk)]
 exact Oh (P:=P) w sz k a m c (us.take (k*sz)) hl (fun j u hj=>ha j u (by
  rw[dt] at hj;split at hj
  . exact hj
  cases hj))
def ok_copy(hS:ESt X E nt H U tm h a w){d x:Operand}{t t':TypeId}(ho:o.op=.call { callee:=.builtin .copy,args := #[d,x],argTypes := #[t,t'] }){r:ES}{ws:Wr}(he:oc X.T h t (am tm d) (am tm x)=some (r,ws)):OpOk X E H U h a w o r ws:=by
 have hd:=bF hS d;have hx:=bF hS x;unfold oc at he;split at he
 .
  rename_i ty ht;obtain⟨i,dd,z,ok⟩:=aT (X.hT t ty ht);have hd':=ok.sh;split at he
  .
   rename_i e hsh;rw[hsh] at hd';obtain rfl:=fG hd';split at he
   .
    rename_i te hte;obtain⟨ie,de,ze,oke⟩:=aT (X.hT e te hte);split at he
    .
     rename_i news m g1 u1 off1 n1 cap hsrc hde;rw[hde] at hd;obtain⟨k,c0,hk,hdv,hn,_⟩:=hd;obtain⟨ad,cx,us,hxv,hus,hul,hcell⟩:=J7 hS.sim hx hsrc;rw[bz] at he;split at he
     . rename_i o' hw;simp only[ai,aC] at he;obtain⟨rfl,rfl⟩:=he;have hcut:=hus.take (Nat.min m n1*te.size);obtain⟨k',arr,e2,h1,h2,h3,h4,h5,h6⟩:=zm hS.sim hw hcut;rw[hk] at h1;cases h1;have hf:=PU (P:=X.P) w te.size (c:=cx) hul hcell (Nat.min_le_left m n1);have hst:=FC X.P k.1 off1 e2 (us.take (Nat.min m n1*te.size)) 0 arr w h2 (by simpa using h3) hcut.one;simp only[fF] at hst;refine⟨_,_,U,.inl ?_,BLe.refl _,h5,h6,rfl,VR.int _ _⟩;have hr:(Builtin.copy_ #[t,t'] o.type #[.slice (some ⟨k.1,off1,none⟩) n1 c0,.slice ad m cx]).run X.P w=.ok (goInt (Nat.min m n1)) (w.setRow k.1 (splice arr.toList off1 (us.take (Nat.min m n1*te.size))).toArray):=by
        simp only[Builtin.copy_,sr,oG,FH,aw,ok.run_und,av,aA,Builtin.lenOf,oke.run_size,hf];simp only[hst,av,Fl.splice]
       simp only[execOp,ho,resolve,invoke,builtin,aw,aA,av,jM,aZ,eP,hdv,hxv,hr];rfl
     cases he
    cases he
   cases he
  cases he
 cases he
def R6(hS:ESt X E nt H U tm h a w){d:Operand}{t:TypeId}(ho:o.op=.call { callee:=.builtin .clear,args := #[d],argTypes := #[t] }){r:ES}{ws:Wr}(he:l6 X.T X.ze h t (am tm d)=some (r,ws)):OpOk X E H U h a w o r ws:=by
 have hd:=bF hS d;unfold l6 at he;split at he
 .
  rename_i ty ht;obtain⟨i,dd,z,ok⟩:=aT (X.hT t ty ht);have hd':=ok.sh;split at he
  .
   rename_i e hsh;rw[hsh] at hd';obtain rfl:=fG hd';split at he
   .
    rename_i te zs hte hz;obtain⟨ie,de,zee,oke⟩:=aT (X.hT e te hte);obtain⟨ze,hz1,hz2,hz3,i',hz4,hz5⟩:=EX.run_zero hz;cases hb:Nat.beq zs.length te.size with
    |false=>rw[hb] at he;cases he
    |true=>
     rw[hb] at he;simp only[al] at he;have hzl:=aB hb;have hzc:ze.cells.size=te.size:=by omega
     have none0:∀{ad:Option Addr} {c:Nat},a.eval d=.slice ad 0 c->OpOk X E H U h a w o (.tup []) []:=fun{ad c} hdv=>by
      refine OpOk.pure hS (v:=.tuple #[]) ?_ ⟨[],rfl,aa⟩;have hr:(Builtin.clear_ #[t] o.type #[.slice ad 0 c]).run X.P w=.ok (.tuple #[]) w:=by
       cases ad<;>simp only[Builtin.clear_,sr,oG,aw,ok.run_und,av,aA]
      simp only[execOp,ho,resolve,invoke,builtin,aw,aA,av,jM,aZ,eP,hdv,hr]
     split at he
     .
      rename_i g1 u1 off1 n1 cap hde;rw[hde] at hd;obtain⟨k,c0,hk,hdv,hn,_⟩:=hd;split at he
      .
       rename_i o' hw;simp only[ai,aC] at he;obtain⟨rfl,rfl⟩:=he;obtain⟨k',arr,e2,h1,h2,h3,h4,h5,h6⟩:=zm hS.sim hw (vQ (hz2 H U) n1);rw[hk] at h1;cases h1;have hst:=FC X.P k.1 off1 e2 (aX (List.replicate n1 ze)) 0 arr w h2 (by simpa using h3) (vQ (hz2 H U) n1).one;simp only[fF] at hst;have hzero:(Builtin.zeroCells ze.cells n1).toList=aX (List.replicate n1 ze):=by
        have:0<te.size\/te.size=0:=by omega
        rcases this with hp|hp
        . have:=vo hzc hp n1;rw[<-hzc] at this;exact this
        have e1:ze.cells = #[]:=by apply Array.eq_empty_of_size_eq_zero;omega
        have e3:∀n,aX (List.replicate n ze)=[]:=by
         intro n;induction n with
         |zero=>rfl
         |succ n ih=>rw[qA,nY,ih,e1];rfl
        rw[e3,e1];simp[Builtin.zeroCells]
       refine⟨.tuple #[],_,U,.inl ?_,BLe.refl _,h5,h6,[],rfl,aa⟩;have hr:(Builtin.clear_ #[t] o.type #[.slice (some ⟨k.1,off1,none⟩) n1 c0]).run X.P w=.ok (.tuple #[]) (w.setRow k.1 (splice arr.toList off1 (aX (List.replicate n1 ze))).toArray):=by
        cases n1 with
        |zero=>
         simp only[Builtin.clear_,sr,oG,aw,ok.run_und,av,aA];have e1:splice arr.toList off1 (aX (List.replicate 0 ze))=arr.toList:=by simp[Fl.splice,aX]
         rw[e1,Array.toArray_toList,setRow_self w _ arr e2 (0,0) h2]
        |succ n1=>
         simp only[Builtin.clear_,sr,oG,aw,ok.run_und,av,aA,hz1,hzero,hst,Fl.splice]
       simp only[execOp,ho,resolve,invoke,builtin,aw,aA,av,jM,aZ,eP,hdv,hr]
      cases he
     . rename_i hde;rw[hde] at hd;simp only[ai,aC] at he;obtain⟨rfl,rfl⟩:=he;rcases VR.asSl hd.2 with⟨_,ad,cap,hh⟩|⟨b,off,cap,sz,arr,vs,hh,_⟩
       . exact none0 hh
       exact none0 hh
     . rename_i hde;rw[hde] at hd;simp only[ai,aC] at he;obtain⟨rfl,rfl⟩:=he;exact none0 (rH hd.2)
     cases he
   cases he
  cases he
 cases he
def P1(hS:ESt X E nt H U tm h a w){b:Builtin}{args:Array Operand}{ts:Array TypeId}(ho:o.op=.call { callee:=.builtin b,args:=args,argTypes:=ts }){g:Nat}{r:ES}{ws:Wr}(he:gc X.T X.ze h g b ts.toList (args.toList.map (am tm))=some (r,ws)):OpOk X E H U h a w o r ws:=by
 have m1:∀{x:ES} {l:List Operand},l.map (am tm)=[x]->∃y,l=[y]/\am tm y=x:=fun{x l} hl=>by
  cases l with
  |nil=>cases hl
  |cons y l=>cases l with
   |nil=>simp only[aZ,eP,oK,and_true] at hl;exact⟨y,rfl,hl⟩
   |cons=>simp at hl
 have m2:∀{x x':ES} {l:List Operand},l.map (am tm)=[x,x']->∃y y',l=[y,y']/\am tm y=x/\am tm y'=x':=fun{x x' l} hl=>by
  cases l with
  |nil=>cases hl
  |cons y l=>cases l with
   |nil=>simp at hl
   |cons y' l=>cases l with
    |nil=>simp only[aZ,eP,oK,and_true] at hl;exact⟨y,y',rfl,hl⟩
    |cons=>simp at hl
 have arr:∀{α:Type} {l:Array α} {l':List α},l.toList=l'->l=l'.toArray:=fun hl=>by rw[<-hl]
 unfold gc at he;split at he
 . rename_i x t ha hts;obtain⟨y,hy,rfl⟩:=m1 ha;rw[arr hy,arr hts] at ho;exact We hS ho he
 . rename_i x x' ha;obtain⟨y,y',hy,rfl,rfl⟩:=m2 ha;rw[arr hy] at ho;exact Mu (mx:=true) hS ho he
 . rename_i x x' ha;obtain⟨y,y',hy,rfl,rfl⟩:=m2 ha;rw[arr hy] at ho;exact Mu (mx:=false) hS ho he
 .
  rename_i x x' t t' ha hts;obtain⟨y,y',hy,rfl,rfl⟩:=m2 ha;rw[arr hy,arr hts] at ho;cases htt:Nat.beq t t' with
  |false=>rw[htt] at he;cases he
  |true=>
   rw[htt] at he;have:=aB htt;subst this;exact QY hS ho he
 . rename_i x x' t t' ha hts;obtain⟨y,y',hy,rfl,rfl⟩:=m2 ha;rw[arr hy,arr hts] at ho;exact ok_copy hS ho he
 . rename_i x t ha hts;obtain⟨y,hy,rfl⟩:=m1 ha;rw[arr hy,arr hts] at ho;exact R6 hS ho he
 cases he
end
section
variable {X:EX}{E:EEnv}{nt:Nat}{H H':ak}{U U':Bm}{tm:Nat->ES}{h h':Hp}{a:Act}{w w':World}{o:Oper}
def Hq{Z:QS}:∀{cs:List EV} {l:List Int} {vs:List Value},ri cs=some l->CRL Z H U vs cs->vs=l.map (Value.int .i64)
 | [],l,vs,h,hv=>by
  simp only[ri,ai] at h;subst h;cases vs with
  |nil=>rfl
  |cons=>exact hv.elim
 |c::cs,l,vs,h,hv=>by
  unfold ri at h;split at h
  . rename_i hh;cases hh
  .
   rename_i n cs' hh;cases hh;cases hk:ri cs with
   |none=>rw[hk] at h;cases h
   |some l'=>
    rw[hk] at h;simp only[fE,ai] at h;subst h;cases vs with
    |nil=>exact hv.elim
    |cons v vs=>
     have h1:v=.int .i64 n:=VR.asInt hv.1.2;rw[h1,Hq hk hv.2];rfl
  cases h
def yY{Z:QS}{v:Value}{x:EW}{k:KV}(hk:iK x=some k)(hv:WR Z H U v x):KVR v k:=by
 unfold iK at hk;split at hk
 . simp only[ai] at hk;subst hk;obtain⟨bs,rfl,rfl⟩:=jU hv.2;exact .str bs
 .
  rename_i cs;cases hi:ri cs with
  |none=>rw[hi] at hk;cases hk
  |some l=>
   rw[hi] at hk;simp only[fE,ai] at hk;subst hk;obtain⟨vs,rfl,hvs⟩:=hv;rw[Hq hi hvs];exact .ints l
 cases hk
def KVR.fn{v:Value}{k k':KV}(h1:KVR v k)(h2:KVR v k'):k=k':=by
 cases h1 with
 |str s=>cases h2;rfl
 |ints l=>
  generalize he:Value.agg (l.map (Value.int .i64)).toArray=v at h2;cases h2 with
  |str s=>cases he
  |ints l'=>
   simp only[Value.agg.injEq,List.toArray_inj] at he;have:∀(a b:List Int),a.map (Value.int .i64)=b.map (Value.int .i64)->a=b:=by
    intro a;induction a with
    |nil=>intro b hb;cases b with
     |nil=>rfl
     |cons=>simp at hb
    |cons x a ih=>intro b hb;cases b with
     |nil=>simp at hb
     |cons y b=>
      simp only[aZ,oK,Value.int.injEq,true_and] at hb;rw[hb.1,ih b hb.2]
   have he':l.map (Value.int .i64)=l'.map (Value.int .i64):=by simpa using aL Array.toList he
   rw[this l l' he']
def KVR.inj{v v':Value}{k:KV}(h1:KVR v k)(h2:KVR v' k):v=v':=by
 cases h1 with
 |str s=>
  generalize he:KV.str s.data.toList=k at h2;cases h2 with
  |str s'=>
   simp only[KV.str.injEq] at he;have:s=s':=by
    cases s;cases s';simp only[ByteArray.mk.injEq];exact fc he
   rw[this]
  |ints=>cases he
 |ints l=>cases h2;rfl
def MRL.get{Z:QS}:∀{vs:List MapEntry} {xs:List (EW×EW×Nat)},MRL Z H U vs xs->∀(i:Nat) (e:MapEntry),vs[i]?=some e->∃x,xs[i]?=some x/\MR Z H U e x
 | [],[],_,i,e,h=>by simp at h
 |v::_,x::_,⟨h1,_⟩,0,e,h=>by simp at h;subst h;exact⟨x,rfl,h1⟩
 |_::_,_::_,⟨_,h2⟩,i+1,e,h=>by simp at h;simpa using MRL.get h2 i e h
 | [],_::_,h,_,_,_=>h.elim
 |_::_,[],h,_,_,_=>h.elim
def MRL.length{Z:QS}:∀{vs:List MapEntry} {xs:List (EW×EW×Nat)},MRL Z H U vs xs->vs.length=xs.length
 | [],[],_=>rfl
 |_::_,_::_,⟨_,h2⟩=>by simp[MRL.length h2]
 | [],_::_,h=>h.elim
 |_::_,[],h=>h.elim
def MRL.append{Z:QS}:∀{vs:List MapEntry} {xs:List (EW×EW×Nat)} {us:List MapEntry} {ys:List (EW×EW×Nat)},MRL Z H U vs xs->MRL Z H U us ys->MRL Z H U (vs++us) (xs++ys)
 | [],[],_,_,_,h=>by simpa using h
 |_::_,_::_,_,_,⟨h1,h2⟩,h=>by simpa using(show MRL Z H U (_::_) (_::_) from⟨h1,MRL.append h2 h⟩)
 | [],_::_,_,_,h,_=>h.elim
 |_::_,[],_,_,h,_=>h.elim
def MRL.set{Z:QS}:∀{vs:List MapEntry} {xs:List (EW×EW×Nat)} (i:Nat) {e:MapEntry} {x:EW×EW×Nat},MRL Z H U vs xs->MR Z H U e x->MRL Z H U (vs.set i e) (xs.set i x)
 | [],[],_,_,_,_,_=>by simp[MRL]
 |_::_,_::_,0,_,_,⟨_,h2⟩,h=>⟨h,h2⟩
 |_::_,_::_,i+1,_,_,⟨h1,h2⟩,h=>⟨h1,MRL.set i h2 h⟩
 | [],_::_,_,_,_,h,_=>h.elim
 |_::_,[],_,_,_,h,_=>h.elim
def H6{ok:KV->Bool}{k:KV}:∀{es:List (EW×EW×Nat)} {i:Nat} {l:List (Nat×EW×Nat)},fN ok k es i=some l->
 (∀x∈es,∃k',iK x.1=some k'/\ok k'=true)/\(∀j x,es[j]?=some x->iK x.1=some k->(i+j,x.2.1,x.2.2)∈l)/\(∀p∈l,∃j x,es[j]?=some x/\iK x.1=some k/\p=(i+j,x.2.1,x.2.2))
 | [],i,l,h=>by
  simp only[fN,ai] at h;subst h;exact⟨by simp,by simp,by simp⟩
 | (x,y,b)::es,i,l,h=>by
   unfold fN at h;split at h
   .
    rename_i k' r h1 h2;obtain⟨i1,i2,i3⟩:=H6 h2;cases hok:ok k' with
    |false=>rw[hok] at h;cases h
    |true=>
     rw[hok] at h;simp only[al] at h;have sub:∀p∈r,p∈l/\True:=fun p hp=>by
      cases hd:decide (k'=k) with
      |true=>rw[hd] at h;simp only[al,ai] at h;subst h;exact⟨dC _ hp,aa⟩
      |false=>rw[hd] at h;simp only[bh,ai] at h;subst h;exact⟨hp,aa⟩
     refine⟨fun z hz=>?_,fun j z hj hk=>?_,fun p hp=>?_⟩
     . rcases List.mem_cons.1 hz with rfl|hz
       . exact⟨k',h1,hok⟩
       exact i1 z hz
     .
      cases j with
      |zero=>
       simp only[oG,ai] at hj;subst hj;have:k'=k:=by rw[h1] at hk;simpa using hk
       rw[bB this] at h;simp only[al,ai] at h;subst h;simp
      |succ j=>
       have:=(sub _ (i2 j z (by simpa using hj) hk)).1;rwa[show i+1+j=i+(j+1) by omega] at this
     have hcase:p=(i,y,b)/\k'=k\/p∈r:=by
      cases hd:decide (k'=k) with
      |true=>
       rw[hd] at h;simp only[al,ai] at h;subst h;rcases List.mem_cons.1 hp with e|e
       . exact .inl ⟨e,mP hd⟩
       exact .inr e
      |false=>rw[hd] at h;simp only[bh,ai] at h;subst h;exact .inr hp
     rcases hcase with⟨e,e'⟩|e
     . exact⟨0,_,rfl,by rw[h1,e'],e⟩
     obtain⟨j,z,z1,z2,z3⟩:=i3 p e;exact⟨j+1,z,by simpa using z1,z2,by rw[z3,show i+1+j=i+(j+1) by omega]⟩
   cases h
def y3(hS:ESim X.Z E H U h w){t k e:TypeId}{ok:KV->Bool}(hmk:X.B.mp t=some (k,e,ok)){g:Nat}{es:List (EW×EW×Nat)}{ck:Nat}(hg:h g=some (.map es ck)){kx:EW}{kv:KV}(hk:iK kx=some kv)(hok:ok kv=true){v:Value}(hv:WR X.Z H U v kx)
 {l:List (Nat×EW×Nat)} (hp:fN ok kv es 0=some l) :
 ∃(kk:Nat×Nat) (ents:Array MapEntry),U g 0=some kk/\w.heap[kk.1]?=some (.map ents ck)/\MRL X.Z H U ents.toList es/\(Instr.checkKey ents.isEmpty 10000 k v).run X.P w=.ok () w/\(Instr.checkKey false 10000 k v).run X.P w=.ok () w/\
  (Instr.keyThatStays v v).run X.P w=.ok v w/\
  ((l=[]->(Instr.findKey k v ents.toList).run X.P w=.ok none w)/\∀i y b,l=[(i,y,b)]->∃en,(Instr.findKey k v ents.toList).run X.P w=.ok (some (i,en.val)) w/\ents.toList[i]?=some en/\en.key=v/\WR X.Z H U en.val y/\en.born=b):=by
 obtain⟨hu,K,hfit⟩:=X.hmk t k e ok hmk;obtain⟨kk,ents,h1,h2,h3,h4,h5⟩:=hS.obj g _ hg;obtain⟨p1,p2,p3⟩:=H6 hp;have hkv:=yY hk hv;obtain⟨lv,hlv⟩:=hfit v kv hkv hok;have hall:∀en∈ents.toList,∃l,keyOf X.P k en.key=some l:=fun en hen=>by
  obtain⟨i,hi,rfl⟩:=List.mem_iff_getElem.1 hen;obtain⟨x,hx,hm⟩:=h5.get i _ (bi hi);obtain⟨k',hk',hok'⟩:=p1 x (bN hx);exact hfit _ _ (yY hk' hm.1) hok'
 refine⟨kk,ents,h1,h4,h5,K.check w _ hlv,K.check w _ hlv,K.stays w hlv,?_⟩;have atj:∀(j:Nat) (en:MapEntry),ents.toList[j]?=some en->en.key=v->∃y b,(j,y,b)∈l/\WR X.Z H U en.val y/\en.born=b:=fun j en hj hkey=>by
  obtain⟨x,hx,hm⟩:=h5.get j en hj;obtain⟨k',hk',_⟩:=p1 x (bN hx);have:k'=kv:=by
   have:=yY hk' hm.1;rw[hkey] at this;exact this.fn hkv
  subst this;have:=p2 j x hx hk';rw[a8] at this;exact⟨_,_,this,hm.2.1,hm.2.2⟩
 rcases K.find w hlv ents.toList hall with⟨f1,f2⟩|⟨j,en,f1,f2,f3⟩
 . refine⟨fun _=>f1,fun i y b hl=>?_⟩;obtain⟨j,x,x1,x2,x3⟩:=p3 (i,y,b) (by rw[hl];simp);have hlt:j<ents.toList.length:=by rw[h5.length];exact(List.getElem?_eq_some_iff.1 x1).1
   obtain⟨x',hx',hm⟩:=h5.get j _ (bi hlt);rw[x1] at hx';cases hx';exact absurd ((yY x2 hm.1).inj hkv) (f2 _ (iw hlt))
 obtain⟨y,b,q1,q2,q3⟩:=atj j en f2 f3;refine⟨fun hl=>(by rw[hl] at q1;cases q1),fun i y' b' hl=>?_⟩;rw[hl] at q1;simp only[fg,aC] at q1;obtain⟨rfl,rfl,rfl⟩:=q1;exact⟨en,f1,f2,f3,q2,q3⟩
def P0(hS:ESt X E nt H U tm h a w){t:TypeId}{res:Option Operand}(ho:o.op=.makeMap t res){g:Nat}{r:ES}{ws:Wr}(he:vL h g (res.map (am tm))=some (r,ws)):OpOk X E H U h a w o r ws:=by
 unfold vL at he;split at he
 .
  rename_i hres hg;have:res=none:=by cases res with|none=>rfl|some _=>cases hres
  subst this;simp only[ai,aC] at he;obtain⟨rfl,rfl⟩:=he;have hbe:Below w.heap.size w (w.alloc (.map #[] 0)):=(kA _ _).alloc (ah _) _;have hnew:H w.heap.size=none:=by
   cases hx:H w.heap.size with
   |none=>rfl
   |some arr'=>have:=hS.sim.has.lt hx;omega
  obtain⟨hb,hs⟩:=hS.sim.alloc hg (b:=.map #[] 0) (s:=0) (o:=.map [] 0) Nat.one_pos ⟨_,#[],fH _ _ _ _,hS.sim.lo _ (ah _),hnew,nK _ _,aa⟩;refine⟨.map (some w.heap.size),_,_,.inl ?_,hb,hs,MarkSame.below hbe,_,fH _ _ _ _,rfl⟩;simp only[execOp,ho,Instr.makeMap,xg,aw,nL,aA,av];rfl
 cases he
def oQ{P:Program}{w:World}{b ck:Nat}{ents:Array MapEntry}(h:w.heap[b]?=some (.map ents ck)):(getObj b).run P w=.ok (.map ents ck) w:=MapKept.run_getObj_map h
def QT(hS:ESt X E nt H U tm h a w){t:TypeId}{x ix:Operand}{cok:Bool}(ho:o.op=.lookup t x ix cok){r:ES}{ws:Wr}(he:m9 X.B.mp X.B.zw h t (am tm x) (am tm ix) cok=some (r,ws)):OpOk X E H U h a w o r ws:=by
 have hx:=bF hS x;have hi:=bF hS ix;unfold m9 at he;split at he
 .
  rename_i k e ok g kx hmk hxe hie;rw[hxe] at hx;rw[hie] at hi;have hi:WR X.Z H U (a.eval ix) kx:=hi;obtain⟨kk,hkk,hxv⟩:=hx;split at he
  .
   rename_i es ck kv hg hkx;cases hok:ok kv with
   |false=>rw[hok] at he;cases he
   |true=>
    rw[hok] at he;simp only[al] at he;have hu:=(X.hmk t k e ok hmk).1;split at he
    .
     rename_i z hpos hz;simp only[ai,aC] at he;obtain⟨rfl,rfl⟩:=he;obtain⟨kk',ents,q1,q2,q3,q4,_,_,q5,_⟩:=y3 hS.sim hmk hg hkx hok hi hpos;rw[hkk] at q1;cases q1;obtain⟨iz,zv,z1,z2,z3⟩:=X.hzw e z hz;have hzr:(zeroValue e).run X.P w=.ok zv w:=by simp[zeroValue,typeInfo,z1,z2]
     cases cok with
     |true=>
      refine OpOk.pure hS (v:=.tuple #[zv,.bool false]) ?_ ⟨[zv,.bool false],rfl,z3 H U,⟨rfl,VR.bool _⟩,aa⟩;simp only[execOp,ho,hxv,Instr.lookup,aw,dq hu w,av,oQ q2,aA,q4,q5 rfl,hzr,bL]
     |false=>
      refine OpOk.pure hS (v:=zv) ?_ (z3 H U);simp only[execOp,ho,hxv,Instr.lookup,aw,dq hu w,av,oQ q2,aA,q4,q5 rfl,hzr,dB,bM]
    .
     rename_i i y b hpos hz;simp only[ai,aC] at he;obtain⟨rfl,rfl⟩:=he;obtain⟨kk',ents,q1,q2,q3,q4,_,_,_,q5⟩:=y3 hS.sim hmk hg hkx hok hi hpos;rw[hkk] at q1;cases q1;obtain⟨en,f1,f2,f3,f4,f5⟩:=q5 _ _ _ rfl;cases cok with
     |true=>
      refine OpOk.pure hS (v:=.tuple #[en.val,.bool true]) ?_ ⟨[en.val,.bool true],rfl,f4,⟨rfl,VR.bool _⟩,aa⟩;simp only[execOp,ho,hxv,Instr.lookup,aw,dq hu w,av,oQ q2,aA,q4,f1,bL]
     |false=>
      refine OpOk.pure hS (v:=en.val) ?_ f4;simp only[execOp,ho,hxv,Instr.lookup,aw,dq hu w,av,oQ q2,aA,q4,f1,dB,bM]
    cases he
  cases he
 cases he
def ESim.mapTurn(hS:ESim X.Z E H U h w){g:Nat}{es es':List (EW×EW×Nat)}{ck ck':Nat}(hg:h g=some (.map es ck)){kk:Nat×Nat}{ents ents':Array MapEntry}(hk:U g 0=some kk)(hw:w.heap[kk.1]?=some (.map ents ck))(hm:MRL X.Z H U ents'.toList es') :
 ESim X.Z E H U (az h g (some (.map es' ck'))) (w.putObj kk.1 (.map ents' ck'))/\MarkSame w (w.putObj kk.1 (.map ents' ck')):=by
 obtain⟨kk',ents0,h1,h2,h3,h4,h5⟩:=hS.obj g _ hg;rw[hk] at h1;cases h1;have hlt:=(Array.getElem?_eq_some_iff.1 hw).1;refine⟨hS.turn (by rw[hg];simp) rfl rfl rfl (by simp) (fun k' _ hk'=>c8 (fun e=>hk' 0 kk hk e.symm)) (fun u s hs=>?_) (BLe.refl _) (fun _ _ _=>rfl) (fun u k' hk'=>?_) ⟨kk,ents',hk,h2,h3,xt hlt,hm⟩,fun D hD=>c8 (fun e=>?_)⟩
 . obtain⟨_,_,o2,ho2,hc⟩:=hS.domN hg (by simp) u s hs;rw[hg] at ho2;cases ho2;have:u=0:=by simp only[EO.cnt] at hc;omega
   subst this;rw[hk] at hs;cases hs;exact h3
 . obtain⟨a,b,o2,ho2,hc⟩:=hS.domN hg (by simp) u k' hk';rw[hg] at ho2;cases ho2;exact⟨hc,by simpa using a,b,.inl ⟨u,k',hk',rfl⟩⟩
 subst e;rw[hw] at hD;cases hD
def GF(hS:ESt X E nt H U tm h a w){t:TypeId}{x ix y:Operand}(ho:o.op=.mapUpdate t x ix y){r:ES}{ws:Wr}(he:jR X.B.mp h t (am tm x) (am tm ix) (am tm y)=some (r,ws)):OpOk X E H U h a w o r ws:=by
 have hx:=bF hS x;have hi:=bF hS ix;have hy:=bF hS y;unfold jR at he;split at he
 .
  rename_i k e ok g kx vy hmk hxe hie hye;rw[hxe] at hx;rw[hie] at hi;rw[hye] at hy;have hi:WR X.Z H U (a.eval ix) kx:=hi;have hy:WR X.Z H U (a.eval y) vy:=hy;obtain⟨kk,hkk,hxv⟩:=hx;split at he
  .
   rename_i es ck kv hg hkx;cases hok:ok kv with
   |false=>rw[hok] at he;cases he
   |true=>
    rw[hok] at he;simp only[al] at he;have hu:=(X.hmk t k e ok hmk).1;split at he
    . rename_i hpos;rw[bz,dE] at he;simp only[ai,aC] at he;obtain⟨rfl,rfl⟩:=he;obtain⟨kk',ents,q1,q2,q3,_,q4,_,q5,_⟩:=y3 hS.sim hmk hg hkx hok hi hpos;rw[hkk] at q1;cases q1;obtain⟨s1,s2⟩:=hS.sim.mapTurn (ents':=ents.push { key:=a.eval ix,val:=a.eval y,born:=ck }) (ck':=ck+1) hg hkk q2 (es':=es ++ [(kx,vy,ck)]) (by
       rw[Array.toList_push];exact q3.append ⟨⟨hi,hy,rfl⟩,aa⟩)
      refine⟨undef,_,U,.inr ⟨rfl,?_⟩,BLe.refl _,s1,s2,rfl⟩;simp only[execOp,ho,hxv,Instr.mapUpdate,aw,dq hu w,av,oQ q2,q4,q5 rfl,MapKept.run_setObj_map _ q2,aA];rfl
    .
     rename_i i y0 b hpos;rw[dE] at he;simp only[ai,aC] at he;obtain⟨rfl,rfl⟩:=he;obtain⟨kk',ents,q1,q2,q3,_,q4,q6,_,q5⟩:=y3 hS.sim hmk hg hkx hok hi hpos;rw[hkk] at q1;cases q1;obtain⟨en,f1,f2,f3,f4,f5⟩:=q5 _ _ _ rfl;have f2':ents[i]?=some en:=by simpa using f2
     have hmod:(ents.modify i fun e=>{ e with key:=a.eval ix,val:=a.eval y }).toList=ents.toList.set i { key:=a.eval ix,val:=a.eval y,born:=b }:=by
      apply qE;intro j;rw[uK,Bb,AU];by_cases hij:i=j
      . subst hij;have hlt:=(Array.getElem?_eq_some_iff.1 f2').1;rw[au rfl,au rfl,f2'];simp[hlt,f5]
      rw[aq hij,aq hij];simp
     obtain⟨s1,s2⟩:=hS.sim.mapTurn (ents':=ents.modify i fun e=>{ e with key:=a.eval ix,val:=a.eval y }) (ck':=ck) hg hkk q2 (es':=es.set i (kx,vy,b)) (by
      rw[hmod];exact q3.set i ⟨hi,hy,rfl⟩)
     refine⟨undef,_,U,.inr ⟨rfl,?_⟩,BLe.refl _,s1,s2,rfl⟩;have hkey:((ents[i]?).map (·.key)).getD (a.eval ix)=a.eval ix:=by rw[f2'];simp[f3]
     simp only[execOp,ho,hxv,Instr.mapUpdate,aw,dq hu w,av,oQ q2,q4,f1,hkey,q6,MapKept.run_setObj_map _ q2,aA];rfl
    cases he
  cases he
 cases he
def QW(hS:ESt X E nt H U tm h a w){t:TypeId}{x ix y:Operand}(ho:o.op=.insert t x ix y){r:ES}{ws:Wr}(he:jR X.B.mp h t (am tm x) (am tm ix) (am tm y)=some (r,ws)):OpOk X E H U h a w o r ws:=by
 have:=GF (o:={ o with op:=.mapUpdate t x ix y }) hS rfl he;have e:execOp a.eval { o with op:=.mapUpdate t x ix y }=execOp a.eval o:=by
  cases o;simp only at ho;subst ho;rfl
 unfold OpOk at this ⊢;rw[e] at this;exact this
def R2(hS:ESt X E nt H U tm h a w){t:TypeId}{x:Operand}(ho:o.op=.range t x){g:Nat}{r:ES}{ws:Wr}(he:pz X.B.mp h g t (am tm x)=some (r,ws)):OpOk X E H U h a w o r ws:=by
 have hx:=bF hS x;unfold pz at he;split at he
 .
  rename_i kd gm hmk hxe;obtain⟨k,e,ok⟩:=kd;rw[hxe] at hx;obtain⟨km,hkm,hxv⟩:=hx;split at he
  .
   rename_i es ck hgm hg;rw[bz] at he;simp only[ai,aC] at he;obtain⟨rfl,rfl⟩:=he;have hu:=(X.hmk t k e ok hmk).1;obtain⟨km',ents,q1,q2,q3,q4,q5⟩:=hS.sim.obj gm _ hgm;rw[hkm] at q1;cases q1;have hbe:Below w.heap.size w (w.alloc (.mapIter (some km.1) ck #[] ck)):=(kA _ _).alloc (ah _) _;have hnew:H w.heap.size=none:=by
    cases hx:H w.heap.size with
    |none=>rfl
    |some arr'=>have:=hS.sim.has.lt hx;omega
   have hne:¬(gm=g/\0=0):=fun e=>by rw[e.1,hg] at hgm;cases hgm
   obtain⟨hb,hs⟩:=hS.sim.alloc hg (b:=.mapIter (some km.1) ck #[] ck) (s:=0) (o:=.iter gm ck [] ck none) Nat.one_pos ⟨_,km,#[],fH _ _ _ _,by rw[kE _ _ _ _ hne];exact hkm,hS.sim.lo _ (ah _),hnew,nK _ _,fun b=>gC,fun b hb=>by cases hb⟩;refine⟨.pointer (some ⟨w.heap.size,0,none⟩),_,_,.inl ?_,hb,hs,MarkSame.below hbe,_,fH _ _ _ _,rfl⟩;simp only[execOp,ho,hxv,Instr.range,aw,dq hu w,av,oQ q4,nL,aA];rfl
  cases he
 cases he
def Jr{b:Nat}:∀{es:List (EW×EW×Nat)} {ents:List MapEntry} {k v:EW},MRL X.Z H U ents es->rN b es=some (k,v)->∃en,ents.find? (fun e=>e.born==b)=some en/\WR X.Z H U en.key k/\WR X.Z H U en.val v/\en.born=b
 | [],_,_,_,_,h=>by cases h
 | (k',v',b')::es,[],_,_,hm,_=>hm.elim
 | (k',v',b')::es,en::ents,k,v,⟨⟨h1,h2,h3⟩,ht⟩,h=>by
   unfold rN at h;cases hb:Nat.beq b' b with
   |true=>
    rw[hb] at h;simp only[al,ai,aC] at h;obtain⟨rfl,rfl⟩:=h;have:=aB hb;subst this;exact⟨en,by simp[List.find?_cons,h3],h1,h2,h3⟩
   |false=>
    rw[hb] at h;obtain⟨en',e1,e2⟩:=Jr ht h;refine⟨en',?_,e2⟩;have:(en.born==b)=false:=by
     simp only[xI,ne_eq];intro e';rw[h3] at e';have h':b'=b:=e';subst h';rw[bD] at hb;cases hb
    rw[List.find?_cons,this];exact e1
def R5(hS:ESt X E nt H U tm h a w){x:Operand}(ho:o.op=.entry x){r:ES}{ws:Wr}(he:rD h (am tm x)=some (r,ws)):OpOk X E H U h a w o r ws:=by
 have hx:=bF hS x;unfold rD at he;split at he
 .
  rename_i gi hxe;rw[hxe] at hx;obtain⟨ki,hki,hxv⟩:=hx;split at he
  .
   rename_i gm since seen last b hgi;obtain⟨ki',km,sn,p1,p2,p3,p4,p5,p6,p7⟩:=hS.sim.obj gi _ hgi;rw[hki] at p1;cases p1;split at he
   .
    rename_i es ck hgm;obtain⟨km',ents,q1,q2,q3,q4,q5⟩:=hS.sim.obj gm _ hgm;rw[p2] at q1;cases q1;cases hck:Nat.beq ck last with
    |false=>rw[hck] at he;cases he
    |true=>
     rw[hck] at he;simp only[al] at he;have hck:=aB hck;subst hck;split at he
     . rename_i kx v hf;simp only[ai,aC] at he;obtain⟨rfl,rfl⟩:=he;obtain⟨en,f1,f2,f3,_⟩:=Jr q5 hf;have f1':ents.find? (fun e=>e.born==b)=some en:=by rw[<-Array.find?_toList];exact f1
       refine OpOk.pure hS (v:=.tuple #[en.key,en.val]) ?_ ⟨[en.key,en.val],rfl,f2,f3,aa⟩;have hgo:(getObj ki.1).run X.P w=.ok (.mapIter (some km.1) since sn ck) w:=by simp[getObj,Sem.run,p5]
       simp only[execOp,ho,hxv,Instr.entry,aw,hgo,av,p7 b rfl,oQ q4,bne_self_eq_false,dB,bM,f1',aA]
     cases he
   cases he
  cases he
 cases he
def ok_index(hS:ESt X E nt H U tm h a w){t:TypeId}{x ix:Operand}(ho:o.op=.index t x ix){r:ES}{ws:Wr}(he:wn X.T t (am tm x) (am tm ix)=some (r,ws)):OpOk X E H U h a w o r ws:=by
 have hx:=bF hS x;have hi:=bF hS ix;unfold wn at he;split at he
 .
  rename_i ty cs k i ht hxe hie;rw[hxe] at hx;rw[hie] at hi;have hi:=hi.int;obtain⟨vs,hx,hvs⟩:=hx;obtain⟨ti,d,z,ok⟩:=aT (X.hT t ty ht);split at he
  .
   rename_i n e hsh;have hd':=ok.sh;rw[hsh] at hd';obtain rfl:=sR hd';split at he
   .
    rename_i te hte;obtain⟨ie,de,ze,oke⟩:=aT (X.hT e te hte);cases hb:(Nat.blt i n&&(Nat.beq te.size 1 && !te.sh.agg)) with
    |false=>rw[hb] at he;cases he
    |true=>
     rw[hb] at he;simp only[al] at he;simp only[aH,gz] at hb;obtain⟨b1,b2,b3⟩:=hb;have b1:i<n:=by rwa[dN] at b1
     have b2:=aB b2;split at he
     . rename_i c hc;simp only[ai,aC] at he;obtain⟨rfl,rfl⟩:=he;obtain⟨v,hv1,hv2⟩:=hvs.get i c hc;refine OpOk.pure hS (v:=v) ?_ hv2;have hag:=oke.run_agg w;rw[b3] at hag;have hv1':vs.toArray[i]?=some v:=by simpa using hv1
       have hcond:(0:Int)<=(i:Int)/\(i:Int)<(n:Int):=by omega
       simp only[execOp,ho,hx,hi,Instr.index,asIntOf,aw,ok.run_und,av,aA,iA,au hcond,oke.run_size,b2,part,hag,dB,bM,iA,mL,eB,hv1']
     cases he
   cases he
  cases he
 cases he
def WD(hS:ESt X E nt H U tm h a w){g:Nat}{r:ES}{ws:Wr}(he:eOp X.Z X.B o.op (am tm) h g=some (r,ws)):OpOk X E H U h a w o r ws:=by
 unfold eOp at he;split at he
 . rename_i x ho;simp only[ai,aC] at he;obtain⟨rfl,rfl⟩:=he;exact ok_move hS (.inl ho)
 . rename_i x ho;simp only[ai,aC] at he;obtain⟨rfl,rfl⟩:=he;exact ok_move hS (.inr ho)
 . rename_i ho;exact ok_pick hS ho he
 . rename_i ho;exact ok_alloc hS ho he
 . rename_i ho;exact ok_box hS ho he
 . rename_i ho;exact ok_build hS ho he
 . rename_i ho;exact ok_buildSlice hS ho he
 . rename_i ho;exact Ub hS ho he
 . rename_i ho;exact R0 hS ho he
 . rename_i ho;exact Wa hS ho he
 . rename_i ho;exact ok_binOp hS ho he
 . rename_i ho;exact T9 hS ho he
 . rename_i ho;exact ok_convert hS ho he
 . rename_i ho;exact ok_makeFunc hS ho he
 . rename_i ho;exact ok_makeSlice hS ho he
 . rename_i ho;exact R1 hS ho he
 . rename_i ho;exact ok_fieldAddr hS ho he
 . rename_i ho;exact ok_field hS ho he
 . rename_i ho;exact O7 hS ho he
 . rename_i ho;exact ok_extract hS ho he
 . rename_i ho;exact P1 hS ho he
 . rename_i ho;exact P0 hS ho he
 . rename_i ho;exact QT hS ho he
 . rename_i ho;exact GF hS ho he
 . rename_i ho;exact QW hS ho he
 . rename_i ho;exact R2 hS ho he
 . rename_i ho;exact R5 hS ho he
 . rename_i ho;exact ok_index hS ho he
 cases he
end
structure FnE where
 nt:Nat
 rs:List ResultVar
 body:Code
structure Hs where
 h:PT EO
 nx:Nat
 wl:List Nat
structure Sg where
 tm:PT ES
 s:Hs
structure EE where
 Z:QS
 B:Tab
 F:FuncId->Option FnE
 orc:FuncId->List ES->Hs->Option (ES×Hs)
def kt(h:PT EO):Wr->PT EO
 | []=>h
 | (g,o)::l=>kt (h.set g o) l
def re:∀(ws:Wr) (h:PT EO),(kt h ws).get=bw h.get ws
 | [],_=>rfl
 | (g,o)::l,h=>by
   rw[kt,re l,bw];congr 1;funext m;rw[nV];by_cases e:m=g
   . subst e;rw[au rfl,a6]
   rw[aq e,aI _ _ _ e]
def Hs.put(s:Hs)(g:Nat)(o:EO):Hs:=⟨s.h.set g o,s.nx,g::s.wl⟩
def lQ{α:Sort _}(x:ES)(k:ES->α):α:=match x with
 | .unk=>k .unk
 | .und=>k .und
 | .tup xs=>k (.tup xs)
 | .w (.one (.iv x))=>k (.w (.one (.iv x)))
 | .w (.one (.ptr g u o))=>k (.w (.one (.ptr g u o)))
 | .w (.one (.slc g u o n c))=>k (.w (.one (.slc g u o n c)))
 | .w (.one c)=>k (.w (.one c))
 | .w (.agg cs)=>k (.w (.agg cs))
 | .w (.q n d)=>k (.w (.q n d))
def nT{α:Sort _}(x:ES)(k:ES->α):lQ x k=k x:=by
 unfold lQ;split<;>rfl
def yZ{α:Sort _}:List ES->(List ES->α)->α
 | [],k=>k []
 |x::xs,k=>lQ x fun x=>yZ xs fun xs=>k (x::xs)
def Hx{α:Sort _}:∀(l:List ES) (k:List ES->α),yZ l k=k l
 | [],_=>rfl
 |x::xs,k=>by rw[yZ,nT,Hx xs]
def bV(n:Nat):List Nat->Bool
 | []=>false
 |m::l=>bif Nat.beq n m then true else bV n l
def jT{n:Nat}:∀{l:List Nat},bV n l=true↔n∈l
 | []=>by simp[bV]
 |m::l=>by
  unfold bV;cases h:Nat.beq n m with
  |true=>have:=aB h;subst this;simp
  |false=>
   have hne:n≠m:=fun e=>by subst e;rw[bD] at h;cases h
   simp only[bh,jT (l:=l),fD];exact⟨.inr,fun h=>h.resolve_left hne⟩
def cj:ES->List Nat
 | .w (.one (.ptr g _ _))=>[g]
 | .w (.one (.slc g _ _ _ _))=>[g]
 | .w (.one (.mp g))=>[g]
 |_=>[]
def jA(all:Array Oper)(tm:Nat->ES)(o:Oper):Option Bool :=
 match o.guard with
 |none=>some true
 |some (j,want)=>match(all[j]?).bind (·.dst) with
  |none=>some false
  |some t=>match tm t with
   | .w (.one (.iv (.bool b)))=>some (b==want)
   | .und=>some false
   |_=>none
def ud(gs:List Nat):List ES:=gs.map fun g=>.w (.one (.ptr g 0 0))
section
variable (Yz9:EE)(call:FuncId->List ES->Hs->Option (ES × Hs))(yld:Nat->List ES->Hs->Option Hs)
def An(fo:ES)(args:List ES)(s:Hs):Option (ES×Hs) :=
 match fo with
 | .w (.one (.iv (.fn f)))=>match Yz9.orc f args s with
  |some x=>some x
  |none=>call f args s
 | .w (.one (.clo f gs))=>match Yz9.orc f (args++ud gs) s with
  |some x=>some x
  |none=>call f (args++ud gs) s
 | .w (.one (.yld g))=>match yld g args s with
  |some s'=>some (ae (.bool true),s')
  |none=>none
 |_=>none
def ry:Op->Option (Operand×List Operand)
 | .call { callee:=.value fo,args,argTypes:=_ }=>some (fo,args.toList)
 |_=>none
def EJ(o:Op)(V:Operand->ES)(s:Hs):Option (ES×Hs) :=
 match ry o with
 |some (fo,args)=>yZ (args.map V) fun args=>An Yz9 call yld (V fo) args s
 |none=>bJ s.nx fun g=>match eOp Yz9.Z Yz9.B o V s.h.get g with
  |some (r,ws)=>bJ (g+1) fun n=>(kt s.h ws).force fun h=>some (r,⟨h,n,ws.map Prod.fst++s.wl⟩)
  |none=>none
def oi(tm:PT ES)(dst:Option Nat)(r:ES):PT ES :=
 match dst with
 |some d=>tm.set d r
 |none=>tm
def Km(tm:PT ES)(dst:Option Nat)(r:ES):(oi tm dst r).sl=dz tm.sl dst r:=by
 cases dst with
 |none=>rfl
 |some d=>
  funext t;show((tm.set d r).get t).getD .und=az tm.sl d r t;rw[nV];by_cases h:t=d
  . subst h;rw[au rfl,a6];rfl
  rw[aq h,aI _ _ _ h];rfl
def rO(all:Array Oper):List Oper->Sg->Option Sg
 | [],s=>some s
 |o::os,s=>match jA all s.tm.sl o with
  |some true=>match EJ Yz9 call yld o.op (am s.tm.sl) s.s with
   |some (r,hs)=>lQ r fun r=>(oi s.tm o.dst r).force fun tm=>rO all os ⟨tm,hs⟩
   |none=>none
  |some false=>(oi s.tm o.dst .und).force fun tm=>rO all os ⟨tm,s.s⟩
  |none=>none
structure Le where
 only:Bool
 ids:List Nat
 wr:Wr
 deriving Inhabited
def Le.vis(l:Le)(g:Nat):Bool:=bif l.only then bV g l.ids else !bV g l.ids
def Xk(l:Le)(h:Hp):Hp:=fun g=>bif l.vis g then h g else some .hid
def Mx:Op->Bool
 | .alloc _ | .box _ _ | .buildSlice _ _ _ | .makeSlice _ _ _ | .makeMap _ _=>true
 | .call { callee:=.builtin .append,args:=_,argTypes:=_ }=>true
 |_=>false
def wQ(tab:List Nat)(k:Nat):List Le->Nat->List Nat
 | [],_=>[]
 |l::ls,j=>match l.wr with
  | []=>wQ tab k ls (j-1)
  |ws=>bif dV tab k (j-1) then wQ tab k ls (j-1) else ws.map Prod.fst++wQ tab k ls (j-1)
def wi(tab:List Nat)(nx0 k:Nat):List Oper->Nat->List Nat
 | [],_=>[]
 |o::os,j=>bif Mx o.op then(bif dV tab k j then wi tab nx0 k os (j+1) else(nx0+j)::wi tab nx0 k os (j+1)) else wi tab nx0 k os (j+1)
def tP(h:PT EO):List Nat->PT EO
 | []=>h
 |g::gs=>tP (h.set g .hid) gs
def iF(h:PT EO):List Nat->Wr
 | []=>[]
 |g::gs=>match h.get g with
  |some o=>(g,o)::iF h gs
  |none=>iF h gs
def ka(l:List Nat)(tm:Nat->ES)(t:Nat):ES:=bif bV t l then tm t else .unk
def wG(l:List Nat):Wr->Bool
 | []=>true
 |p::ws=>bV p.1 l&&wG l ws
def NM(o:Op)(V:Operand->ES):List Nat:=match o with
 | .move _ | .assign _=>[]
 |o=>o.operands.toList.flatMap fun x=>cj (V x)
def Er(tab:List Nat)(nx0 k:Nat)(log:List Le)(os:List Oper)(o:Op)(V:Operand->ES)(s:Hs):Option (ES×Hs×Le) :=
 match ry o with
 |some (fo,args)=>match wQ tab k log k++wi tab nx0 k os (k+1) with
  |N=>match An Yz9 call yld (V fo) (args.map V) ⟨tP s.h N,s.nx,[]⟩ with
   |some (r,s')=>match iF s'.h s'.wl with
    |ws=>bif ws.all (fun p=>!bV p.1 N) then some (r,⟨match N with
     | []=>s'.h
     |_=>kt s.h ws,s'.nx,s'.wl++s.wl⟩,⟨false,N,ws⟩) else none
   |none=>none
 |none=>bJ (nx0+k) fun g=>match g::NM o V with
  |l=>match eOp Yz9.Z Yz9.B o V (Xk ⟨true,l,[]⟩ s.h.get) g with
   |some (r,ws)=>bif wG l ws then(kt s.h ws).force fun h=>some (r,⟨h,s.nx,ws.map Prod.fst++s.wl⟩,⟨true,l,ws⟩) else none
   |none=>none
def rB(all:Array Oper)(tab:List Nat)(nx0:Nat):List Oper->Nat->List Le->Sg->Option (Sg×List Le)
 | [],_,log,s=>some (s,log)
 |o::os,k,log,s=>match ka (gd all o) s.tm.sl with
  |m=>match jA all m o with
   |some true=>match Er Yz9 call yld tab nx0 k log os o.op (am m) s.s with
    |some (r,hs,l)=>lQ r fun r=>(oi s.tm o.dst r).force fun tm=>rB all tab nx0 os (k+1) (l::log) ⟨tm,hs⟩
    |none=>none
   |some false=>(oi s.tm o.dst .und).force fun tm=>rB all tab nx0 os (k+1) (⟨true,[],[]⟩::log) ⟨tm,s.s⟩
   |none=>none
def yE(tab:List Nat)(i:Nat)(ws:Wr):List Le->Nat->Bool
 | [],_=>true
 |l::ls,j=>(dV tab i j||ws.all fun p=>!l.vis p.1)&&yE tab i ws ls (j+1)
def wD(tab:List Nat)(all:List Le):List Le->Nat->Bool
 | [],_=>true
 |l::ls,i=>(match l.wr with
  | []=>true
  |ws=>yE tab i ws all 0)&&wD tab all ls (i+1)
def EI(nt:Nat)(all:Array Oper)(draw:Bool)(s:Sg):Option Sg :=
 bif dc nt all.toList then(match draw with
  |false=>rO Yz9 call yld all all.toList s
  |true=>bif pv all (k9 all.toList) then(match rB Yz9 call yld all (k9 all.toList) s.s.nx all.toList 0 [] ⟨s.tm,⟨s.s.h,s.s.nx+all.size,s.s.wl⟩⟩ with
   |some (s',log)=>match log.reverse with
    |log=>bif wD (k9 all.toList) log log 0 then some s' else none
   |none=>none) else none) else none
end
def g7(T:TypeId->Option TY)(Z:QS)(tm:Nat->ES)(h:Hp):List ResultVar->Option (List EW)
 | []=>some []
 | .tmp t::rs=>match tm t,g7 T Z tm h rs with
  | .w x,some xs=>some (x::xs)
  |_,_=>none
 | .cell a t::rs=>match ke T Z h t (tm a),g7 T Z tm h rs with
  |some (.w x,[]),some xs=>some (x::xs)
  |_,_=>none
def kj:List EW->ES
 | [x]=>.w x
 |xs=>.tup xs
def rT:List ES->Nat->PT ES->PT ES
 | [],_,t=>t
 |x::xs,i,t=>rT xs (i+1) (t.set i x)
def rL(nt:Nat):PT ES->List Nat->List ES->Option (PT ES)
 |t,[],[]=>some t
 |t,p::ps,x::xs=>bif Nat.blt p nt then rL nt (t.set p x) ps xs else none
 |_,_,_=>none
section
variable (Yz9:EE)(ev:Bool->Nat->Code->Sg->Option (Exit × Sg))
def tS(f:FuncId)(args:List ES)(s:Hs):Option (ES×Hs) :=
 match Yz9.F f with
 |some q=>bif Nat.ble args.length q.nt then(match ev false q.nt q.body ⟨rT args 0 .nil,s⟩ with
  |some (.normal,s')=>match g7 Yz9.B.T Yz9.Z s'.tm.sl s'.s.h.get q.rs with
   |some xs=>some (kj xs,s'.s)
   |none=>none
  |some (.ret,s')=>match g7 Yz9.B.T Yz9.Z s'.tm.sl s'.s.h.get q.rs with
   |some xs=>some (kj xs,s'.s)
   |none=>none
  |_=>none) else none
 |none=>none
def DP(g:Nat)(args:List ES)(s:Hs):Option Hs :=
 match s.h.get g with
 |some (.loop false nt tm ps assign body)=>match rL nt tm ps args with
  |some tm'=>match ev true nt assign ⟨tm',s⟩ with
   |some (.normal,s1)=>match s1.s.h.get g with
    |some (.loop false nt1 tm1 ps1 as1 bo1)=>match ev true nt body ⟨s1.tm,s1.s.put g (.loop true nt1 tm1 ps1 as1 bo1)⟩ with
     |some (.normal,s2)=>match s2.s.h.get g with
      |some (.loop true nt2 tm2 ps2 as2 bo2)=>some (s2.s.put g (.loop false nt2 tm2 ps2 as2 bo2))
      |_=>none
     |_=>none
    |_=>none
   |_=>none
  |none=>none
 |_=>none
def D1(nt:Nat)(fo:ES)(ps:List Nat)(assign body:Code)(s:Sg):Option Sg :=
 match s.s.h.get s.s.nx with
 |none=>bJ s.s.nx fun gl=>bJ (gl+1) fun n=>match(⟨s.s.h.set gl (.loop false nt s.tm ps assign body),n,gl::s.s.wl⟩:Hs) with
  |hs=>match(match fo with
   | .w (.one (.clo f gs))=>tS Yz9 ev f (.w (.one (.yld gl))::ud gs) hs
   | .w (.one (.iv (.fn f)))=>tS Yz9 ev f [.w (.one (.yld gl))] hs
   |_=>none) with
   |some (_,hs')=>match hs'.h.get gl with
    |some (.loop false _ _ _ _ _)=>some ⟨s.tm,hs'.put gl .hid⟩
    |_=>none
   |none=>none
 |some _=>none
def EA(rd:Bool)(nt:Nat)(c:Code)(s:Sg):Option (Exit×Sg) :=
 match c with
 | .skip=>some (.normal,s)
 | .label _=>some (.normal,s)
 | .ret=>some (.ret,s)
 | .exit i=>some (.exit i,s)
 | .seq a b=>match ev rd nt a s with
  |some (.normal,s')=>ev rd nt b s'
  |r=>r
 | .cond c a b=>match am s.tm.sl c with
  | .w (.one (.iv (.bool true)))=>ev rd nt a s
  | .w (.one (.iv (.bool false)))=>ev rd nt b s
  |_=>none
 | .block id b=>match ev rd nt b s with
  |some (.exit i,s')=>bif Nat.beq i id then some (.normal,s') else some (.exit i,s')
  |r=>r
 | .loop b=>match ev rd nt b s with
  |some (.normal,s')=>ev rd nt (.loop b) s'
  |r=>r
 | .region _ ops draw=>match EI Yz9 (tS Yz9 ev) (DP ev) nt ops draw s with
  |some s'=>some (.normal,s')
  |none=>none
 | .rangeFunc g ps assign body=>match rd with
  |false=>match D1 Yz9 ev nt (am s.tm.sl g) ps.toList assign body s with
   |some s'=>some (.normal,s')
   |none=>none
  |true=>none
 |_=>none
end
noncomputable def AO(Yz9:EE)(n:Nat):Bool->Nat->Code->Sg->Option (Exit×Sg) :=
 Nat.rec (fun _ _ _ _=>none) (fun _ ih=>EA Yz9 ih) n
def sZ{g:Nat}:∀{ws:Wr} {h:Hp},(∀p∈ws,p.1≠g)->bw h ws g=h g
 | [],_,_=>rfl
 | (g',o)::l,h,hn=>by
   rw[bw,sZ fun p hp=>hn p (by simp[hp])];exact aI _ _ _ (fun e=>hn (g',o) (by simp) e.symm)
def BM{g:Nat}:∀{ws:Wr} {h h':Hp},h g=h' g->bw h ws g=bw h' ws g
 | [],_,_,e=>e
 | (g',o)::l,h,h',e=>by
   rw[bw,bw];refine BM ?_;by_cases e':g=g'
   . subst e';rw[a6,a6]
   rw[aI _ _ _ e',aI _ _ _ e',e]
def JY{g:Nat}{x:Option EO}:∀{ws:Wr} {h:Hp},(∀p∈ws,p.1=g->some p.2=x)->((∃p∈ws,p.1=g)\/h g=x)->bw h ws g=x
 | [],h,_,h2=>by
  rcases h2 with⟨p,hp,_⟩|h2
  . cases hp
  exact h2
 | (g',o)::l,h,h1,h2=>by
   rw[bw];refine JY (fun p hp=>h1 p (by simp[hp])) ?_;by_cases e:g'=g
   . subst e;right;rw[a6];exact h1 (g',o) (by simp) rfl
   rcases h2 with⟨p,hp,hpg⟩|h2
   . rcases List.mem_cons.1 hp with rfl|hp
     . exact absurd hpg e
     exact .inl ⟨p,hp,hpg⟩
   right;rw[aI _ _ _ (lE e)];exact h2
def OR.own_mono{Z:QS}{own own':Nat->Prop}{w:World}{H:ak}{U:Bm}{g:Nat}{o:EO}(hs:∀u k,U g u=some k->own k.1->own' k.1)(h:OR Z own w H U g o):OR Z own' w H U g o:=by
 cases o with
 |mem e cs fz vs cnt=>exact⟨h.1,fun u p hup=>by
  obtain⟨h1,k,arr,h2,h3,h4⟩:=h.2 u p hup;exact⟨h1,k,arr,h2,hs u k h2 h3,h4⟩⟩
 |map es ck=>obtain⟨k,ents,h1,h2,h3⟩:=h;exact⟨k,ents,h1,hs 0 k h1 h2,h3⟩
 |iter gm since seen last cur=>obtain⟨k,km,sn,h1,h2,h3,h4⟩:=h;exact⟨k,km,sn,h1,h2,hs 0 k h1 h3,h4⟩
 |loop busy nt tm ps assign body=>obtain⟨k,L,h1,h2,h3⟩:=h;exact⟨k,L,h1,hs 0 k h1 h2,h3⟩
 |hid=>trivial
def dF(vis:Nat->Bool)(h:Hp):Hp:=fun g=>bif vis g then h g else some .hid
def t7(E:EEnv)(vis:Nat->Bool)(h:Hp)(H:ak)(U:Bm)(w:World):EEnv where
 own k:=E.own k/\∀g u s,vis g=false->h g≠some .hid->U g u=some s->s.1≠k
 w0:=w
 H0:=H
 hid g:=vis g=false\/E.hid g
 β0:=U
section
variable {Z:QS}{E:EEnv}{H H':ak}{U U':Bm}{h:Hp}{w w':World}{vis:Nat->Bool}
def qV{g:Nat}(hv:vis g=true):dF vis h g=h g:=by unfold dF;rw[hv];rfl
def Cb{g:Nat}(hv:vis g=false):dF vis h g=some .hid:=by unfold dF;rw[hv];rfl
def ESim.hide(h0:ESim Z E H U h w)(vis:Nat->Bool):ESim Z (t7 E vis h H U w) H U (dF vis h) w where
 has:=h0.has
 below:=BelowO.refl _ _
 lo k hk:=⟨h0.lo k hk,fun g u s _ _ hs e=>by have:=(h0.dom g u s hs).1;omega⟩
 ext:=HExtO.refl _ _
 obj g o hg:=by
  cases hv:vis g with
  |true=>
   rw[qV hv] at hg;exact(h0.obj g o hg).own_mono fun u k hk ho=>⟨ho,fun g' u' s hv' _ hs e=>by
    have:=h0.inj _ _ _ _ _ _ hs hk e;subst this;rw[hv] at hv';cases hv'⟩
  |false=>
   rw[Cb hv] at hg;cases hg;trivial
 dom g u k hk:=by
  obtain⟨a,o,b,c⟩:=h0.dom g u k hk;cases hv:vis g with
  |true=>
   refine⟨a,o,by rw[qV hv];exact b,c.imp id fun c=>⟨⟨c.1,fun g' u' s hv' _ hs e=>?_⟩,c.2⟩⟩;have:=h0.inj _ _ _ _ _ _ hs hk e;subst this;rw[hv] at hv';cases hv'
  |false=>exact⟨a,.hid,Cb hv,.inl rfl⟩
 inj:=h0.inj
 hidb g hg:=by
  refine⟨?_,fun _=>rfl⟩;cases hv:vis g with
  |false=>exact Cb hv
  |true=>
   rcases hg with hg|hg
   . rw[hv] at hg;cases hg
   rw[qV hv];exact(h0.hidb g hg).1
def ESim.unhide{ws:Wr}(h0:ESim Z E H U h w)(hle:HLe H H')(hb:BLe U U')(h1:ESim Z (t7 E vis h H U w) H' U' (bw (dF vis h) ws) w')(hw:∀p∈ws,vis p.1=true):ESim Z E H' U' (bw h ws) w':=by
 have ev:∀g,vis g=true->bw (dF vis h) ws g=bw h ws g:=fun g hv=>BM (qV hv);have eh:∀g,vis g=false->bw h ws g=h g:=fun g hv=>sZ fun p hp e=>by
  have:=hw p hp;rw[e,hv] at this;cases this
 have βh:∀g,vis g=false->∀u,U' g u=U g u:=fun g hv=>(h1.hidb g (.inl hv)).2;refine⟨h1.has,h0.below.trans (h1.below.mono fun k hk=>hk.1),fun k hk=>(h1.lo k hk).1,h0.ext.step (own':=(t7 E vis h H U w).own) ⟨hle,fun b arr hb'=>h1.ext.2 b arr hb'⟩ (fun k hk=>hk.1),fun g o hg=>?_,fun g u k hk=>?_,h1.inj,fun g hg=>?_⟩
 .
  cases hv:vis g with
  |true=>exact(h1.obj g o (by rw[ev g hv];exact hg)).own_mono fun _ _ _ ho=>ho.1
  |false=>
   rw[eh g hv] at hg;by_cases ho:o=.hid
   . subst ho;trivial
   have hno:∀u k,U g u=some k->¬(t7 E vis h H U w).own k.1:=fun u k hk hown=>hown.2 g u k hv (by rw[hg];simpa using ho) hk rfl;refine(h0.obj g o hg).keep (fun u k hk=>h1.below.block _ (hno u k hk)) (fun u k hk hn=>?_) hle hb (βh g hv);cases hx:H' k.1 with
   |none=>rfl
   |some arr=>
    rcases h1.ext.2 _ _ hx with h2|h2
    . have h2:H k.1=some arr:=h2;rw[hn] at h2;cases h2
    exact absurd h2 (hno u k hk)
 .
  cases hv:vis g with
  |true=>
   obtain⟨a,o,b,c⟩:=h1.dom g u k hk;exact⟨a,o,by rw[<-ev g hv];exact b,c.imp id fun c=>⟨c.1.1,c.2⟩⟩
  |false=>
   rw[βh g hv] at hk;obtain⟨a,o,b,c⟩:=h0.dom g u k hk;exact⟨iy a h1.below.size,o,by rw[eh g hv];exact b,c⟩
 obtain⟨a,b⟩:=h1.hidb g (.inr hg);obtain⟨c,d⟩:=h0.hidb g hg;refine⟨?_,fun u=>(b u).trans (d u)⟩;cases hv:vis g with
 |true=>rw[<-ev g hv];exact a
 |false=>rw[eh g hv];exact c
end
section
variable (X:EX)
def OneOk(o:Oper)(tm:Nat->ES)(h:Hp)(r:ES)(h':Hp):Prop :=
 ∀(ro:Option Nat) (E:EEnv),(∀w',BelowO E.own E.w0 w'->X.I w')->∀(nt:Nat) (H:ak) (U:Bm) (a:Act) (w:World) (K:Act->World->Prop) (Q:Exit->Act->World->Prop),ESt X E nt H U tm h a w->
  (∀v H' U' w',HLe H H'->BLe U U'->ESim X.Z E H' U' h' w'->MarkSame w w'->SRe X.Z H' U' v r->K (a.put o.dst v) w')->o.wpIn (FW ro) 0 X.P a w K Q
def vz{X:EX}{o:Oper}{tm:Nat->ES}{h:Hp}{g:Nat}{r:ES}{ws:Wr}(he:eOp X.Z X.B o.op (am tm) h g=some (r,ws)):OneOk X o tm h r (bw h ws):=by
 intro ro E hI nt H U a w K Q hS hK;obtain⟨v,w',U',hr,hb,hs,hm,hv⟩:=WD hS he;refine tN (fun c hc=>?_) ?_
 . rw[hc] at he;cases he
 unfold Oper.wp;have hk:=hK v H U' w' (HLe.refl _) hb hs hm hv;rcases hr with hr|⟨rfl,hr⟩
 . rw[hr];exact hk
 rw[hr];exact hk
def SREL(Z:QS)(H:ak)(U:Bm):List Value->List ES->Prop
 | [],[]=>True
 |v::vs,x::xs=>SRe Z H U v x/\SREL Z H U vs xs
 |_,_=>False
def SREL.length{Z:QS}{H:ak}{U:Bm}:∀{vs:List Value} {xs:List ES},SREL Z H U vs xs->vs.length=xs.length
 | [],[],_=>rfl
 |_::_,_::_,⟨_,h2⟩=>by simp[SREL.length h2]
 | [],_::_,h=>h.elim
 |_::_,[],h=>h.elim
def SREL.get{Z:QS}{H:ak}{U:Bm}:∀{vs:List Value} {xs:List ES},SREL Z H U vs xs->∀(i:Nat) (x:ES),xs[i]?=some x->∃v,vs[i]?=some v/\SRe Z H U v x
 | [],[],_,i,x,h=>by simp at h
 |v::_,_::_,⟨h1,_⟩,0,x,h=>by simp at h;subst h;exact⟨v,rfl,h1⟩
 |_::_,_::_,⟨_,h2⟩,i+1,x,h=>by simp at h;simpa using SREL.get h2 i x h
 | [],_::_,h,_,_,_=>h.elim
 |_::_,[],h,_,_,_=>h.elim
def SREL.append{Z:QS}{H:ak}{U:Bm}:∀{vs:List Value} {xs:List ES} {us:List Value} {ys:List ES},SREL Z H U vs xs->SREL Z H U us ys->SREL Z H U (vs++us) (xs++ys)
 | [],[],_,_,_,h=>by simpa using h
 |_::_,_::_,_,_,⟨h1,h2⟩,h=>by simpa using(show SREL Z H U (_::_) (_::_) from⟨h1,SREL.append h2 h⟩)
 | [],_::_,_,_,h,_=>h.elim
 |_::_,[],_,_,h,_=>h.elim
def SREL.map{Z:QS}{H:ak}{U:Bm}{V:Operand->Value}{f:Operand->ES}(hρ:∀x,SRe Z H U (V x) (f x)):∀l:List Operand,SREL Z H U (l.map V) (l.map f)
 | []=>trivial
 |x::l=>⟨hρ x,SREL.map hρ l⟩
def SREL.mono{Z:QS}{H H':ak}{U U':Bm}(hh:HLe H H')(hb:BLe U U'):∀{vs:List Value} {xs:List ES},SREL Z H U vs xs->SREL Z H' U' vs xs
 | [],[],_=>trivial
 |_::_,_::_,⟨h1,h2⟩=>⟨h1.mono hh hb,SREL.mono hh hb h2⟩
 | [],_::_,h=>h.elim
 |_::_,[],h=>h.elim
def Aq(f:FuncId):Prop:=∃fn,X.P.funcs[f]?=some fn/\(fn.name == "runtime.NumGoroutine")=false/\fn.body.isNone=false
def DM(E:EEnv)(H:ak)(U:Bm)(w:World)(h':Hp)(r:ES)(e:Ending)(w':World):Prop :=
 ∃v H' U',e=.returned v/\HLe H H'/\BLe U U'/\ESim X.Z E H' U' h' w'/\MarkSame w w'/\SRe X.Z H' U' v r
def CallOk(f:FuncId)(args:List ES)(h:Hp)(r:ES)(h':Hp):Prop :=
 Aq X f/\∀(E:EEnv),(∀w',BelowO E.own E.w0 w'->X.I w')->∀(H:ak) (U:Bm) (w:World) (vs:List Value),ESim X.Z E H U h w->SREL X.Z H U vs args->
  Calls X.P f vs.toArray w (DM X E H U w h' r)
def ML(g:Nat)(args:List ES)(h h':Hp):Prop :=
 ∀(ro:Option Nat) (E:EEnv),(∀w',BelowO E.own E.w0 w'->X.I w')->∀(H:ak) (U:Bm) (w:World) (vs:List Value) (k:Nat×Nat),ESim X.Z E H U h w->SREL X.Z H U vs args->U g 0=some k->
  YieldAt (FW ro) 0 X.P k.1 vs.toArray w (DM X E H U w h' (ae (.bool true)))
def Bv{o:Op}{fo:Operand}{args:List Operand}(h:ry o=some (fo,args)):∃ax ats,o=.call { callee:=.value fo,args:=ax,argTypes:=ats }/\ax.toList=args:=by
 unfold ry at h;split at h
 . simp only[ai,aC] at h;obtain⟨rfl,rfl⟩:=h;exact⟨_,_,rfl,rfl⟩
 cases h
variable {X}
def NN(x:IV):ES:=.w (.one (.dp x 0))
def CapF(v:ES)(f:FuncId)(cp:List ES):Prop:=(v=.w (.one (.iv (.fn f)))/\cp=[])\/(∃gs,v=.w (.one (.clo f gs))/\cp=ud gs)\/∃xs,v=.w (.one (.cd f xs))/\cp=xs.map NN
def CapF.ok{H:ak}{U:Bm}{v:Value}{f:FuncId}{cp:List ES}{fo:ES}(hf:CapF fo f cp)(hv:SRe X.Z H U v fo):∃cs:List Value,v=.func (.func f) #[] cs.toArray/\SREL X.Z H U cs cp:=by
 rcases hf with⟨rfl,rfl⟩|⟨gs,rfl,rfl⟩|⟨xs,rfl,rfl⟩
 . exact⟨[],vT hv.2,aa⟩
 .
  obtain⟨h1,h2⟩:=hv;refine⟨_,h2,?_⟩;clear h2;induction gs with
  |nil=>trivial
  |cons g gs ih=>
   obtain⟨k,hk⟩:=h1 g (by simp);refine⟨⟨k,hk,?_⟩,ih fun g hg=>h1 g (by simp[hg])⟩;unfold io;rw[hk]
 obtain⟨ps,h1,h2⟩:=hv;refine⟨ps,h1,?_⟩;clear h1;induction xs generalizing ps with
 |nil=>cases ps with
  |nil=>trivial
  |cons p ps=>exact h2.elim
 |cons x xs ih=>cases ps with
  |nil=>exact h2.elim
  |cons p ps=>exact⟨h2.1,ih ps h2.2⟩
def OneOk.call{o:Oper}{tm:Nat->ES}{h h':Hp}{r:ES}{fo:Operand}{ax:Array Operand}{ats:Array TypeId}{f:FuncId}{cp:List ES}(ho:o.op=.call { callee:=.value fo,args:=ax,argTypes:=ats })
 (hf:CapF (am tm fo) f cp) (hc:CallOk X f (ax.toList.map (am tm)++cp) h r h'):OneOk X o tm h r h':=by
 intro ro E hI nt H U a w K Q hS hK;obtain⟨⟨fn,hf1,hf2,hf3⟩,hc⟩:=hc;have hv:=bF hS fo;obtain⟨cs,e1,hcs⟩:=hf.ok hv;have hcall:=hc E hI H U w (ax.toList.map a.eval++cs) hS.sim ((SREL.map (bF hS) _).append hcs);have hrun:(execOp a.eval o).run X.P w=.ok (.enter f (ax.toList.map a.eval++cs).toArray) w:=by
  simp only[execOp,ho,resolve,e1,Deferred.ofValue,aw,aA,av,invoke,callFunc,uN,hf1,hf2,hf3,dB,bM];congr 2;apply fc;simp
 refine tN (fun c hc=>by rw[ho] at hc;cases hc) ?_;unfold Oper.wp;rw[hrun];refine hcall.mono ?_;rintro e w' ⟨v,H',U',rfl,h1,h2,h3,h4,h5⟩;exact hK v H' U' w' h1 h2 h3 h4 h5
def OneOk.yld{o:Oper}{tm:Nat->ES}{h h':Hp}{fo:Operand}{ax:Array Operand}{ats:Array TypeId}{g:Nat}(ho:o.op=.call { callee:=.value fo,args:=ax,argTypes:=ats })
 (hf:am tm fo=.w (.one (.yld g))) (hc:ML X g (ax.toList.map (am tm)) h h'):OneOk X o tm h (ae (.bool true)) h':=by
 intro ro E hI nt H U a w K Q hS hK;have hv:=bF hS fo;rw[hf] at hv;obtain⟨k,hk,e1⟩:=hv;obtain⟨fn,tmps,assign,body,hyr,hR⟩:=hc ro E hI H U w (ax.toList.map a.eval) k hS.sim (SREL.map (bF hS) _) hk;have hrun:(execOp a.eval o).run X.P w=.ok (.round k.1 fn tmps assign body) w:=by
  have ea:(ax.toList.map a.eval).toArray=ax.map a.eval:=by apply fc;simp
  rw[ea] at hyr;simp only[execOp,ho,resolve,e1,Deferred.ofValue,aw,aA,av,invoke];simpa using hyr
 refine⟨fun _ _=>trivial,?_⟩;rw[show(FW ro).round=ro from rfl,Oper.semAt_eq ro a.eval o (fun c hc=>by rw[ho] at hc;cases hc),hrun];refine⟨fun e=>(by cases e),hR.mono ?_⟩;rintro e w' ⟨v,H',U',rfl,h1,h2,h3,h4,h5⟩;exact hK v H' U' w' h1 h2 h3 h4 h5
def LogOk(s s':Hs):Prop:=(∀g,g∉s'.wl->s'.h.get g=s.h.get g)/\(∀g∈s.wl,g∈s'.wl)/\∀g,s'.h.get g=none->s.h.get g=none
def LogOk.refl(s:Hs):LogOk s s:=⟨fun _ _=>rfl,fun _ h=>h,fun _ h=>h⟩
def LogOk.trans{a b c:Hs}(h:LogOk a b)(k:LogOk b c):LogOk a c :=
 ⟨fun g hg=>(k.1 g hg).trans (h.1 g fun hb=>hg (k.2.1 g hb)),fun g hg=>k.2.1 g (h.2.1 g hg),fun g hg=>h.2.2 g (k.2.2 g hg)⟩
def LogOk.wr(s:Hs)(ws:Wr)(n:Nat):LogOk s ⟨kt s.h ws,n,ws.map Prod.fst++s.wl⟩:=by
 refine⟨fun g hg=>?_,fun g hg=>Oi _ hg,fun g hg=>?_⟩
 . show(kt s.h ws).get g=_;rw[re];exact sZ fun p hp e=>hg (Oj _ (List.mem_map.2 ⟨p,hp,e⟩))
 have hg:(kt s.h ws).get g=none:=hg;rw[re] at hg;cases hx:s.h.get g with
 |none=>rfl
 |some o0=>
  exfalso;have key:∀(ws:Wr) (h:Hp),h g≠none->bw h ws g≠none:=by
   intro ws;induction ws with
   |nil=>intro h hh;exact hh
   |cons p l ih=>
    intro h hh;refine ih _ ?_;by_cases e:g=p.1
    . rw[e,a6];simp
    rw[aI _ _ _ e];exact hh
  exact key ws s.h.get (by rw[hx];simp) hg
def LogOk.put(s:Hs)(g:Nat)(o:EO):LogOk s (s.put g o):=LogOk.wr s [(g,o)] s.nx
def yc(s:Hs)(g:Nat)(o:EO):(s.put g o).h.get=az s.h.get g (some o):=by
 have:=re [(g,o)] s.h;exact this
end
section
variable {X:EX}
def vO{E:EEnv}{nt:Nat}{H:ak}{U:Bm}{tm:Nat->ES}{h:Hp}{a:Act}{w:World}{all:Array Oper}{o:Oper}(hS:ESt X E nt H U tm h a w){c:Bool}(hy:jA all tm o=some c):Region.wanted o (yielded all a.tmps)=c:=by
 unfold jA at hy;unfold Region.wanted;split at hy
 . rename_i hg;simp only[hg];simpa using hy
 rename_i j want hg;simp only[hg];split at hy
 . rename_i hd;simp only[yielded,hd,Option.bind_none];simpa using hy
 rename_i t hd;simp only[yielded,hd,NX];have hs:=hS.slot t;split at hy
 . rename_i b ht;rw[ht] at hs;have e:=SRe.bool hs;cases hx:a.tmps[t]? with
   |none=>simp[hx,undef] at e
   |some u=>simp[hx] at e;subst e;simpa using hy
 . rename_i ht;rw[ht] at hs;change a.tmps.getD t undef=undef at hs;cases hx:a.tmps[t]? with
   |none=>simpa using hy
   |some u=>simp[hx] at hs;subst hs;simpa[undef] using hy
 cases hy
def vd(a:Act)(d:Option Tmp)(v:Value):(a.put d v).defers=a.defers:=by
 cases d<;>rfl
def mo(E:EEnv)(w0:World)(k:Nat):Prop:=E.own k/\w0.heap[k]?≠some (.deferred (some []))
def xc(X:EX)(E:EEnv)(w0:World)(nt:Nat)(H:ak)(U:Bm)(s:Sg)(a:Act)(w:World):Prop :=
 ESt X E nt H U s.tm.sl s.s.h.get a w/\MarksOk (mo E w0) a.defers w/\MarkSame w0 w
def EPost(X:EX)(E:EEnv)(w0:World)(nt:Nat)(H:ak)(U:Bm)(w:World)(s':Sg)(a':Act)(w':World):Prop :=
 ∃H' U',HLe H H'/\BLe U U'/\xc X E w0 nt H' U' s' a' w'/\MarkSame w w'
def MarkSame.trans{w w' w'':World}(h:MarkSame w w')(k:MarkSame w' w''):MarkSame w w'':=fun D hD=>by
 have:=h D hD;rw[<-this];exact k D (by rw[this];exact hD)
def EPost.refl{E:EEnv}{w0:World}{nt:Nat}{H:ak}{U:Bm}{s:Sg}{a:Act}{w:World}(h:xc X E w0 nt H U s a w):EPost X E w0 nt H U w s a w :=
 ⟨H,U,HLe.refl _,BLe.refl _,h,MarkSame.refl _⟩
def EPost.trans{E:EEnv}{wm:World}{nt:Nat}{H H':ak}{U U':Bm}{s':Sg}{a':Act}{w w0 w':World}(hh:HLe H H')(hb:BLe U U')(hm:MarkSame w w0)(k:EPost X E wm nt H' U' w0 s' a' w'):EPost X E wm nt H U w s' a' w':=by
 obtain⟨H2,β2,k1,k2,k3,k4⟩:=k;exact⟨H2,β2,hh.trans k1,hb.trans k2,k3,hm.trans k4⟩
def EX.ee(X:EX)(F:FuncId->Option FnE)(orc:FuncId->List ES->Hs->Option (ES×Hs)):EE:=⟨X.Z,X.B,F,orc⟩
structure FnOk(X:EX)(f:FuncId)(q:FnE)(fn:Func):Prop where
 has:X.P.funcs[f]?=some fn
 body:fn.body=some q.body
 nt:fn.ntmps=q.nt
 rs:fn.results.toList=q.rs
 name:(fn.name == "runtime.NumGoroutine")=false
def pd(X:EX)(call:FuncId->List ES->Hs->Option (ES×Hs)):Prop:=∀f args s r s',call f args s=some (r,s')->LogOk s s'/\CallOk X f args s.h.get r s'.h.get
def jv(X:EX)(orc:FuncId->List ES->Hs->Option (ES×Hs)):Prop:=pd X orc
def rI(X:EX)(yld:Nat->List ES->Hs->Option Hs):Prop:=∀g args s s',yld g args s=some s'->LogOk s s'/\ML X g args s.h.get s'.h.get
variable {F:FuncId->Option FnE}{orc:FuncId->List ES->Hs->Option (ES × Hs)}{call:FuncId->List ES->Hs->Option (ES × Hs)}{yld:Nat->List ES->Hs->Option Hs}
def JJ(horc:jv X orc)(hcall:pd X call)(hyld:rI X yld){o:Oper}{tm:Nat->ES}{fo:Operand}{ax:Array Operand}{ats:Array TypeId}(ho:o.op=.call { callee:=.value fo,args:=ax,argTypes:=ats }){s s':Hs}{r:ES}
 (he:An (X.ee F orc) call yld (am tm fo) (ax.toList.map (am tm)) s=some (r,s')):LogOk s s'/\OneOk X o tm s.h.get r s'.h.get:=by
 unfold An at he;split at he
 .
  rename_i f hf;have ec:∀l:List ES,l ++ []=l:=fun l=>by simp
  split at he
  . rename_i x horc';simp only[ai] at he;subst he;obtain⟨h1,h2⟩:=horc _ _ _ _ _ horc';refine⟨h1,OneOk.call ho (.inl ⟨hf,rfl⟩) ?_⟩;rw[ec];exact h2
  obtain⟨h1,h2⟩:=hcall _ _ _ _ _ he;refine⟨h1,OneOk.call ho (.inl ⟨hf,rfl⟩) ?_⟩;rw[ec];exact h2
 . rename_i f gs hf;split at he
   . rename_i x horc';simp only[ai] at he;subst he;obtain⟨h1,h2⟩:=horc _ _ _ _ _ horc';exact⟨h1,OneOk.call ho (.inr (.inl ⟨_,hf,rfl⟩)) h2⟩
   obtain⟨h1,h2⟩:=hcall _ _ _ _ _ he;exact⟨h1,OneOk.call ho (.inr (.inl ⟨_,hf,rfl⟩)) h2⟩
 . rename_i g hf;split at he
   . rename_i s2 hs;simp only[ai,aC] at he;obtain⟨rfl,rfl⟩:=he;obtain⟨h1,h2⟩:=hyld _ _ _ _ hs;exact⟨h1,OneOk.yld ho hf h2⟩
   cases he
 cases he
def Sz(horc:jv X orc)(hcall:pd X call)(hyld:rI X yld){o:Oper}{tm:Nat->ES}{s s':Hs}{r:ES}
 (he:EJ (X.ee F orc) call yld o.op (am tm) s=some (r,s')):LogOk s s'/\OneOk X o tm s.h.get r s'.h.get:=by
 unfold EJ at he;split at he
 . rename_i fo args hc;obtain⟨ax,ats,ho,rfl⟩:=Bv hc;rw[Hx] at he;exact JJ horc hcall hyld ho he
 rw[bz] at he;split at he
 . rename_i r0 ws hop;rw[bz,oP] at he;simp only[ai,aC] at he;obtain⟨rfl,rfl⟩:=he;refine⟨LogOk.wr _ _ _,?_⟩;show OneOk X o tm s.h.get r0 (kt s.h ws).get;rw[re];exact vz hop
 cases he
def Ez{ro:Option Nat}{E:EEnv}(hI:∀w',BelowO E.own E.w0 w'->X.I w'){nt:Nat}{H:ak}{U:Bm}{tm:Nat->ES}{h h':Hp}{a:Act}{w:World}{all:Array Oper}{o:Oper}{r:ES}(hd:∀d,o.dst=some d->d<nt)
 (hS:ESt X E nt H U tm h a w) {mo:Nat->Prop} (hM:MarksOk mo a.defers w) (hf:(jA all tm o=some true/\OneOk X o tm h r h')\/(jA all tm o=some false/\r=.und/\h'=h)) {K:Act->World->Prop} {Q:Exit->Act->World->Prop}
 (hK:∀H' U' a' w',HLe H H'->BLe U U'->ESt X E nt H' U' (dz tm o.dst r) h' a' w'->MarksOk mo a'.defers w'->MarkSame w w'->K a' w') :
 if Region.wanted o (yielded all a.tmps) then o.wpIn (FW ro) 0 X.P a w K Q else(∀f,o.about X.P w a.eval=some f->(FW ro).fn f)/\K (a.put o.dst undef) w:=by
 rcases hf with⟨hy,ho⟩|⟨hy,rfl,rfl⟩
 . rw[vO hS hy];simp only[bL];refine ho ro E hI nt H U a w K Q hS fun v H' U' w' h1 h2 h3 h4 h5=>?_;exact hK H' U' _ w' h1 h2 (hS.fin hd h1 h2 h3 h5) (by rw[vd];exact hM.keep h4) h4
 rw[vO hS hy];simp only[dB,bM];exact⟨fun _ _=>trivial,hK H U _ w (HLe.refl _) (BLe.refl _) (hS.fin hd (HLe.refl _) (BLe.refl _) hS.sim rfl) (by rw[vd];exact hM) (MarkSame.refl _)⟩
def Sy(horc:jv X orc)(hcall:pd X call)(hyld:rI X yld){all:Array Oper}:∀{os:List Oper} {s s':Sg},rO (X.ee F orc) call yld all os s=some s'->
 LogOk s.s s'.s/\∀(ro:Option Nat) (E:EEnv),(∀w',BelowO E.own E.w0 w'->X.I w')->∀(w0:World) (nt:Nat) (Q:Exit->Act->World->Prop) (H:ak) (U:Bm) (a:Act) (w:World),dc nt os=true->xc X E w0 nt H U s a w->
  (∀a' w',EPost X E w0 nt H U w s' a' w'->Q .normal a' w')->wpListIn (FW ro) 0 X.P all Q os a w:=by
 intro os;induction os with
 |nil=>
  intro s s' he;simp only[rO,ai] at he;subst he;exact⟨LogOk.refl _,fun ro E hI w0 nt Q H U a w _ hS hQ=>hQ a w (EPost.refl hS)⟩
 |cons o os ih=>
  intro s s' he;unfold rO at he;have key:∃(r:ES) (hs:Hs),LogOk s.s hs/\((jA all s.tm.sl o=some true/\OneOk X o s.tm.sl s.s.h.get r hs.h.get)\/(jA all s.tm.sl o=some false/\r=.und/\hs.h.get=s.s.h.get))/\rO (X.ee F orc) call yld all os ⟨oi s.tm o.dst r,hs⟩=some s':=by
   split at he
   . rename_i hy;split at he
     . rename_i r hs h1;rw[nT,oP] at he;obtain⟨l1,l2⟩:=Sz horc hcall hyld h1;exact⟨r,hs,l1,.inl ⟨hy,l2⟩,he⟩
     cases he
   . rename_i hy;rw[oP] at he;exact⟨.und,s.s,LogOk.refl _,.inr ⟨hy,rfl,rfl⟩,he⟩
   cases he
  obtain⟨r,hs,l1,hf,he'⟩:=key;obtain⟨l2,hw⟩:=ih he';refine⟨l1.trans l2,fun ro E hI w0 nt Q H U a w hd hS hQ=>?_⟩;have hd':dc nt os=true:=by
   simp only[dc,dl,aH] at hd;exact hd.2
  unfold wpListIn;refine Ez hI (oO hd) hS.1 hS.2.1 hf fun H' U' a' w' h1 h2 h3 h4 h5=>?_;refine hw ro E hI w0 nt Q H' U' a' w' hd' ⟨?_,h4,hS.2.2.trans h5⟩ fun a2 w2 hp=>hQ a2 w2 (hp.trans h1 h2 h5);show ESt X E nt H' U' (oi s.tm o.dst r).sl hs.h.get a' w';rw[Km];exact h3
end
end Go.Proofs.En
namespace Go.Proofs.En
open Go.RowKit Go.Proofs.Fl Go.Shelf Go.Sort
def wI(arr:Array Value)(k i:Nat):List Value:=(arr.toList.drop (i*k)).take k
def Hr{α:Type}[Inhabited α]{enc:α->List Value}{k:Nat}{w:World}{blk m:Nat}{dk:Array α}{os:Array Obj}{j:Nat}(hj:j<w.heap.size) :
 (sortWorldK enc k w blk 0 m dk os).heap[j]?=if blk=j then(w.heap[j]?).map (onCells (putCells id 0 (flatK enc k dk))) else w.heap[j]?:=by
 unfold sortWorldK putRowK putRow;rw[heap_grow_old _ _ (by simpa[mapBlock] using hj)];simp[mapBlock,Bb]
def BA{α:Type}[Inhabited α]{enc:α->List Value}{k:Nat}{w:World}{blk m:Nat}{dk:Array α}{os:Array Obj}:w.heap.size<=(sortWorldK enc k w blk 0 m dk os).heap.size:=by
 unfold sortWorldK putRowK;rw[size_grow,size_putRow];exact Bf _ _
def LJ{α:Type}{R:α->α->Prop}(hR:∀a b,R a b->¬R b a):∀{l l':List α},l.Perm l'->l.Pairwise R->l'.Pairwise (fun a b=>¬R b a)->l.Nodup->(∀a∈l,∀b∈l,a≠b->R a b\/R b a)->l=l'
 | [],l',hp,_,_,_,_=>(List.nil_perm.1 hp).symm
 |a::l,l',hp,h1,h2,hn,ht=>by
  cases l' with
  |nil=>exact absurd hp.length_eq (by simp)
  |cons b l'=>
   have hab:a=b:=by
    apply ia;intro hne;have ha:a∈l':=by
     have:a∈b::l':=hp.mem_iff.1 (by simp);exact(List.mem_cons.1 this).resolve_left hne
    have hb:b∈l:=by
     have:b∈a::l:=hp.mem_iff.2 (by simp);exact(List.mem_cons.1 this).resolve_left (lE hne)
    exact(List.pairwise_cons.1 h2).1 a ha ((List.pairwise_cons.1 h1).1 b hb)
   subst hab;rw[LJ hR (hp.cons_inv) (List.pairwise_cons.1 h1).2 (List.pairwise_cons.1 h2).2 (List.nodup_cons.1 hn).2 fun x hx y hy=>ht x (by simp[hx]) y (by simp[hy])]
end Go.Proofs.En
namespace Go.Proofs.En
open Go.RowKit Go.Proofs.Fl
def gF{α:Type}(act:Nat->α->α)(S:Nat->Bool):List Nat->α->α
 | [],x=>x
 |i::l,x=>gF act S l (if S i=true then act i x else x)
section
variable {α:Type}{act:Nat->α->α}{S S':Nat->Bool}
def mZ:∀{l:List Nat} {x:α},(∀i∈l,S i≠S' i->∀x,act i x=x)->gF act S l x=gF act S' l x
 | [],_,_=>rfl
 |i::l,x,h=>by
  rw[gF,gF];have e:(if S i=true then act i x else x)=(if S' i=true then act i x else x):=by
   by_cases hd:S i=S' i
   . rw[hd]
   rw[h i (by simp) hd];simp
  rw[e];exact mZ fun j hj=>h j (by simp[hj])
def rj:∀{l:List Nat} {x:α},(∀i∈l,S i=false)->gF act S l x=x
 | [],_,_=>rfl
 |i::l,x,h=>by
  rw[gF,h i (by simp)];simp only[dB,bM];exact rj fun j hj=>h j (by simp[hj])
def Dr(A:α->α):∀{l:List Nat} {x:α},(∀j∈l,S j=true->∀b,act j (A b)=A (act j b))->gF act S l (A x)=A (gF act S l x)
 | [],_,_=>rfl
 |j::l,x,h=>by
  rw[gF,gF];by_cases hs:S j=true
  . simp only[hs,bL];rw[h j (by simp) hs];exact Dr A fun k hk=>h k (by simp[hk])
  simp only[hs];exact Dr A fun k hk=>h k (by simp[hk])
def wh{i:Nat}(hS:∀j,S' j=(S j||Nat.beq j i))(hi:S i=false):∀{l:List Nat} {x:α},l.Pairwise (· < ·)->i∈l->
 (∀j∈l,i<j->S j=true->∀b,act j (act i b)=act i (act j b))->gF act S' l x=act i (gF act S l x)
 | [],_,_,h,_=>by simp at h
 |j::l,x,hp,hm,h=>by
  rw[gF,gF];have hp':=List.pairwise_cons.1 hp;by_cases hji:j=i
  .
   subst hji;have h1:S' j=true:=by rw[hS,bD];simp
   rw[h1,hi];simp only[bL,dB,bM];have e:gF act S' l (act j x)=gF act S l (act j x):=mZ fun k hk hne=>by
    exfalso;have hkj:=hp'.1 k hk;have:Nat.beq k j=false:=by
     cases hb:Nat.beq k j
     . rfl
     have:=aB hb;omega
    rw[hS,this] at hne;simp at hne
   rw[e];exact Dr (act j) fun k hk hs b=>h k (by simp[hk]) (hp'.1 k hk) hs b
  have hm':i∈l:=by
   rcases List.mem_cons.1 hm with e|e
   . exact absurd e.symm hji
   exact e
  have:S' j=S j:=by
   rw[hS];have:Nat.beq j i=false:=by
    cases hb:Nat.beq j i
    . rfl
    exact absurd (aB hb) hji
   rw[this];simp
  rw[this];exact wh hS hi hp'.2 hm' fun k hk=>h k (by simp[hk])
end
def Ii:∀(N:List Nat) (h:PT EO),(tP h N).get=dF (fun g=>!bV g N) h.get
 | [],h=>by funext g;rfl
 |g0::N,h=>by
  rw[tP,Ii N];funext g;unfold dF;rw[nV];simp only[show ∀g,bV g (g0::N)=(bif Nat.beq g g0 then true else bV g N) from fun _=>rfl];cases hb:Nat.beq g g0 with
  |true=>
   have:=aB hb;subst this;cases bV g N<;>simp
  |false=>
   have:g≠g0:=fun e=>by subst e;rw[bD] at hb;cases hb
   rw[aq this];rfl
def IB{g:Nat}:∀{ws:Wr} {h:Hp},bw h ws g=none->h g=none
 | [],_,h=>h
 |p::l,h,hn=>by
  have:=IB (ws:=l) hn;by_cases e:g=p.1
  . rw[e,a6] at this;cases this
  rwa[aI _ _ _ e] at this
def yl{h:PT EO}:∀{l:List Nat} {p:Nat×EO},p∈iF h l->p.1∈l/\h.get p.1=some p.2
 | [],p,hp=>by simp[iF] at hp
 |g::l,p,hp=>by
  unfold iF at hp;split at hp
  . rename_i o ho;rcases List.mem_cons.1 hp with rfl|hp
    . exact⟨by simp,ho⟩
    have:=yl hp;exact⟨by simp[this.1],this.2⟩
  have:=yl hp;exact⟨by simp[this.1],this.2⟩
def Ij{h:PT EO}{g:Nat}{o:EO}(ho:h.get g=some o):∀{l:List Nat},g∈l->(g,o)∈iF h l
 | [],hg=>by cases hg
 |g'::l,hg=>by
  unfold iF;rcases List.mem_cons.1 hg with rfl|hg
  . rw[ho];simp
  have:=Ij ho hg;split
  . simp[this]
  exact this
def Sq{h:PT EO}{h0:Hp}{l:List Nat}(h1:∀g,g∉l->h.get g=h0 g)(h2:∀g,h.get g=none->h0 g=none):bw h0 (iF h l)=h.get:=by
 funext g;refine JY (fun p hp e=>?_) ?_
 . have:=(yl hp).2;rw[e] at this;exact this.symm
 by_cases hg:g∈l
 . cases ho:h.get g with
   |some o=>exact .inl ⟨_,Ij ho hg,rfl⟩
   |none=>exact .inr (h2 g ho)
 exact .inr (h1 g hg).symm
section
variable {X:EX}{F:FuncId->Option FnE}{orc:FuncId->List ES->Hs->Option (ES × Hs)}{call:FuncId->List ES->Hs->Option (ES × Hs)}{yld:Nat->List ES->Hs->Option Hs}
def HQ{l:List Nat}:∀{ws:Wr},wG l ws=true->∀p∈ws,bV p.1 l=true
 | [],_,p,hp=>by cases hp
 |q::ws,h,p,hp=>by
  simp only[wG,aH] at h;rcases List.mem_cons.1 hp with rfl|hp
  . exact h.1
  exact HQ h.2 p hp
def Rg(horc:jv X orc)(hcall:pd X call)(hyld:rI X yld){tab:List Nat}{nx0 k:Nat}{log:List Le}{os:List Oper}{o:Oper}{m:Nat->ES}{s s':Hs}{r:ES}{l:Le}
 (he:Er (X.ee F orc) call yld tab nx0 k log os o.op (am m) s=some (r,s',l)) :
 LogOk s s'/\s'.h.get=bw s.h.get l.wr/\OneOk X o m (dF l.vis s.h.get) r (bw (dF l.vis s.h.get) l.wr)/\∀p∈l.wr,l.vis p.1=true:=by
 unfold Er at he;split at he
 .
  rename_i fo args hc;obtain⟨ax,ats,ho,rfl⟩:=Bv hc;generalize wQ tab k log k++wi tab nx0 k os (k+1)=N at he;simp only at he;split at he
  .
   rename_i r0 s1 hce;obtain⟨l1,l2⟩:=JJ horc hcall hyld ho hce;have h0:(tP s.h N).get=dF (fun g=>!bV g N) s.h.get:=Ii N s.h;have hws:bw (tP s.h N).get (iF s1.h s1.wl)=s1.h.get:=Sq (fun g hg=>l1.1 g hg) (fun g hg=>l1.2.2 g hg);cases hchk:(iF s1.h s1.wl).all (fun p=>!bV p.1 N) with
   |false=>rw[hchk] at he;cases he
   |true=>
    rw[hchk] at he;simp only[al,ai,aC] at he;obtain⟨rfl,rfl,rfl⟩:=he;have hget:(match N with | []=>s1.h|_=>kt s.h (iF s1.h s1.wl)).get=bw s.h.get (iF s1.h s1.wl):=by
     cases N with
     |nil=>exact hws.symm
     |cons=>exact re _ _
    refine⟨⟨fun g hg=>?_,fun g hg=>Oi _ hg,fun g hg=>?_⟩,hget,?_,fun p hp=>?_⟩
    . show(match N with | []=>s1.h|_=>kt s.h (iF s1.h s1.wl)).get g=_;rw[hget];exact sZ fun p hp e=>hg (Oj _ (e▸(yl hp).1))
    . have hg:(match N with | []=>s1.h|_=>kt s.h (iF s1.h s1.wl)).get g=none:=hg;rw[hget] at hg;exact IB hg
    . show OneOk X o m (dF (fun g=>!bV g N) s.h.get) r0 (bw (dF (fun g=>!bV g N) s.h.get) (iF s1.h s1.wl));rw[<-h0,hws];exact l2
    exact List.all_eq_true.1 hchk p hp
  cases he
 rw[bz] at he;simp only at he;split at he
 .
  rename_i r0 ws hop;cases hsub:wG ((nx0+k)::NM o.op (am m)) ws with
  |false=>rw[hsub] at he;cases he
  |true=>
   rw[hsub] at he;simp only[al,oP,ai,aC] at he;obtain⟨rfl,rfl,rfl⟩:=he;refine⟨LogOk.wr _ _ _,re _ _,?_,fun p hp=>HQ hsub p hp⟩;exact vz hop
 cases he
def rQ(X:EX)(all:Array Oper)(o:Oper)(tm:Nat->ES)(h:Hp)(x:ES×Le):Prop :=
 ((jA all (ka (gd all o) tm) o=some true/\OneOk X o (ka (gd all o) tm) (dF x.2.vis h) x.1 (bw (dF x.2.vis h) x.2.wr))\/(jA all (ka (gd all o) tm) o=some false/\x.1=.und/\x.2.wr=[]))/\∀p∈x.2.wr,x.2.vis p.1=true
def oA(tm:Nat->ES)(l:List (Oper×ES×Le)):Nat->ES:=l.foldl (fun tm p=>dz tm p.1.dst p.2.1) tm
def oB(h:Hp)(l:List (Oper×ES×Le)):Hp:=l.foldl (fun h p=>bw h p.2.2.wr) h
def Rh(horc:jv X orc)(hcall:pd X call)(hyld:rI X yld){all:Array Oper}{tab:List Nat}{nx0:Nat}:∀{os:List Oper} {k:Nat} {log log':List Le} {s s':Sg},rB (X.ee F orc) call yld all tab nx0 os k log s=some (s',log')->
 LogOk s.s s'.s/\∃recs:List (ES×Le),recs.length=os.length/\(∀i o x,os[i]?=some o->recs[i]?=some x->rQ X all o (oA s.tm.sl ((os.zip recs).take i)) (oB s.s.h.get ((os.zip recs).take i)) x)/\
  s'.tm.sl=oA s.tm.sl (os.zip recs)/\s'.s.h.get=oB s.s.h.get (os.zip recs)/\log'=(recs.map Prod.snd).reverse++log:=by
 intro os;induction os with
 |nil=>
  intro k log log' s s' he;simp only[rB,ai,aC] at he;obtain⟨rfl,rfl⟩:=he;exact⟨LogOk.refl _,[],rfl,fun i o x h=>by simp at h,rfl,rfl,rfl⟩
 |cons o os ih=>
  intro k log log' s s' he;unfold rB at he;simp only at he;have key:∃(r:ES) (hs:Hs) (l:Le),LogOk s.s hs/\hs.h.get=bw s.s.h.get l.wr/\rQ X all o s.tm.sl s.s.h.get (r,l)/\rB (X.ee F orc) call yld all tab nx0 os (k+1) (l::log) ⟨oi s.tm o.dst r,hs⟩=some (s',log'):=by
   split at he
   . rename_i hy;split at he
     . rename_i r hs l h1;rw[nT,oP] at he;obtain⟨l1,l2,l3,l4⟩:=Rg horc hcall hyld h1;exact⟨r,hs,l,l1,l2,⟨.inl ⟨hy,l3⟩,l4⟩,he⟩
     cases he
   . rename_i hy;rw[oP] at he;exact⟨.und,s.s,⟨true,[],[]⟩,LogOk.refl _,rfl,⟨.inr ⟨hy,rfl,rfl⟩,fun p hp=>by cases hp⟩,he⟩
   cases he
  obtain⟨r,hs,l,l1,l2,hf,he'⟩:=key;obtain⟨j1,recs,j2,j3,j4,j5,j6⟩:=ih he';have e1:(oi s.tm o.dst r).sl=dz s.tm.sl o.dst r:=Km _ _ _;simp only at j3 j4 j5;rw[e1] at j3 j4;rw[l2] at j3 j5;refine⟨l1.trans j1,(r,l)::recs,by simp[j2],fun i o' x hi hx=>?_,j4,j5,by rw[j6];simp⟩;cases i with
  |zero=>simp at hi hx;subst hi;subst hx;exact hf
  |succ i=>exact j3 i o' x (by simpa using hi) (by simpa using hx)
def W0{ro:Option Nat}{E:EEnv}(hI:∀w',BelowO E.own E.w0 w'->X.I w'){nt:Nat}{H:ak}{U:Bm}{tm tm':Nat->ES}{h h':Hp}{a:Act}{w:World}{all:Array Oper}{o:Oper}{x:ES×Le}(hd:∀d,o.dst=some d->d<nt)
 (hS:ESt X E nt H U tm' h' a w) {mo:Nat->Prop} (hM:MarksOk mo a.defers w) (hf:rQ X all o tm h x) (hm:∀t∈gd all o,tm' t=tm t) (hv:∀g,x.2.vis g=true->h' g=h g) {K:Act->World->Prop} {Q:Exit->Act->World->Prop}
 (hK:∀H' U' a' w',HLe H H'->BLe U U'->ESt X E nt H' U' (dz tm' o.dst x.1) (bw h' x.2.wr) a' w'->MarksOk mo a'.defers w'->MarkSame w w'->K a' w') :
 if Region.wanted o (yielded all a.tmps) then o.wpIn (FW ro) 0 X.P a w K Q else(∀f,o.about X.P w a.eval=some f->(FW ro).fn f)/\K (a.put o.dst undef) w:=by
 have em:ka (gd all o) tm=ka (gd all o) tm':=by
  funext t;unfold ka;cases hb:bV t (gd all o) with
  |false=>rfl
  |true=>rw[hm t (jT.1 hb)]
 have eh:dF x.2.vis h=dF x.2.vis h':=by
  funext g;unfold dF;cases hb:x.2.vis g with
  |false=>rfl
  |true=>rw[hv g hb]
 unfold rQ at hf;rw[em,eh] at hf;obtain⟨hf,hvis⟩:=hf;have hS0:ESt X (t7 E x.2.vis h' H U w) nt H U (ka (gd all o) tm') (dF x.2.vis h') a w:=⟨hS.sim.hide _,fun t=>by
  unfold ka;cases bV t (gd all o) with
  |false=>trivial
  |true=>exact hS.slot t,hS.size⟩
 rcases hf with⟨hy,ho⟩|⟨hy,hr,hw⟩
 . rw[vO hS0 hy];simp only[bL];refine ho ro (t7 E x.2.vis h' H U w) (fun w' hb=>hI w' (hS.sim.below.trans (hb.mono fun k hk=>hk.1))) nt H U a w K Q hS0 fun v H' U' w' h1 h2 h3 h4 h5=>?_;exact hK H' U' _ w' h1 h2 (hS.fin hd h1 h2 (hS.sim.unhide h1 h2 h3 hvis) h5) (by rw[vd];exact hM.keep h4) h4
 rw[vO hS0 hy];simp only[dB,bM];rw[hr,hw] at hK;exact⟨fun _ _=>trivial,hK H U _ w (HLe.refl _) (BLe.refl _) (hS.fin hd (HLe.refl _) (BLe.refl _) hS.sim (r:=.und) rfl) (by rw[vd];exact hM) (MarkSame.refl _)⟩
end
def rV(D:Nat->Option Nat)(L:Nat->ES×Le)(t i:Nat)(x:ES):ES:=if D i=some t then(L i).1 else x
def rX(L:Nat->ES×Le)(g i:Nat)(x:Option EO):Option EO:=bw (fun _=>x) (L i).2.wr g
def Cq{L:Nat->ES×Le}{g i:Nat}(h:∀p∈(L i).2.wr,p.1≠g)(x:Option EO):rX L g i x=x:=sZ h
def JS{D:Nat->Option Nat}{L:Nat->ES×Le}{i:Nat}{dst:Option Nat}(hD:D i=dst)(tm:Nat->ES)(t:Nat):dz tm dst (L i).1 t=rV D L t i (tm t):=by
 unfold rV;rw[hD];cases dst with
 |none=>simp[dz]
 |some d=>
  by_cases h:d=t
  . subst h;simp[dz,a6]
  simp[dz,h,aI _ _ _ (lE h)]
def JT(L:Nat->ES×Le)(i:Nat)(h:Hp)(g:Nat):bw h (L i).2.wr g=rX L g i (h g):=BM rfl
def jB(D:Nat->Option Nat)(L:Nat->ES×Le)(n:Nat)(S:Nat->Bool)(tm:Nat->ES):Nat->ES:=fun t=>gF (rV D L t) S (List.range n) (tm t)
def jC(L:Nat->ES×Le)(n:Nat)(S:Nat->Bool)(h:Hp):Hp:=fun g=>gF (rX L g) S (List.range n) (h g)
def zY{j i:Nat}(h:j≠i):Nat.beq j i=false:=by
 cases hb:Nat.beq j i
 . rfl
 exact absurd (aB hb) h
def ME{os:List Oper}{recs:List (ES×Le)}(hl:recs.length=os.length)(D:Nat->Option Nat)(hD:∀i o,os[i]?=some o->D i=o.dst)(tm:Nat->ES)(h:Hp):∀k,k<=os.length->
 oA tm ((os.zip recs).take k)=jB D (fun i=>recs.getD i default) os.length (fun j=>decide (j<k)) tm/\
 oB h ((os.zip recs).take k)=jC (fun i=>recs.getD i default) os.length (fun j=>decide (j<k)) h:=by
 intro k;induction k with
 |zero=>
  intro _;refine⟨?_,?_⟩
  . funext t;exact(rj fun i _=>by simp).symm
  funext g;exact(rj fun i _=>by simp).symm
 |succ k ih=>
  intro hk;obtain⟨i1,i2⟩:=ih (by omega);have ho:os[k]?=some os[k]:=by simp
  have hz:(os.zip recs)[k]?=some (os[k],recs[k]'(by omega)):=by
   rw[List.getElem?_zip_eq_some];exact⟨ho,by simp⟩
  have hg:recs.getD k default=recs[k]'(by omega):=by
   have:k<recs.length:=by omega
   simp[this]
  have hS:∀j,decide (j<k+1)=(decide (j<k)||Nat.beq j k):=by
   intro j;by_cases h1:j<k
   . simp[h1];omega
   by_cases h2:j=k
   . subst h2;simp[bD]
   simp[h1,zY h2];omega
  have hm:k∈List.range os.length:=List.mem_range.2 (by omega);constructor
  . rw[dO,oA,su,hz];funext t;have i1':List.foldl (fun tm p=>dz tm p.1.dst p.2.1) tm ((os.zip recs).take k)=_:=i1;rw[i1'];simp only[A0,iV,uJ];rw[<-hg,JS (L:=fun i=>recs.getD i default) (hD k _ ho)];exact(wh (act:=rV D (fun i=>recs.getD i default) t) (i:=k) hS (by simp) xl hm fun j hj h1 h2=>absurd h2 (by simp;omega)).symm
  rw[dO,oB,su,hz];funext g;have i2':List.foldl (fun h p=>bw h p.2.2.wr) h ((os.zip recs).take k)=_:=i2;rw[i2'];simp only[A0,iV,uJ];rw[<-hg,JT (fun i=>recs.getD i default) k];exact(wh (act:=rX (fun i=>recs.getD i default) g) (i:=k) hS (by simp) xl hm fun j hj h1 h2=>absurd h2 (by simp;omega)).symm
section
variable {X:EX}{all:Array Oper}{tab:List Nat}{nt:Nat}{E:EEnv}{ro:Option Nat}
def Np(hI:∀w',BelowO E.own E.w0 w'->X.I w')(hd:dc nt all.toList=true)(hf:Flow all tab){tm:Nat->ES}{h:Hp}{D:Nat->Option Nat}(hD:∀i o,all[i]?=some o->D i=o.dst)(L:Nat->ES×Le)
 (hfact:∀i o,all[i]?=some o->rQ X all o (jB D L all.size (fun j=>decide (j<i)) tm) (jC L all.size (fun j=>decide (j<i)) h) (L i))
 (hconf:∀i j,i<all.size->j<all.size->dV tab i j=true\/∀p∈(L i).2.wr,(L j).2.vis p.1=false) {mo:Nat->Prop} {Q:Exit->Act->World->Prop} :
 ∀(fuel:Nat) (listed:Array Bool) (S:Nat->Bool) (H:ak) (U:Bm) (a:Act) (w:World),(∀j,j<all.size->listed.getD j true=S j/\listed.getD j false=S j)->((List.range all.size).filter fun j=>!S j).length<=fuel->z7 all S->
  ESt X E nt H U (jB D L all.size S tm) (jC L all.size S h) a w->MarksOk mo a.defers w->
  (∀H' U' a' w',HLe H H'->BLe U U'->ESt X E nt H' U' (jB D L all.size (fun _=>true) tm) (jC L all.size (fun _=>true) h) a' w'->MarksOk mo a'.defers w'->MarkSame w w'->Q .normal a' w')->wpAnyIn (FW ro) 0 X.P .any all Q fuel listed a w:=by
 have lt:∀{j o},all[j]?=some o->j<all.size:=fun h=>(Array.getElem?_eq_some_iff.1 h).1;have edge_iff:∀{o:Oper} {p:Nat->Prop},(∀e∈o.after,Region.binds .any e=true->p e.on)↔∀e∈iC o,p e:=by
  intro o p;unfold iC;constructor
  . intro h e he;obtain⟨x,hx,e'⟩:=List.mem_filterMap.1 he;cases hb:Region.binds .any x with
    |true=>simp[hb] at e';subst e';exact h x (by simpa using hx) hb
    |false=>simp[hb] at e'
  intro h x hx hb;exact h _ (List.mem_filterMap.2 ⟨x,by simpa using hx,by simp[hb]⟩)
 have done:∀{listed:Array Bool} {S:Nat->Bool},(∀j,j<all.size->listed.getD j true=S j/\listed.getD j false=S j)->Region.ready .any all listed=[]->∀j,j<all.size->S j=true:=by
  intro listed S hl hr j;induction j using Nat.strongRecOn with
  |_ j ih=>
   intro hj;cases hS:S j with
   |true=>rfl
   |false=>
    have hg:all[j]?=some all[j]:=by simp[hj]
    have:j∈Region.ready .any all listed:=mem_ready.2 ⟨by rw[(hl j hj).1,hS],all[j],hg,(edge_iff (p:=fun e=>listed.getD e false=true)).2 fun e he=>by
     have:=hf.edge j _ hg e he;rw[(hl e (by omega)).2];exact ih e this (by omega)⟩
    rw[hr] at this;simp at this
 have fin:∀{S:Nat->Bool},(∀j,j<all.size->S j=true)->jB D L all.size S tm=jB D L all.size (fun _=>true) tm/\jC L all.size S h=jC L all.size (fun _=>true) h:=fun hS=>
  ⟨funext fun t=>mZ fun i hi hne=>absurd (hS i (List.mem_range.1 hi)) hne,funext fun g=>mZ fun i hi hne=>absurd (hS i (List.mem_range.1 hi)) hne⟩
 intro fuel;induction fuel with
 |zero=>
  intro listed S H U a w hl hn hc hs hM hQ;have hS:∀j,j<all.size->S j=true:=fun j hj=>by
   have h0:(List.range all.size).filter (fun j=>!S j)=[]:=ss (by omega);have:=List.filter_eq_nil_iff.1 h0 j (List.mem_range.2 hj);simpa using this
  rw[(fin hS).1,(fin hS).2] at hs;refine⟨?_,hQ H U a w (HLe.refl _) (BLe.refl _) hs hM (MarkSame.refl _)⟩;cases hr:Region.ready .any all listed with
  |nil=>rfl
  |cons i is=>
   have hi:i∈Region.ready .any all listed:=by rw[hr];simp
   obtain⟨h0,o,ho,_⟩:=mem_ready.1 hi;rw[(hl i (lt ho)).1,hS i (lt ho)] at h0;cases h0
 |succ fuel ih=>
  intro listed S H U a w hl hn hc hs hM hQ;refine⟨fun hr=>?_,fun i hi=>?_⟩
  . rw[(fin (done hl hr)).1,(fin (done hl hr)).2] at hs;exact hQ H U a w (HLe.refl _) (BLe.refl _) hs hM (MarkSame.refl _)
  obtain⟨h0,o,ho,hall⟩:=mem_ready.1 hi;have hilt:=lt ho;have hSi:S i=false:=by rw[<-(hl i hilt).1];exact h0
  have hre:∀e∈iC o,S e=true:=fun e he=>by
   have:=hf.edge i o ho e he;rw[<-(hl e (by omega)).2];exact(edge_iff (p:=fun e=>listed.getD e false=true)).1 hall e he
  have same:∀j,j<all.size->dV tab i j=true->decide (j<i)=S j:=fun j hj hn=>hf.near_same hc ho (show all[j]?=some all[j] by simp[hj]) hre hSi hn;have hfa:=hfact i o ho;unfold wpOpIn;simp only[ho];refine W0 hI (oO hd (by simpa using NY ho)) hs hM hfa (fun t ht=>?_) (fun g hg=>?_) fun H' U' a' w' k1 k2 k3 k4 k5=>?_
  . refine mZ fun j hj hne x=>?_;have hj:=List.mem_range.1 hj;have hgj:all[j]?=some all[j]:=by simp[hj]
    unfold rV;rw[aq fun hdj=>?_];have:=same j hj (hf.looks i o ho t ht j _ hgj (by rw[<-hD j _ hgj];exact hdj));exact hne this.symm
  . refine mZ fun j hj hne x=>Cq (fun p hp e=>?_) x;have hj:=List.mem_range.1 hj;rcases hconf j i hj hilt with hn|hm
    . rw[B5] at hn;exact hne (same j hj hn).symm
    have:=hm p hp;rw[e,hg] at this;cases this
  refine ih _ (fun j=>S j||Nat.beq j i) H' U' a' w' (fun j hj=>?_) ?_ ?_ ?_ k4 fun H2 β2 a2 w2 j1 j2 j3 j4 j5=>hQ H2 β2 a2 w2 (k1.trans j1) (k2.trans j2) j3 j4 (k5.trans j5)
  .
   by_cases hji:j=i
   .
    subst hji;have hsz:j<listed.size:=by
     rcases gb j listed.size with h'|h'
     . exact h'
     simp[uO h'] at h0
    simp[hsz,bD]
   rw[FJ true (lE hji),FJ false (lE hji),zY hji,AZ];exact hl j hj
  . have:=Go.Proofs.Fl.Ck (p:=fun j=>!S j) (p':=fun j=>!(S j||Nat.beq j i)) (i:=i) (by simp[hSi]) (by simp[bD]) (fun j hj=>by simp at hj ⊢;exact hj.1) (List.mem_range.2 hilt);omega
  . intro j o' hj hSj e he;simp only[iW] at hSj ⊢;rcases hSj with hSj|hSj
    . exact .inl (hc j o' hj hSj e he)
    have:=aB hSj;subst this;rw[ho] at hj;cases hj;exact .inl (hre e he)
  have hnn:∀j,j<all.size->i<j->S j=true->dV tab i j=false:=fun j hj hij hSj=>by
   cases hn:dV tab i j with
   |false=>rfl
   |true=>
    have:=same j hj hn;rw[hSj] at this;simp at this;omega
  have e1:jB D L all.size (fun j=>S j||Nat.beq j i) tm=dz (jB D L all.size S tm) o.dst (L i).1:=by
   funext t;rw[JS (hD i o ho)];refine wh (act:=rV D L t) (i:=i) (fun _=>rfl) hSi xl (List.mem_range.2 hilt) fun j hj hij _ b=>?_;have hj:=List.mem_range.1 hj;have hgj:all[j]?=some all[j]:=by simp[hj]
   unfold rV;by_cases h1:D i=some t
   . by_cases h2:D j=some t
     . have:=hf.uniq j i _ o t hgj ho (by rw[<-hD j _ hgj];exact h2) (by rw[<-hD i _ ho];exact h1);omega
     rw[aq h2,aq h2]
   rw[aq h1,aq h1]
  have e2:jC L all.size (fun j=>S j||Nat.beq j i) h=bw (jC L all.size S h) (L i).2.wr:=by
   funext g;rw[JT];refine wh (act:=rX L g) (i:=i) (fun _=>rfl) hSi xl (List.mem_range.2 hilt) fun j hj hij hSj b=>?_;have hj:=List.mem_range.1 hj;have hn0:=hnn j hj hij hSj;have m1:=(hconf i j hilt hj).resolve_left (by rw[hn0];simp);by_cases hgi:∃p∈(L i).2.wr,p.1=g
   .
    obtain⟨p,hp,hpg⟩:=hgi;have hjd:∀b,rX L g j b=b:=Cq fun q hq hqg=>by
     have hgj:all[j]?=some all[j]:=by simp[hj]
     have:=(hfact j _ hgj).2 q hq;rw[hqg,<-hpg,m1 p hp] at this;cases this
    rw[hjd,hjd]
   have hid:∀b,rX L g i b=b:=Cq fun q hq hqg=>hgi ⟨q,hq,hqg⟩;rw[hid,hid]
  rw[e1,e2];exact k3
def Gv{tab:List Nat}{i:Nat}{ws:Wr}:∀{ls:List Le} {k:Nat},yE tab i ws ls k=true->∀j l,ls[j]?=some l->dV tab i (k+j)=true\/∀p∈ws,l.vis p.1=false
 | [],_,_,j,l,h=>by simp at h
 |l'::ls,k,h,j,l,hl=>by
  simp only[yE,aH,iW] at h;cases j with
  |zero=>
   simp at hl;subst hl;exact h.1.imp id fun h p hp=>by simpa using List.all_eq_true.1 h p hp
  |succ j=>
   have:=Gv h.2 j l (by simpa using hl);rwa[show k+1+j=k+(j+1) by omega] at this
def HF{tab:List Nat}{all:List Le}:∀{ls:List Le} {k:Nat},wD tab all ls k=true->∀i x,ls[i]?=some x->∀j l,all[j]?=some l->dV tab (k+i) j=true\/∀p∈x.wr,l.vis p.1=false
 | [],_,_,i,x,h=>by simp at h
 |l'::ls,k,h,i,x,hx=>by
  simp only[wD,aH] at h;intro j l hl;cases i with
  |zero=>
   simp at hx;subst hx;have h1:=h.1;split at h1
   . rename_i hw;exact .inr fun p hp=>by rw[hw] at hp;cases hp
   simpa using Gv h1 j l hl
  |succ i=>
   have:=HF h.2 i x (by simpa using hx) j l hl;rwa[show k+1+i=k+(i+1) by omega] at this
end
def Sound(X:EX)(rd:Bool)(nt:Nat)(c:Code)(s:Sg)(e:Exit)(s':Sg):Prop :=
 LogOk s.s s'.s/\∀(ro:Option Nat),(rd=false->ro=none)->∀(E:EEnv),(∀w',BelowO E.own E.w0 w'->X.I w')->∀(w0:World) (H:ak) (U:Bm) (a:Act) (w:World) (Q:Exit->Act->World->Prop),xc X E w0 nt H U s a w->
  (∀a' w',EPost X E w0 nt H U w s' a' w'->Q e a' w')->c.wpIn (FW ro) 0 X.P Q a w
section
variable {X:EX}{F:FuncId->Option FnE}{orc:FuncId->List ES->Hs->Option (ES × Hs)}{call:FuncId->List ES->Hs->Option (ES × Hs)}{yld:Nat->List ES->Hs->Option Hs}
def Sx(horc:jv X orc)(hcall:pd X call)(hyld:rI X yld){rd:Bool}{nt id:Nat}{all:Array Oper}{draw:Bool}{s s':Sg}(he:EI (X.ee F orc) call yld nt all draw s=some s'):Sound X rd nt (.region id all draw) s .normal s':=by
 unfold EI at he;cases hd:dc nt all.toList with
 |false=>rw[hd] at he;cases he
 |true=>
  rw[hd] at he;simp only[al] at he;cases draw with
  |false=>
   obtain⟨h1,h2⟩:=Sy horc hcall hyld he;exact⟨h1,fun ro _ E hI w0 H U a w Q hS hQ=>xn (h2 ro E hI w0 nt Q H U a w hd hS hQ)⟩
  |true=>
   cases hfl:pv all (k9 all.toList) with
   |false=>rw[hfl] at he;cases he
   |true=>
    rw[hfl] at he;simp only[al] at he;split at he
    .
     rename_i s2 log hdr;cases hcf:wD (k9 all.toList) log.reverse log.reverse 0 with
     |false=>rw[hcf] at he;cases he
     |true=>
      rw[hcf] at he;simp only[al,ai] at he;subst he;have hflow:=Dv hfl;obtain⟨l1,recs,e1,e2,e3,e4,e5⟩:=Rh horc hcall hyld hdr;have hlen:all.toList.length=all.size:=by simp
      let D:Nat->Option Nat:=fun i=>(all[i]?).bind (·.dst)
      have hD:∀i o,all[i]?=some o->D i=o.dst:=fun i o ho=>by simp[D,ho]
      have hD':∀i o,all.toList[i]?=some o->D i=o.dst:=fun i o ho=>hD i o (by simpa using ho);have zf:=ME e1 D hD' s.tm.sl s.s.h.get;rw[hlen] at zf;have htk:(all.toList.zip recs).take all.size=all.toList.zip recs:=ay (by simp[e1]);have hall:=zf all.size (ah _);rw[htk] at hall;simp only at e2 e3 e4;rw[hall.1] at e3;rw[hall.2] at e4;have t1:jB D (fun i=>recs.getD i default) all.size (fun j=>decide (j<all.size)) s.tm.sl=jB D (fun i=>recs.getD i default) all.size (fun _=>true) s.tm.sl :=
       funext fun t=>mZ fun i hi hne=>by have:=List.mem_range.1 hi;simp[this] at hne
      have t2:jC (fun i=>recs.getD i default) all.size (fun j=>decide (j<all.size)) s.s.h.get=jC (fun i=>recs.getD i default) all.size (fun _=>true) s.s.h.get :=
       funext fun t=>mZ fun i hi hne=>by have:=List.mem_range.1 hi;simp[this] at hne
      rw[t1] at e3;rw[t2] at e4;have hrec:∀i,i<all.size->recs[i]?=some (recs.getD i default):=fun i hi=>by
       have:i<recs.length:=by omega
       simp[this]
      have hlog:log.reverse=recs.map Prod.snd:=by rw[e5];simp
      refine⟨l1,fun ro _ E hI w0 H U a w Q hS hQ=>?_⟩;refine NZ X.hm (Np (tm:=s.tm.sl) (h:=s.s.h.get) hI hd hflow hD (fun i=>recs.getD i default) (fun i o ho=>?_) (fun i j hi hj=>?_) all.size _ (fun _=>false) H U a _ (fun j hj=>?_) ?_ ?_ ?_ ?_ fun H' U' a' w' h1 h2 h3 h4 h5=>hQ a' w' ⟨H',U',h1,h2,⟨by rw[e3,e4];exact h3,h4,hS.2.2.trans h5⟩,?_⟩)
      . have hlt:i<all.size:=(Array.getElem?_eq_some_iff.1 ho).1;have:=e2 i o _ (by simpa using ho) (hrec i hlt);rw[(zf i (by omega)).1,(zf i (by omega)).2] at this;exact this
      . rw[hlog] at hcf;have:=HF hcf i (recs.getD i default).2 (by rw[bI,hrec i hi];rfl) j (recs.getD j default).2 (by rw[bI,hrec j hj];rfl);rwa[a8] at this
      . simp[hj]
      . exact bf (xo _ _) (by simp)
      . intro j o _ h;cases h
      . have z1:jB D (fun i=>recs.getD i default) all.size (fun _=>false) s.tm.sl=s.tm.sl:=funext fun t=>rj fun _ _=>rfl;have z2:jC (fun i=>recs.getD i default) all.size (fun _=>false) s.s.h.get=s.s.h.get:=funext fun t=>rj fun _ _=>rfl;rw[z1,z2];exact⟨hS.1.sim.sm rfl rfl rfl rfl,hS.1.slot,hS.1.size⟩
      . exact hS.2.1.keep fun _ _=>rfl
      exact fun Dd hD=>h5 Dd hD
    cases he
end
section
variable {X:EX}
def LoopS(X:EX)(rd:Bool)(nt:Nat)(b:Code)(s:Sg)(e:Exit)(s':Sg):Prop :=
 ∃m,∀(ro:Option Nat),(rd=false->ro=none)->∀(E:EEnv),(∀w',BelowO E.own E.w0 w'->X.I w')->∀(w0:World) (H:ak) (U:Bm) (a:Act) (w:World) (Q:Exit->Act->World->Prop),xc X E w0 nt H U s a w->
  (∀a' w',EPost X E w0 nt H U w s' a' w'->Q e a' w')->Code.roundsIn (FW ro) 0 X.P b Q m a w
def ui(X:EX)(ev:Bool->Nat->Code->Sg->Option (Exit×Sg)):Prop:=∀rd nt c s e s',ev rd nt c s=some (e,s')->Sound X rd nt c s e s'/\∀b,c=.loop b->LoopS X rd nt b s e s'
def O1{rd:Bool}{nt:Nat}{b:Code}{s s':Sg}{e:Exit}(hl:LogOk s.s s'.s)(h:LoopS X rd nt b s e s'):Sound X rd nt (.loop b) s e s':=by
 obtain⟨m,h⟩:=h;exact⟨hl,fun ro hro E hI w0 H U a w Q hS hQ=>Ol m (h ro hro E hI w0 H U a w Q hS hQ)⟩
def Sound.seq{rd:Bool}{nt:Nat}{x y:Code}{s s1 s':Sg}{e:Exit}(h1:Sound X rd nt x s .normal s1)(h2:Sound X rd nt y s1 e s'):Sound X rd nt (.seq x y) s e s' :=
 ⟨h1.1.trans h2.1,fun ro hro E hI w0 H U a w Q hS hQ=>wpIn_seq (h1.2 ro hro E hI w0 H U a w _ hS fun a1 w1 hp=>by
  obtain⟨H1,β1,p1,p2,p3,p4⟩:=hp;exact h2.2 ro hro E hI w0 H1 β1 a1 w1 Q p3 fun a' w' hp'=>hQ a' w' (hp'.trans p1 p2 p4))⟩
def Sound.seqX{rd:Bool}{nt:Nat}{x y:Code}{s s':Sg}{e:Exit}(h1:Sound X rd nt x s e s')(he:e≠ .normal):Sound X rd nt (.seq x y) s e s' :=
 ⟨h1.1,fun ro hro E hI w0 H U a w Q hS hQ=>wpIn_seq (h1.2 ro hro E hI w0 H U a w _ hS fun a1 w1 hp=>by
  cases e<;>first|exact absurd rfl he|exact hQ _ _ hp)⟩
def Sound.block{rd:Bool}{nt id:Nat}{c:Code}{s s':Sg}{e:Exit}(h:Sound X rd nt c s e s'):Sound X rd nt (.block id c) s (match e with | .exit i=>bif Nat.beq i id then .normal else .exit i|e=>e) s' :=
 ⟨h.1,fun ro hro E hI w0 H U a w Q hS hQ=>wpIn_block (h.2 ro hro E hI w0 H U a w _ hS fun a1 w1 hp=>by
  have hq:=hQ a1 w1 hp;cases e with
  |exit i=>
   simp only[Exit.inBlock];by_cases hi:i=id
   . subst hi;simp only[bD,al] at hq;simp only[bL];exact hq
   simp only[zY hi,bh] at hq;simp only[hi,bM];exact hq
  |_=>exact hq)⟩
def Sound.cond{rd:Bool}{nt:Nat}{c:Operand}{x y:Code}{t:Bool}{s s':Sg}{e:Exit}(hc:am s.tm.sl c=.w (.one (.iv (.bool t))))(h:Sound X rd nt (match t with|true=>x|false=>y) s e s'):Sound X rd nt (.cond c x y) s e s' :=
 ⟨h.1,fun ro hro E hI w0 H U a w Q hS hQ=>by
  have hv:=bF hS.1 c;rw[hc] at hv;refine FK (SRe.bool hv) (fun e=>?_) (fun e=>?_)
  . subst e;exact h.2 ro hro E hI w0 H U a w Q hS hQ
  subst e;exact h.2 ro hro E hI w0 H U a w Q hS hQ⟩
def Qk{rd:Bool}{nt:Nat}{b:Code}{s s1 s':Sg}{e:Exit}(h1:Sound X rd nt b s .normal s1)(h2:LoopS X rd nt b s1 e s'):LoopS X rd nt b s e s':=by
 obtain⟨m,h2⟩:=h2;refine⟨m+1,fun ro hro E hI w0 H U a w Q hS hQ=>?_⟩;rw[xJ];refine h1.2 ro hro E hI w0 H U a w _ hS fun a1 w1 hp=>?_;obtain⟨H1,β1,p1,p2,p3,p4⟩:=hp;exact h2 ro hro E hI w0 H1 β1 a1 w1 Q p3 fun a' w' hp'=>hQ a' w' (hp'.trans p1 p2 p4)
def Rs{rd:Bool}{nt:Nat}{b:Code}{s s':Sg}{e:Exit}(h1:Sound X rd nt b s e s')(he:e≠ .normal):LoopS X rd nt b s e s':=by
 refine⟨1,fun ro hro E hI w0 H U a w Q hS hQ=>?_⟩;rw[xJ];refine h1.2 ro hro E hI w0 H U a w _ hS fun a1 w1 hp=>?_;cases e<;>first|exact absurd rfl he|exact hQ _ _ hp
def OR.poke{Z:QS}{own:Nat->Prop}{w w':World}{H:ak}{U:Bm}{g:Nat}{o:EO}(hw:∀(k:Nat) x,w.heap[k]?=some x->(∀d,x≠ .deferred d)->w'.heap[k]?=some x)(h:OR Z own w H U g o):OR Z own w' H U g o:=by
 cases o with
 |mem e cs fz vs cnt=>exact⟨h.1,fun u p hup=>by
  obtain⟨h1,k,arr,h2,h3,h4,h5,h6⟩:=h.2 u p hup;exact⟨h1,k,arr,h2,h3,h4,hw _ _ h5 (by simp),h6⟩⟩
 |map es ck=>obtain⟨k,ents,h1,h2,h3,h4,h5⟩:=h;exact⟨k,ents,h1,h2,h3,hw _ _ h4 (by simp),h5⟩
 |iter gm since seen last cur=>obtain⟨k,km,sn,h1,h2,h3,h4,h5,h6⟩:=h;exact⟨k,km,sn,h1,h2,h3,h4,hw _ _ h5 (by simp),h6⟩
 |loop busy nt tm ps assign body=>obtain⟨k,L,h1,h2,h3,h4,h5⟩:=h;exact⟨k,L,h1,h2,h3,hw _ _ h4 (by simp),h5⟩
 |hid=>trivial
def ESim.poke{Z:QS}{E:EEnv}{H:ak}{U:Bm}{h:Hp}{w:World}(hS:ESim Z E H U h w){D:Nat}{d d':Option (List Deferred)}(hD:w.heap[D]?=some (.deferred d))(ho:E.own D):ESim Z E H U h (w.putObj D (.deferred d')):=by
 have hw:∀(k:Nat) x,w.heap[k]?=some x->(∀d,x≠ .deferred d)->(w.putObj D (.deferred d')).heap[k]?=some x:=fun k x hk hx=>by
  refine(c8 fun e=>?_).trans hk;subst e;rw[hD] at hk;cases hk;exact hx _ rfl
 refine⟨fun b arr hb=>?_,hS.below.trans ⟨rfl,rfl,rfl,by simp,fun k hk=>c8 fun e=>hk (by rw[e];exact ho)⟩,fun k hk=>hS.lo k (by simpa using hk),hS.ext,fun g o hg=>(hS.obj g o hg).poke hw,fun g u k hk=>?_,hS.inj,hS.hidb⟩
 . obtain⟨t,fr,ht⟩:=hS.has b arr hb;exact⟨t,fr,hw _ _ ht (by simp)⟩
 obtain⟨a,b⟩:=hS.dom g u k hk;exact⟨by simpa using a,b⟩
def Dn{Z:QS}{P:Program}{fn:Func}{tmps:Array Value}{R:Ending->World->Prop}{E:EEnv}{H:ak}{U:Bm}{h:Hp}{w0:World}:∀(M:List Deferred) {w:World},ESim Z E H U h w->MarksOk (mo E w0) M w->MarkSame w0 w->
 (∀w',ESim Z E H U h w'->MarkSame w0 w'->∃v,(results fn tmps).run P w'=.ok v w'/\R (.returned v) w')->LeavesInM (FW none) 0 P fn tmps R M .returning w
 | [],w,hS,_,hm,hk=>hk w hS hm
 |d::M,w,hS,hM,hm,hk=>by
  obtain⟨D,e,ho,hb⟩:=hM.2 d (by simp);have hp:=hM.1;refine⟨by simp,.inl ⟨D,w.putObj D (.deferred none),by rw[e],N0 hb,?_⟩⟩;refine Dn M (hS.poke hb ho.1) ⟨(List.pairwise_cons.1 hp).2,fun d' hd'=>?_⟩ (fun D0 hD0=>?_) hk
  . obtain⟨D',e',ho',hb'⟩:=hM.2 d' (dC _ hd');refine⟨D',e',ho',(c8 fun e0=>(List.pairwise_cons.1 hp).1 d' hd' (by rw[e,e',e0])).trans hb'⟩
  refine(c8 fun e0=>ho.2 (by rw[<-e0];exact hD0)).trans (hm D0 hD0)
def Sd{E:EEnv}{H:ak}{U:Bm}{h:Hp}{w:World}(hS:ESim X.Z E H U h w){t:TypeId}{v:Value}{x r:ES}{ws:Wr}(hx:SRe X.Z H U v x)(he:ke X.T X.Z h t x=some (r,ws)) :
 ∃p u,v=.pointer (some p)/\(loadVar t p).run X.P w=.ok u w/\SRe X.Z H U u r:=by
 unfold ke at he;split at he
 .
  rename_i ty g u off ht;obtain⟨k,hk,hx⟩:=hx;obtain⟨i,d,z,ok⟩:=aT (X.hT t ty ht);split at he
  .
   rename_i cs hrd;rw[dE] at he;obtain⟨k',arr,e,h1,h2,h3,h4,h5,h6⟩:=zy hS hrd;rw[hk] at h1;cases h1;split at he
   .
    rename_i y hv;simp only[ai,aC] at he;obtain⟨rfl,rfl⟩:=he;have hcell:∀j c,((arr.toList.drop off).take ty.size)[j]?=some c->w.cell? ⟨k.1,off+j,none⟩=some c:=fun j c hc=>by
     rw[qD w _ _ arr e (0,0) h2];rw[dt] at hc;split at hc
     . simpa using hc
     simp at hc
    rcases mkV_ok hv h4 with⟨q1,q2⟩|⟨q1,v,q2,q3⟩
    . refine⟨_,.agg ((arr.toList.drop off).take ty.size).toArray,hx,?_,q2⟩;have hl:=NR (P:=X.P) w ⟨k.1,off,none⟩ ((arr.toList.drop off).take ty.size) (fun j c hc=>by rw[eW];exact hcell j c hc);have hlen:((arr.toList.drop off).take ty.size).length=ty.size:=by simp;omega
      rw[hlen] at hl;simp only[loadVar,aw,ok.run_agg,q1,av,bL,ok.run_size,hl,aA]
    refine⟨_,v,hx,?_,q3⟩;have h0:=hcell 0 v (by rw[q2];rfl);rw[fF] at h0;simp only[loadVar,aw,ok.run_agg,q1,av,dB,bM,run_load,h0]
   cases he
  cases he
 .
  rename_i ty y off ht;obtain⟨b,base,u,arr,hxv,hb,h4,h6⟩:=hx;obtain⟨i,d,z,ok⟩:=aT (X.hT t ty ht);obtain⟨e,fr,h5⟩:=hS.has b arr hb;split at he
  .
   rename_i r0 hl;cases hrt:r0.isTup with
   |true=>rw[hrt] at he;cases he
   |false=>
    rw[hrt] at he;simp only[bh,ai,aC] at he;obtain⟨rfl,rfl⟩:=he;obtain⟨v',hr,hu⟩:=sJ ok h5 h4 h6 hl;exact⟨_,v',hxv,hr,Al hu hrt⟩
  cases he
 cases he
def yQ{E:EEnv}{H:ak}{U:Bm}{h:Hp}{w:World}(hS:ESim X.Z E H U h w){tmps:Array Value}{tm:Nat->ES}(hsl:∀t,SRe X.Z H U (tmps.getD t undef) (tm t)):∀{rs:List ResultVar} {xs:List EW},g7 X.T X.Z tm h rs=some xs->
 ∃vs:List Value,(rs.mapM (nn tmps)).run X.P w=.ok vs w/\WRL X.Z H U vs xs
 | [],xs,he=>by
  simp only[g7,ai] at he;subst he;exact⟨[],by simp,aa⟩
 | .tmp t::rs,xs,he=>by
  unfold g7 at he;split at he
  . rename_i x ys hx hr;simp only[ai] at he;subst he;obtain⟨vs,e,Vz9⟩:=yQ hS hsl hr;have hv:=hsl t;rw[hx] at hv;refine⟨tmps.getD t undef::vs,?_,hv,Vz9⟩;simp only[A1,nn,aw,aA,av,e]
  cases he
 | .cell a t::rs,xs,he=>by
  unfold g7 at he;split at he
  . rename_i x ys hx hr;simp only[ai] at he;subst he;obtain⟨vs,e,Vz9⟩:=yQ hS hsl hr;obtain⟨p,u,h1,h2,h3⟩:=Sd hS (hsl a) hx;refine⟨u::vs,?_,h3,Vz9⟩;simp only[A1,nn,h1,asAddr,aw,aA,av,h2,e]
  cases he
def Ks{H:ak}{U:Bm}{vs:List Value}{xs:List EW}(h:WRL X.Z H U vs xs):SRe X.Z H U (if h:vs.toArray.size=1 then vs.toArray[0] else .tuple vs.toArray) (kj xs):=by
 cases vs with
 |nil=>cases xs with
  |nil=>exact⟨[],rfl,aa⟩
  |cons=>exact h.elim
 |cons v vs=>cases xs with
  |nil=>exact h.elim
  |cons x xs=>
   cases vs with
   |nil=>cases xs with
    |nil=>exact h.1
    |cons=>exact h.2.elim
   |cons v' vs=>cases xs with
    |nil=>exact h.2.elim
    |cons x' xs=>
     have:¬(v::v'::vs).toArray.size=1:=by simp
     rw[dif_neg this];exact⟨_,rfl,h⟩
def Ll:∀(xs:List ES) (i:Nat) (t:PT ES) (m:Nat),(rT xs i t).sl m=if i<=m/\m<i+xs.length then xs.getD (m-i) .und else t.sl m
 | [],i,t,m=>by simp[rT];intro h1 h2;omega
 |x::xs,i,t,m=>by
  rw[rT,Ll xs (i+1)];have e:(t.set i x).sl m=if m=i then x else t.sl m:=by
   unfold PT.sl;rw[nV];split<;>rfl
  rw[e];by_cases h1:m=i
  . subst h1;rw[aq (by omega),au rfl,au (by simp)];simp
  rw[aq h1];by_cases h2:i+1<=m/\m<i+1+xs.length
  . rw[au h2,au (by simp;omega)];rw[show m-i=(m-(i+1))+1 by omega];rfl
  rw[aq h2,aq (by simp;omega)]
def JI{F:FuncId->Option FnE}{orc:FuncId->List ES->Hs->Option (ES×Hs)}{ev:Bool->Nat->Code->Sg->Option (Exit×Sg)}(hF:∀f q,F f=some q->∃fn,FnOk X f q fn)(hev:ui X ev):pd X (tS (X.ee F orc) ev):=by
 intro f args s r s' he;unfold tS at he;split at he
 .
  rename_i q hq;obtain⟨fn,ok⟩:=hF f q hq;cases hb:Nat.ble args.length q.nt with
  |false=>rw[hb] at he;cases he
  |true=>
   rw[hb] at he;simp only[al] at he;have hle:=bl hb;have key:∃e s1 xs,(e=.normal\/e=.ret)/\ev false q.nt q.body ⟨rT args 0 .nil,s⟩=some (e,s1)/\g7 X.T X.Z s1.tm.sl s1.s.h.get q.rs=some xs/\r=kj xs/\s'=s1.s:=by
    split at he
    . rename_i s1 hev1;split at he
      . rename_i xs hr;simp only[ai,aC] at he;exact⟨_,s1,xs,.inl rfl,hev1,hr,he.1.symm,he.2.symm⟩
      cases he
    . rename_i s1 hev1;split at he
      . rename_i xs hr;simp only[ai,aC] at he;exact⟨_,s1,xs,.inr rfl,hev1,hr,he.1.symm,he.2.symm⟩
      cases he
    cases he
   obtain⟨e,s1,xs,hne,hev1,hr,rfl,rfl⟩:=key;obtain⟨⟨l1,hsound⟩,_⟩:=hev _ _ _ _ _ _ hev1;refine⟨l1,⟨fn,ok.has,ok.name,by rw[ok.body];rfl⟩,fun E hI H U w vs hS hargs=>?_⟩;have hlen:=hargs.length;refine(xk (n:=0)).1 (xp ok.has ok.body trivial ?_);refine hsound none (fun _=>rfl) E hI w H U _ w _ ⟨⟨hS,fun t=>?_,?_⟩,MarksOk.nil _ _,MarkSame.refl _⟩ fun a0 w1 hp=>?_
   .
    show SRe _ _ _ _ ((rT args 0 .nil).sl t);rw[Ll];by_cases ht:t<args.length
    .
     rw[au ⟨ba _,by omega⟩,uS];obtain⟨v,h1,h2⟩:=hargs.get t (args[t]) (by simp[ht]);have hlt:t<vs.length:=by omega
     have:(vs.toArray++Array.replicate (fn.ntmps-vs.toArray.size) undef).getD t undef=v:=by
      simp[jO,hlt];exact(List.getElem?_eq_some_iff.1 h1).2
     rw[this];have e2:args.getD t .und=args[t]:=by simp[ht]
     rw[e2];exact h2
    rw[aq (by omega)];show _=undef;have hge:¬t<vs.length:=by omega
    simp[jO,hge,xq];split<;>rfl
   . show(vs.toArray++Array.replicate (fn.ntmps-vs.toArray.size) undef).size=q.nt;rw[<-ok.nt] at hle ⊢;simp;omega
   obtain⟨H1,β1,p1,p2,p3,p4⟩:=hp;have fin:LeavesInM (FW none) 0 X.P fn a0.tmps (DM X E H U w s1.s.h.get (kj xs)) a0.defers .returning w1:=by
    refine Dn a0.defers p3.1.sim p3.2.1 p3.2.2 fun w' hS' hm'=>?_;obtain⟨us,e1,Vz9⟩:=yQ hS' p3.1.slot hr;refine⟨(if h:us.toArray.size=1 then us.toArray[0] else .tuple us.toArray),?_,_,H1,β1,rfl,p1,p2,hS',hm',Ks Vz9⟩;unfold results;have e0:(fn.results.mapM fun | .tmp t=>pure (a0.tmps.getD t undef) | .cell a t=>do loadVar t (<- asAddr (a0.tmps.getD a undef)):Sem (Array Value))=List.toArray <$> q.rs.mapM (nn a0.tmps):=by
     rw[FL,ok.rs];rfl
    refine(aL (fun(x:Sem (Array Value))=>(x >>= fun vs=>pure (if h:vs.size=1 then vs[0] else .tuple vs)).run X.P w') e0).trans ?_;simp only[aw,FM,e1,av,aA]
   rcases hne with rfl|rfl
   . exact fin
   exact fin
 cases he
end
section
variable {X:EX}
def ESim.loopPut{E:EEnv}{H:ak}{U:Bm}{h:Hp}{w:World}(hS:ESim X.Z E H U h w){g:Nat}{b:Bool}{nt:Nat}{tm:PT ES}{ps:List Nat}{ax bo:Code}(hg:h g=some (.loop b nt tm ps ax bo)){k:Nat×Nat}(hk:U g 0=some k){L L':Loop}(hw:w.heap[k.1]?=some (.loop L)){o':EO}(hc:o'.cnt=1)
 (ho:OR X.Z E.own (w.putObj k.1 (.loop L')) H U g o'):ESim X.Z E H U (az h g (some o')) (w.putObj k.1 (.loop L'))/\MarkSame w (w.putObj k.1 (.loop L')):=by
 have hn:H k.1=none:=by
  obtain⟨k2,L2,h1,h2,h3,_⟩:=hS.obj g _ hg;rw[hk] at h1;cases h1;exact h3
 refine⟨hS.turn (by rw[hg];simp) rfl rfl rfl (by simp) (fun k' _ hk'=>c8 (fun e=>hk' 0 k hk e.symm)) (fun u s hs=>?_) (BLe.refl _) (fun _ _ _=>rfl) (fun u k' hk'=>?_) ho,fun D hD=>c8 (fun e=>?_)⟩
 . obtain⟨_,_,o2,ho2,hc2⟩:=hS.domN hg (by simp) u s hs;rw[hg] at ho2;cases ho2;have:u=0:=by simp only[EO.cnt] at hc2;omega
   subst this;rw[hk] at hs;cases hs;exact hn
 . obtain⟨a,b,o2,ho2,hc2⟩:=hS.domN hg (by simp) u k' hk';rw[hg] at ho2;cases ho2;exact⟨by rw[hc];exact hc2,by simpa using a,b,.inl ⟨u,k',hk',rfl⟩⟩
 subst e;rw[hw] at hD;cases hD
def IQ{H:ak}{U:Bm}{nt:Nat}:∀{ps:List Nat} {args:List ES} {vs:List Value} {tm tm':PT ES} {tmps:Array Value},rL nt tm ps args=some tm'->SREL X.Z H U vs args->(∀t,SRe X.Z H U (tmps.getD t undef) (tm.sl t))->tmps.size=nt->
 ps.length=args.length/\(∀t,SRe X.Z H U (((ps.zip vs).foldl (fun tmps p=>tmps.setIfInBounds p.1 p.2) tmps).getD t undef) (tm'.sl t))/\((ps.zip vs).foldl (fun tmps p=>tmps.setIfInBounds p.1 p.2) tmps).size=nt
 | [],[],vs,tm,tm',tmps,he,hv,hs,hn=>by
  simp only[rL,ai] at he;subst he;exact⟨rfl,by simpa using hs,by simpa using hn⟩
 | [],_::_,_,_,_,_,he,_,_,_=>by simp[rL] at he
 |_::_,[],_,_,_,_,he,_,_,_=>by simp[rL] at he
 |p::ps,x::args,[],_,_,_,_,hv,_,_=>hv.elim
 |p::ps,x::args,v::vs,tm,tm',tmps,he,hv,hs,hn=>by
  unfold rL at he;cases hb:Nat.blt p nt with
  |false=>rw[hb] at he;cases he
  |true=>
   rw[hb] at he;simp only[al] at he;have hlt:p<nt:=by simpa[dN] using hb
   obtain⟨h1,h2,h3⟩:=IQ (tmps:=tmps.setIfInBounds p v) he hv.2 (fun t=>by
    have e:(tm.set p x).sl t=if t=p then x else tm.sl t:=by
     unfold PT.sl;rw[nV];split<;>rfl
    rw[e];by_cases ht:t=p
    . subst ht;rw[au rfl];have:(tmps.setIfInBounds t v).getD t undef=v:=by simp[Array.getD,hn,hlt]
      rw[this];exact hv.1
    rw[aq ht];have:(tmps.setIfInBounds p v).getD t undef=tmps.getD t undef:=by
     simp only[FB,NO];rw[aq (by omega)]
    rw[this];exact hs t) (by rw[FG];exact hn)
   exact⟨by simp[h1],by simpa using h2,by simpa using h3⟩
def Qp{ev:Bool->Nat->Code->Sg->Option (Exit×Sg)}(hev:ui X ev):rI X (DP ev):=by
 intro g args s s' he;unfold DP at he;split at he
 .
  rename_i nt tm ps assign body hg;split at he
  .
   rename_i tm' hp;split at he
   .
    rename_i s1 he1;split at he
    .
     rename_i nt1 tm1 ps1 as1 bo1 hg1;split at he
     .
      rename_i s2 he2;split at he
      .
       rename_i nt2 tm2 ps2 as2 bo2 hg2;simp only[ai] at he;subst he;obtain⟨⟨l1,snd1⟩,_⟩:=hev _ _ _ _ _ _ he1;obtain⟨⟨l2,snd2⟩,_⟩:=hev _ _ _ _ _ _ he2;refine⟨((l1.trans (LogOk.put _ _ _)).trans l2).trans (LogOk.put _ _ _),fun ro E hI H U w vs k hS hargs hk=>?_⟩;obtain⟨k0,L,o1,o2,o3,o4,o5,o6,o8,o9,w7,w6,Fs⟩:=hS.obj g _ hg;rw[hk] at o1;cases o1;simp only[dB,bM] at o5;obtain⟨q1,q2,q3⟩:=IQ (X:=X) (H:=H) (U:=U) (vs:=vs) (tmps:=L.tmps) hp hargs Fs o8;have hlen:=hargs.length;have hsz:vs.toArray.size=L.params.size:=by
        rw[<-o9] at q1;simp at q1;simp;omega
       have etm:(L.params.zip vs.toArray).foldl (fun tmps (t,a)=>tmps.setIfInBounds t a) L.tmps=(ps.zip vs).foldl (fun tmps p=>tmps.setIfInBounds p.1 p.2) L.tmps:=by
        rw[<-Array.foldl_toList,Array.toList_zip,o9]
       refine⟨L.fn,_,L.assign,L.body,run_yield o4 hsz,roundIn_of_wpIn trivial ?_⟩;rw[w7,w6,etm];refine snd1 (some k.1) (fun e=>by cases e) E hI w H U _ w _ ⟨⟨hS,q2,q3⟩,MarksOk.nil _ _,MarkSame.refl _⟩ fun a1 w1 hp1=>?_;obtain⟨H1,β1,p1,p2,p3,p4⟩:=hp1;have hk1:β1 g 0=some k:=p2 _ _ _ hk;obtain⟨k0,L1,u1,u2,u3,u4,u5,u6,u8,u9,u10,u11,u12⟩:=p3.1.sim.obj g _ hg1;rw[hk1] at u1;cases u1;simp only[dB,bM] at u5;refine⟨_,run_beginRound u4 u5,?_⟩;have hlt1:=(Array.getElem?_eq_some_iff.1 u4).1;obtain⟨t1,t2⟩:=p3.1.sim.loopPut hg1 hk1 u4 (L':={ L1 with state:=.busy }) (o':=.loop true nt1 tm1 ps1 as1 bo1) rfl
        ⟨k,{ L1 with state:=.busy },hk1,u2,u3,xt hlt1,by simp,u6,u8,u9,u10,u11,u12⟩
       have hm2:MarkSame w (w1.putObj k.1 (.loop { L1 with state:=.busy })):=p4.trans t2;refine snd2 (some k.1) (fun e=>by cases e) E hI w H1 β1 a1 _ _ ⟨⟨by rw[yc];exact t1,p3.1.slot,p3.1.size⟩,p3.2.1.keep t2,hm2⟩ fun a2 w3 hp2=>?_;obtain⟨H3,β3,r1,r2,r3,r4⟩:=hp2;have hk3:β3 g 0=some k:=r2 _ _ _ hk1;obtain⟨k0,L3,v1,v2,v3,v4,v5,v6,v8,v9,v10,v11,v12⟩:=r3.1.sim.obj g _ hg2;rw[hk3] at v1;cases v1;refine⟨_,_,run_endRound none v4,?_⟩;have hlt3:=(Array.getElem?_eq_some_iff.1 v4).1;obtain⟨t3,t4⟩:=r3.1.sim.loopPut hg2 hk3 v4 (L':={ L3 with state:=if(none:Option Code).isNone then .ready else .done,pending:=none }) (o':=.loop false nt2 tm2 ps2 as2 bo2) rfl
        ⟨k,{ L3 with state:=if(none:Option Code).isNone then .ready else .done,pending:=none },hk3,v2,v3,xt hlt3,by simp,rfl,v8,v9,v10,v11,v12⟩
       refine⟨.bool true,H3,β3,rfl,p1.trans r1,p2.trans r2,by rw[yc];exact t3,(hm2.trans r4).trans t4,⟨rfl,VR.bool _⟩⟩
      cases he
     cases he
    cases he
   cases he
  cases he
 cases he
def QE{F:FuncId->Option FnE}{orc:FuncId->List ES->Hs->Option (ES×Hs)}{ev:Bool->Nat->Code->Sg->Option (Exit×Sg)}(hF:∀f q,F f=some q->∃fn,FnOk X f q fn)(hev:ui X ev){nt:Nat}{g:Operand}{ps:Array Tmp}{assign body:Code}{s s':Sg}
 (he:D1 (X.ee F orc) ev nt (am s.tm.sl g) ps.toList assign body s=some s'):Sound X false nt (.rangeFunc g ps assign body) s .normal s':=by
 unfold D1 at he;split at he
 .
  rename_i hgl;rw[bz,bz] at he;simp only at he;have key:∃f gs r hs' b' nt' tm' ps' as' bo',CapF (am s.tm.sl g) f gs/\tS (X.ee F orc) ev f (.w (.one (.yld s.s.nx))::gs) ⟨s.s.h.set s.s.nx (.loop false nt s.tm ps.toList assign body),s.s.nx+1,s.s.nx::s.s.wl⟩=some (r,hs')/\
   hs'.h.get s.s.nx=some (.loop b' nt' tm' ps' as' bo')/\b'=false/\s'=⟨s.tm,hs'.put s.s.nx .hid⟩:=by
   split at he
   .
    rename_i r hs' hcall;split at he
    .
     rename_i nt' tm' ps' as' bo' hl;simp only[ai] at he;split at hcall
     . rename_i f gs hf;exact⟨f,ud gs,r,hs',_,nt',tm',ps',as',bo',.inr (.inl ⟨gs,hf,rfl⟩),hcall,hl,rfl,he.symm⟩
     . rename_i f hf;exact⟨f,[],r,hs',_,nt',tm',ps',as',bo',.inl ⟨hf,rfl⟩,hcall,hl,rfl,he.symm⟩
     cases hcall
    cases he
   cases he
  obtain⟨f,gs,r,hs',b',nt',tm',ps',as',bo',hf,hcall,hl,rfl,rfl⟩:=key;obtain⟨l1,⟨⟨fn',hf1,hf2,hf3⟩,hcl⟩⟩:=JI hF hev _ _ _ _ _ hcall;have l0:LogOk s.s ⟨s.s.h.set s.s.nx (.loop false nt s.tm ps.toList assign body),s.s.nx+1,s.s.nx::s.s.wl⟩:=LogOk.wr s.s [(s.s.nx,.loop false nt s.tm ps.toList assign body)] _;refine⟨(l0.trans l1).trans (LogOk.put _ _ _),fun ro hro E hI w0 H U a w Q hS hQ=>?_⟩;rw[hro rfl];refine wpIn_rangeFunc fun fn _=>?_
  let L:Loop:={ state:=.ready,pending:=none,fn,tmps:=a.tmps,params:=ps,assign,body,defers:=w.heap.size }
  let wd:World:=w.alloc (.deferred (some []))
  let w1:World:=wd.alloc (.loop L)
  have hbd:Below w.heap.size w wd:=(kA _ _).alloc (ah _) _;have hszd:wd.heap.size=w.heap.size+1:=by simp[wd]
  have S1:ESim X.Z E H U s.s.h.get wd:=hS.1.sim.grow hbd (fun b arr hb=>by
   obtain⟨t,fr,ht⟩:=hS.1.sim.has b arr hb;exact⟨t,fr,(hbd.block b (hS.1.sim.has.lt hb)).trans ht⟩) (HExt.refl _ _)
  have hnew:H wd.heap.size=none:=by
   cases hx:H wd.heap.size with
   |none=>rfl
   |some arr'=>have:=S1.has.lt hx;omega
  obtain⟨hb1,S2⟩:=S1.alloc hgl (b:=.loop L) (s:=0) (o:=.loop false nt s.tm ps.toList assign body) Nat.one_pos
   ⟨_,L,fH _ _ _ _,S1.lo _ (ah _),hnew,nK _ _,by simp[L],rfl,hS.1.size,rfl,rfl,rfl,fun t=>(hS.1.slot t).mono (HLe.refl _) (kI (S1.noB hgl 0))⟩
  have hbe:Below wd.heap.size wd w1:=(kA _ _).alloc (ah _) _;have hm1:MarkSame w w1:=(MarkSame.below hbd).trans (MarkSame.below hbe);have hD1:w1.heap[w.heap.size]?=some (.deferred (some [])) :=
   (Below.heap_alloc wd _ w.heap.size (by omega)).trans (N1 w _)
  obtain⟨cs,e1,hcs⟩:=hf.ok (bF hS.1 g);have hyv:SRe X.Z H (mh U s.s.nx 0 (wd.heap.size,0)) (kL (w.heap.size+1)) (.w (.one (.yld s.s.nx))):=⟨_,fH _ _ _ _,by rw[hszd];rfl⟩;have eh:(⟨s.s.h.set s.s.nx (.loop false nt s.tm ps.toList assign body),s.s.nx+1,s.s.nx::s.s.wl⟩:Hs).h.get=az s.s.h.get s.s.nx (some (.loop false nt s.tm ps.toList assign body)):=yc s.s s.s.nx _;have hc:=hcl E hI H _ w1 (kL (w.heap.size+1)::cs) (by rw[eh];exact S2) ⟨hyv,hcs.mono (HLe.refl _) hb1⟩;refine⟨w.heap.size+1,[{ target:=.collected w.heap.size,args := #[] }],w1,{ target:=.fn (.func f) cs.toArray,args := #[kL (w.heap.size+1)] },w1,f,(kL (w.heap.size+1)::cs).toArray,w1,?_,?_,fun _ _=>trivial,?_,fun e=>(by cases e),?_⟩
  . exact run_enterLoop_outer fn a.tmps ps assign body
  . simp only[resolve,rangeCall,e1,Deferred.ofValue,aA];simp[Act.eval,kL]
  . simp only[invoke,callFunc,aw,uN,av,hf1,hf2,hf3,dB,bM,aA];congr 2;apply fc;simp
  refine Mb (hc.mono ?_);rintro e w3 ⟨v,H3,β3,rfl,c1,c2,c3,c4,c5⟩;have hk3:β3 s.s.nx 0=some (wd.heap.size,0):=c2 _ _ _ (fH _ _ _ _);obtain⟨k0,L3,v1,v2,v3,v4,v5,v6,v8,v9,v10,v11,v12⟩:=c3.obj _ _ hl;rw[hk3] at v1;cases v1;simp only[dB,bM] at v5;have v4':w3.heap[w.heap.size+1]?=some (.loop L3):=by rw[<-hszd];exact v4
  refine⟨L3.pending,_,run_endLoop v4' (by rw[v5];simp),?_⟩;have hpn:L3.pending=none:=by
   cases hx:L3.pending with
   |none=>rfl
   |some c=>rw[hx] at v6;cases v6
  rw[hpn];obtain⟨t1,t2⟩:=c3.loopPut hl hk3 v4 (L':={ L3 with state:=.exhausted }) (o':=.hid) rfl trivial;rw[hszd] at t1 t2;have hm4:MarkSame w (w3.putObj (w.heap.size+1) (.loop { L3 with state:=.exhausted })):=(hm1.trans c4).trans t2;have hb3:BLe U β3:=hb1.trans c2;refine hQ _ _ ⟨H3,β3,c1,hb3,⟨⟨by rw[yc];rw[hpn] at t1;exact t1,fun t=>(hS.1.slot t).mono c1 hb3,hS.1.size⟩,⟨?_,?_⟩,by rw[hpn] at hm4;exact hS.2.2.trans hm4⟩,by rw[hpn] at hm4;exact hm4⟩
  . refine List.pairwise_cons.2 ⟨fun d hd e=>?_,hS.2.1.1⟩;obtain⟨D,e',_,hb⟩:=hS.2.1.2 d hd;rw[<-e] at e';cases e';have:=(Array.getElem?_eq_some_iff.1 hb).1;omega
  intro d hd;rcases List.mem_cons.1 hd with rfl|hd
  . refine⟨_,rfl,⟨hS.1.sim.lo _ (ah _),fun e=>?_⟩,?_⟩
    . have:=hS.2.2 _ e;rw[e] at this;have:=(Array.getElem?_eq_some_iff.1 this).1;omega
    refine(c8 (by omega)).trans ?_;rw[c4 _ hD1];exact hD1
  rw[hpn] at hm4;exact(hS.2.1.keep hm4).2 d hd
 cases he
def RH{F:FuncId->Option FnE}{orc:FuncId->List ES->Hs->Option (ES×Hs)}{ev:Bool->Nat->Code->Sg->Option (Exit×Sg)}(hF:∀f q,F f=some q->∃fn,FnOk X f q fn)(horc:jv X orc)(hev:ui X ev):ui X (EA (X.ee F orc) ev):=by
 intro rd nt c s e s' he;unfold EA at he;split at he
 . simp only[ai,aC] at he;obtain⟨rfl,rfl⟩:=he;exact⟨⟨LogOk.refl _,fun ro hro E hI w0 H U a w Q hS hQ=>wpIn_skip (hQ a w (EPost.refl hS))⟩,fun b hb=>by cases hb⟩
 . simp only[ai,aC] at he;obtain⟨rfl,rfl⟩:=he;exact⟨⟨LogOk.refl _,fun ro hro E hI w0 H U a w Q hS hQ=>wpIn_label (hQ a w (EPost.refl hS))⟩,fun b hb=>by cases hb⟩
 . simp only[ai,aC] at he;obtain⟨rfl,rfl⟩:=he;exact⟨⟨LogOk.refl _,fun ro hro E hI w0 H U a w Q hS hQ=>wpIn_ret (hQ a w (EPost.refl hS))⟩,fun b hb=>by cases hb⟩
 . simp only[ai,aC] at he;obtain⟨rfl,rfl⟩:=he;exact⟨⟨LogOk.refl _,fun ro hro E hI w0 H U a w Q hS hQ=>wpIn_exit (hQ a w (EPost.refl hS))⟩,fun b hb=>by cases hb⟩
 . refine⟨?_,fun b hb=>by cases hb⟩;split at he
   . rename_i s1 h1;exact(hev _ _ _ _ _ _ h1).1.seq (hev _ _ _ _ _ _ he).1
   rename_i hn;refine(hev _ _ _ _ _ _ he).1.seqX fun e'=>?_;subst e';exact hn _ he
 .
  refine⟨?_,fun b hb=>by cases hb⟩;split at he
  . rename_i hc;exact Sound.cond hc (hev _ _ _ _ _ _ he).1
  . rename_i hc;exact Sound.cond hc (hev _ _ _ _ _ _ he).1
  cases he
 .
  refine⟨?_,fun b hb=>by cases hb⟩;rename_i id b;split at he
  .
   rename_i i s1 h1;have hs:=(hev _ _ _ _ _ _ h1).1.block (id:=id);simp only at hs;cases hb:Nat.beq i id with
   |true=>
    rw[hb] at he hs;simp only[al,ai,aC] at he hs;obtain⟨rfl,rfl⟩:=he;exact hs
   |false=>
    rw[hb] at he hs;simp only[bh,ai,aC] at he hs;obtain⟨rfl,rfl⟩:=he;exact hs
  rename_i hn;have hs:=(hev _ _ _ _ _ _ he).1.block (id:=id);cases e with
  |exit i=>exact absurd he (hn i s')
  |_=>exact hs
 .
  rename_i b;have key:LogOk s.s s'.s/\LoopS X rd nt b s e s':=by
   split at he
   . rename_i s1 h1;have a1:=(hev _ _ _ _ _ _ h1).1;have a2:=hev _ _ _ _ _ _ he;exact⟨a1.1.trans a2.1.1,Qk a1 (a2.2 b rfl)⟩
   rename_i hn;have a1:=(hev _ _ _ _ _ _ he).1;exact⟨a1.1,Rs a1 fun e'=>by subst e';exact hn _ he⟩
  exact⟨O1 key.1 key.2,fun b' hb=>by cases hb;exact key.2⟩
 . refine⟨?_,fun b hb=>by cases hb⟩;split at he
   . rename_i s1 h1;simp only[ai,aC] at he;obtain⟨rfl,rfl⟩:=he;exact Sx horc (JI hF hev) (Qp hev) h1
   cases he
 .
  refine⟨?_,fun b hb=>by cases hb⟩;split at he
  . split at he
    . rename_i s1 h1;simp only[ai,aC] at he;obtain⟨rfl,rfl⟩:=he;exact QE hF hev h1
    cases he
  cases he
 cases he
def Wz{F:FuncId->Option FnE}{orc:FuncId->List ES->Hs->Option (ES×Hs)}(hF:∀f q,F f=some q->∃fn,FnOk X f q fn)(horc:jv X orc):∀n,ui X (AO (X.ee F orc) n):=by
 intro n;induction n with
 |zero=>intro rd nt c s e s' he;cases he
 |succ n ih=>exact RH hF horc ih
end
end Go.Proofs.En
