/-
  For every list of rules, every number of variables and every level the statement RegionSparse holds: the sparse rule is the reference's, or the error is.
-/
import Derived.WalkKit
import Derived.Lib.FrozenHead2
set_option linter.all false
namespace Go.Proofs
open Go
abbrev AU:=@List.getElem?_set
abbrev AV:=@getElem!_pos
abbrev AW:=@List.eq_of_mem_replicate
abbrev AX:=@Nat.ne_of_beq_eq_false
abbrev AY:=@List.any_eq_false
abbrev FB:=@Array.getD_eq_getD_getElem?
abbrev FC:=@Go.run_storeCells_at
abbrev FD:=@List.mem_or_eq_of_mem_set
abbrev FE:=@Nat.add_mod_right
abbrev FF:=@List.getElem?_range
abbrev FG:=@Array.size_setIfInBounds
abbrev NO:=@Array.getElem?_setIfInBounds
abbrev NP:=@List.drop_append
abbrev NQ:=@List.take_append
abbrev NR:=@Go.run_loadCells_list
abbrev NS:=@Array.toList_extract
abbrev NT:=@List.extract_eq_take_drop
abbrev NU:=@Go.grownCap_le_maxLen
abbrev NV:=@List.mem_toArray
abbrev a8:=@Nat.zero_add
abbrev aA:=@Go.Sem.run_pure
abbrev aB:=@Nat.eq_of_beq_eq_true
abbrev aC:=@Prod.mk.injEq
abbrev aH:=@Bool.and_eq_true
abbrev aY:=@List.length_cons
abbrev aZ:=@List.map_cons
abbrev ah:=@Nat.le_refl
abbrev ai:=@Option.some.injEq
abbrev al:=@cond_true
abbrev aq:=@if_neg
abbrev au:=@if_pos
abbrev av:=@Go.Result.andThen_ok
abbrev aw:=@Go.Sem.run_bind
abbrev ay:=@List.take_of_length_le
abbrev bD:=@Nat.beq_refl
abbrev bG:=@List.length_take
abbrev bI:=@List.getElem?_map
abbrev bL:=@if_true
abbrev bM:=@if_false
abbrev bN:=@List.mem_of_getElem?
abbrev bQ:=@Nat.add_mul
abbrev bW:=@List.drop_zero
abbrev ba:=@Nat.zero_le
abbrev bf:=@Nat.le_trans
abbrev bg:=@List.length_append
abbrev bh:=@cond_false
abbrev bi:=@List.getElem?_eq_getElem
abbrev bl:=@Nat.le_of_ble_eq_true
abbrev cB:=@List.take_take
abbrev cC:=@List.map_map
abbrev cL:=@Nat.mul_le_mul_right
abbrev ce:=@Nat.min_eq_left
abbrev dB:=@Bool.false_eq_true
abbrev dC:=@List.mem_cons_of_mem
abbrev dI:=@List.append_assoc
abbrev dY:=@List.mem_of_mem_take
abbrev dq:=@Go.run_underlying
abbrev dt:=@List.getElem?_take
abbrev du:=@List.length_set
abbrev eB:=@Nat.mul_one
abbrev eP:=@List.map_nil
abbrev eS:=@List.append_nil
abbrev fC:=@Array.length_toList
abbrev fD:=@List.mem_cons
abbrev fE:=@Option.map_some
abbrev fF:=@Nat.add_zero
abbrev fc:=@Array.ext'
abbrev ff:=@decide_eq_true_eq
abbrev gA:=@Nat.mod_eq_of_lt
abbrev gS:=@List.drop_eq_getElem_cons
abbrev gb:=@Nat.lt_or_ge
abbrev gz:=@Bool.not_eq_true'
abbrev hX:=@Nat.mul_le_mul_left
abbrev iV:=@List.foldl_cons
abbrev iW:=@Bool.or_eq_true
abbrev ia:=@Classical.byContradiction
abbrev iw:=@List.getElem_mem
abbrev jI:=@List.map_congr_left
abbrev jJ:=@List.take_append_of_le_length
abbrev jK:=@List.mem_of_mem_drop
abbrev jL:=@Nat.le_of_eq
abbrev jM:=@List.map_toArray
abbrev kA:=@Go.RowKit.Below.refl
abbrev kB:=@Int.natCast_mul
abbrev kz:=@Nat.lt_of_succ_le
abbrev lC:=@List.cons_append
abbrev lD:=@List.size_toArray
abbrev mG:=@Nat.add_assoc
abbrev mH:=@List.drop_take
abbrev mL:=@Int.toNat_natCast
abbrev mM:=@Nat.sub_self
abbrev nJ:=@Nat.one_mul
abbrev nK:=@Go.heap_alloc_new
abbrev nL:=@Go.run_newObj
abbrev nM:=@Go.setRow_other
abbrev nN:=@Nat.zero_mul
abbrev nO:=@List.length_drop
abbrev oD:=@List.drop_drop
abbrev oE:=@List.drop_of_length_le
abbrev oF:=@List.length_nil
abbrev oG:=@List.getElem?_cons_zero
abbrev qA:=@List.replicate_succ
abbrev qB:=@List.mem_append
abbrev qD:=@Go.cell_of_row
abbrev qE:=@List.ext_getElem?
abbrev qF:=@Go.run_sliceBound
abbrev qG:=@Array.toList_append
abbrev qH:=@List.mem_cons_self
abbrev sk:=@List.getElem?_drop
abbrev sq:=@List.getElem?_eq_none
abbrev sr:=@List.getElem?_toArray
abbrev ss:=@List.eq_nil_of_length_eq_zero
abbrev uG:=@Nat.add_comm
abbrev uH:=@not_true_eq_false
abbrev uI:=@Nat.sub_mul
abbrev uJ:=@List.foldl_nil
abbrev uK:=@Array.getElem?_toList
abbrev uL:=@Go.setRow_heap
abbrev uM:=@Int.le_refl
abbrev uN:=@Go.run_program
abbrev xd:=@List.getElem?_append
abbrev xe:=@Bool.false_or
abbrev xf:=@and_self
abbrev xg:=@Option.map_none
abbrev xh:=@Go.grownCap_ge
abbrev xi:=@Array.size_append
abbrev xj:=@List.mem_map
end Go.Proofs
namespace Go.Proofs
def aa:True:=trivial
end Go.Proofs
namespace Go.Proofs.Fl
open Go.RowKit
inductive IV where
 |bool (b:Bool)
 |int (k:IntKind) (n:Int)
 |str (s:List UInt8)
 |fn (f:FuncId)
 |nil (k:Nat)
 |sl (es:List IV)
 |agg (cs:List IV)
 |tup (vs:List IV)
 |val (v:Value)
 |sv (p off n cap:Nat)
 deriving Inhabited
def IV.cells:IV->List IV
 | .agg cs=>cs
 |x=>[x]
def IV.isTup:IV->Bool
 | .tup _=>true
 |_=>false
def IV.isAgg:IV->Bool
 | .agg _=>true
 |_=>false
abbrev ak:=Nat->Option (Array Value)
def HLe(H H':ak):Prop:=∀b arr,H b=some arr->H' b=some arr
def HLe.refl(H:ak):HLe H H:=fun _ _ h=>h
def HLe.trans{A B C:ak}(h:HLe A B)(k:HLe B C):HLe A C:=fun b arr e=>k b arr (h b arr e)
def HExt(n:Nat)(H H':ak):Prop:=HLe H H'/\∀b arr,H' b=some arr->H b=some arr\/n<=b
def HExt.refl(n:Nat)(H:ak):HExt n H H:=⟨HLe.refl H,fun _ _ h=>.inl h⟩
structure BelowO(own:Nat->Prop)(w w':World):Prop where
 os:w'.os=w.os
 tape:w'.tape=w.tape
 output:w'.output=w.output
 size:w.heap.size<=w'.heap.size
 block:∀k,¬own k->w'.heap[k]?=w.heap[k]?
def BelowO.refl(own:Nat->Prop)(w:World):BelowO own w w:=⟨rfl,rfl,rfl,ah _,fun _ _=>rfl⟩
def BelowO.trans{own:Nat->Prop}{a b c:World}(h:BelowO own a b)(k:BelowO own b c):BelowO own a c :=
 ⟨k.os.trans h.os,k.tape.trans h.tape,k.output.trans h.output,bf h.size k.size,fun i hi=>(k.block i hi).trans (h.block i hi)⟩
def BelowO.of{own:Nat->Prop}{n:Nat}{w w':World}(h:Below n w w')(ho:∀k,n<=k->own k):BelowO own w w' :=
 ⟨h.os,h.tape,h.output,h.size,fun k hk=>h.block k (by
  rcases gb k n with h'|h'
  . exact h'
  exact absurd (ho k h') hk)⟩
def BelowO.mono{own own':Nat->Prop}{w w':World}(h:BelowO own w w')(hs:∀k,own k->own' k):BelowO own' w w' :=
 ⟨h.os,h.tape,h.output,h.size,fun k hk=>h.block k (fun e=>hk (hs k e))⟩
def BelowO.below{n:Nat}{w w':World}(h:BelowO (fun k=>n<=k) w w'):Below n w w' :=
 ⟨h.os,h.tape,h.output,h.size,fun k hk=>h.block k (by omega)⟩
def HExtO(own:Nat->Prop)(H H':ak):Prop:=HLe H H'/\∀b arr,H' b=some arr->H b=some arr\/own b
def HExtO.refl(own:Nat->Prop)(H:ak):HExtO own H H:=⟨HLe.refl H,fun _ _ h=>.inl h⟩
def HExtO.step{own own':Nat->Prop}{A B C:ak}(h:HExtO own A B)(k:HExtO own' B C)(hm:∀k,own' k->own k):HExtO own A C :=
 ⟨h.1.trans k.1,fun b arr e=>(k.2 b arr e).elim (fun x=>h.2 b arr x) (fun x=>.inr (hm b x))⟩
def aX(vs:List Value):List Value:=vs.flatMap fun v=>v.cells.toList
mutual
inductive VR(H:ak):Value->IV->Prop
 |bool (b:Bool):VR H (.bool b) (.bool b)
 |int (k:IntKind) (n:Int):VR H (.int k n) (.int k n)
 |str (s:ByteArray) (l:List UInt8) (h:s.data.toList=l):VR H (.string s) (.str l)
 |fn (f:FuncId):VR H (.func (.func f) #[] #[]) (.fn f)
 |nilI:VR H .nilIface (.nil 0)
 |nilF:VR H .nilFunc (.nil 1)
 |nilP:VR H (.pointer none) (.nil 2)
 |nilS:VR H (.slice none 0 0) (.nil 3)
 |sl0 (a:Option Addr) (cap:Nat):VR H (.slice a 0 cap) (.sl [])
 |sl (b off n cap sz:Nat) (arr:Array Value) (vs:List Value) (es:List IV) (hb:H b=some arr) (hs:VRL H vs es) (hn:n=es.length) (hc:n<=cap)
  (hz:∀v∈vs,v.cells.size=sz) (ha:(arr.toList.drop off).take (vs.length*sz)=aX vs):VR H (.slice (some ⟨b,off,none⟩) n cap) (.sl es)
 |agg (vs:List Value) (cs:List IV) (hs:VRL H vs cs) (h1:∀v∈vs,v.oneCell'=true):VR H (.agg vs.toArray) (.agg cs)
 |tup (vs:List Value) (xs:List IV) (hs:VRL H vs xs):VR H (.tuple vs.toArray) (.tup xs)
 |val (f:FuncId) (b:Array Value):VR H (.func (.func f) #[] b) (.val (.func (.func f) #[] b))
 |sv (p off n cap:Nat):VR H (.slice (some ⟨p,off,none⟩) n cap) (.sv p off n cap)
inductive VRL(H:ak):List Value->List IV->Prop
 |nil:VRL H [] []
 |cons (v:Value) (x:IV) (vs:List Value) (xs:List IV) (h:VR H v x) (t:VRL H vs xs):VRL H (v::vs) (x::xs)
end
def VR.mono{H H':ak}(hh:HLe H H'){v:Value}{x:IV}(h:VR H v x):VR H' v x :=
 VR.rec (motive_1:=fun v x _=>VR H' v x) (motive_2:=fun vs xs _=>VRL H' vs xs)
  (fun b=>.bool b) (fun k n=>.int k n) (fun s l h=>.str s l h) (fun f=>.fn f) .nilI .nilF .nilP .nilS (fun a c=>.sl0 a c)
  (fun b off n cap sz arr vs es hb _ hn hc hz ha ih=>.sl b off n cap sz arr vs es (hh _ _ hb) ih hn hc hz ha)
  (fun vs cs _ h1 ih=>.agg vs cs ih h1) (fun vs xs _ ih=>.tup vs xs ih) (fun f b=>.val f b) (fun p o n c=>.sv p o n c)
  .nil (fun v x vs xs _ _ h t=>.cons v x vs xs h t) h
def VRL.mono{H H':ak}(hh:HLe H H'):∀{vs:List Value} {xs:List IV},VRL H vs xs->VRL H' vs xs
 |_,_,.nil=>.nil
 |_,_,.cons v x vs xs h t=>.cons v x vs xs (h.mono hh) (t.mono hh)
def VRL.length{H:ak}:∀{vs:List Value} {xs:List IV},VRL H vs xs->vs.length=xs.length
 |_,_,.nil=>rfl
 |_,_,.cons _ _ _ _ _ t=>by simp[t.length]
def VRL.get{H:ak}:∀{vs:List Value} {xs:List IV},VRL H vs xs->∀(i:Nat) (x:IV),xs[i]?=some x->∃v,vs[i]?=some v/\VR H v x
 |_,_,.nil,i,x,h=>by simp at h
 |_,_,.cons v y vs xs hv t,0,x,h=>by simp at h;subst h;exact⟨v,rfl,hv⟩
 |_,_,.cons v y vs xs hv t,i+1,x,h=>by simp at h;simpa using t.get i x h
def VRL.drop{H:ak}:∀{vs:List Value} {xs:List IV} (n:Nat),VRL H vs xs->VRL H (vs.drop n) (xs.drop n)
 |_,_,0,h=>by simpa using h
 |_,_,n+1,.nil=>by simpa using VRL.nil
 |_,_,n+1,.cons v y vs xs hv t=>by simpa using t.drop n
def VRL.take{H:ak}:∀{vs:List Value} {xs:List IV} (n:Nat),VRL H vs xs->VRL H (vs.take n) (xs.take n)
 |_,_,0,_=>by simpa using VRL.nil
 |_,_,n+1,.nil=>by simpa using VRL.nil
 |_,_,n+1,.cons v y vs xs hv t=>by simpa using VRL.cons v y _ _ hv (t.take n)
def VRL.append{H:ak}:∀{vs:List Value} {xs:List IV} {us:List Value} {ys:List IV},VRL H vs xs->VRL H us ys->VRL H (vs++us) (xs++ys)
 |_,_,_,_,.nil,h=>by simpa using h
 |_,_,_,_,.cons v y vs xs hv t,h=>by simpa using VRL.cons v y _ _ hv (t.append h)
def VRL.set{H:ak}:∀{vs:List Value} {xs:List IV} (i:Nat) {u:Value} {y:IV},VRL H vs xs->VR H u y->VRL H (vs.set i u) (xs.set i y)
 |_,_,_,_,_,.nil,_=>by simpa using VRL.nil
 |_,_,0,_,_,.cons v y vs xs hv t,h=>by simpa using VRL.cons _ _ _ _ h t
 |_,_,i+1,_,_,.cons v y vs xs hv t,h=>by simpa using VRL.cons _ _ _ _ hv (t.set i h)
def VRL.replicate{H:ak}{v:Value}{x:IV}(h:VR H v x):∀n,VRL H (List.replicate n v) (List.replicate n x)
 |0=>.nil
 |n+1=>by simpa[qA] using VRL.cons _ _ _ _ h (VRL.replicate h n)
def VR.cells{H:ak}{v:Value}{x:IV}(h:VR H v x):VRL H v.cells.toList x.cells:=by
 cases h with
 |agg vs cs hs h1=>simpa[Value.cells,IV.cells] using hs
 |_=>exact .cons _ _ _ _ (by constructor<;>assumption) .nil
def VR.one{H:ak}{v:Value}{x:IV}(h:VR H v x)(ht:x.isTup=false):∀c∈v.cells.toList,c.oneCell'=true:=by
 cases h with
 |agg vs cs hs h1=>simpa[Value.cells] using h1
 |tup=>simp[IV.isTup] at ht
 |_=>intro c hc;simp[Value.cells] at hc;subst hc;rfl
def VR.size{H:ak}{v:Value}{x:IV}(h:VR H v x):v.cells.size=x.cells.length:=by
 have:=h.cells.length;simpa using this
def VR.of_one{H:ak}{v:Value}{x:IV}(h:VR H v x)(hv:v.oneCell'=true):v.cells = #[v]/\x.cells=[x]:=by
 cases h<;>first|(simp[Value.oneCell'] at hv;done)|exact⟨rfl,rfl⟩
inductive SV where
 |unk
 |und
 |iv (x:IV)
 |nilS
 |ptr (g off:Nat)
 |ref (g off n:Nat) (full:Bool)
 |iptr (x:IV) (off:Nat)
 |eptr (g i off:Nat)
 |clo (f:FuncId) (gs:List Nat)
 |yld (l:Nat)
 |val (v:Value)
 |slN (n:Nat)
 |cv (v:Value) (f:FuncId) (gs:List Nat)
 deriving Inhabited
inductive Ow where
 |str (s:List UInt8)
 |row (v:Option Value) (cs:List IV) (j:Nat) (e:TypeId) (sz:Nat) (es:List IV)
def Ow.j:Ow->Nat
 | .str _=>1
 | .row _ _ j _ _ _=>j
inductive Bx where
 |var (x:IV)
 |arr (e:TypeId) (sz:Nat) (es:List IV) (fz:Bool)
 |bld (o:Ow)
 |arrN (p:Nat) (e:TypeId) (sz:Nat) (es:List IV)
 |dead
structure AS where
 tm:Nat->SV
 bx:Nat->Option Bx
 nx:Nat
def az{α:Type}(f:Nat->α)(k:Nat)(v:α)(t:Nat):α:=bif Nat.beq t k then v else f t
def a6{α:Type}(f:Nat->α)(k:Nat)(v:α):az f k v k=v:=by simp[az,bD]
def aI{α:Type}(f:Nat->α)(k:Nat)(v:α){t:Nat}(h:t≠k):az f k v t=f t:=by
 have:Nat.beq t k=false:=by rw[<-Bool.not_eq_true,Nat.beq_eq];exact h
 simp[az,this]
def HeapHas(w:World)(H:ak):Prop:=∀b arr,H b=some arr->∃e fr,w.heap[b]?=some (.cells arr e fr)
def HeapHas.lt{w:World}{H:ak}(h:HeapHas w H){b:Nat}{arr:Array Value}(hb:H b=some arr):b<w.heap.size:=by
 obtain⟨e,fr,he⟩:=h b arr hb;exact(Array.getElem?_eq_some_iff.1 he).1
def SR(H:ak)(U:Nat->Nat×Nat)(bx:Nat->Option Bx)(v:Value):SV->Prop
 | .unk=>True
 | .und=>v=undef
 | .iv x=>VR H v x
 | .nilS=>v=.slice none 0 0
 | .ptr g off=>bx g≠none/\v=.pointer (some ⟨(U g).1,off,none⟩)
 | .ref g off n full=>match bx g with
  |some (.arr _ sz es _)=>∃cap,v=.slice (some ⟨(U g).1,off*sz,none⟩) n cap/\n<=cap/\off+n<=es.length/\off+cap<=(U g).2/\(full=true->off=0/\cap=(U g).2)
  |some _=>True
  |none=>False
 | .iptr x off=>∃b base u arr,v=.pointer (some ⟨b,base+off,none⟩)/\H b=some arr/\VR H u x/\(arr.toList.drop base).take u.cells.size=u.cells.toList
 | .eptr g i off=>match bx g with
  |some (.arr _ sz es _)=>v=.pointer (some ⟨(U g).1,i*sz+off,none⟩)/\i<es.length
  |some (.arrN _ _ sz es)=>v=.pointer (some ⟨(U g).1,i*sz+off,none⟩)/\i<es.length
  |some _=>True
  |none=>False
 | .yld l=>v=.func (.yield l) #[] #[]
 | .val v'=>v=v'
 | .slN n=>∃a cap,v=.slice a n cap
 | .clo f gs=>(∀g∈gs,bx g≠none)/\v=.func (.func f) #[] (gs.map fun g=>Value.pointer (some ⟨(U g).1,0,none⟩)).toArray
 | .cv u f gs=>v=u/\(∀g∈gs,bx g≠none)/\v=.func (.func f) #[] (gs.map fun g=>Value.pointer (some ⟨(U g).1,0,none⟩)).toArray
def RowAt(o:Ow)(w:World)(b R:Nat):Prop:=∃arr n cap T fr,w.heap[b]?=some (.cells arr T fr)/\arr[o.j]?=some (.slice (some ⟨R,0,none⟩) n cap)
def RowAt.sm{o:Ow}{w w':World}{b R:Nat}(h:w'.heap[b]?=w.heap[b]?)(hr:RowAt o w' b R):RowAt o w b R:=by
 obtain⟨arr,n,cap,T,fr,e,e'⟩:=hr;exact⟨arr,n,cap,T,fr,h.symm.trans e,e'⟩
def kr:TypeId:=189
def rP:TypeId:=5
def XL(H:ak)(w:World)(b:Nat)(v:Value)(e:TypeId)(sz:Nat)(es:List IV):Prop :=
 (v=.slice none 0 0/\es=[])\/∃R cap arr ws,v=.slice (some ⟨R,0,none⟩) es.length cap/\R≠b/\w.heap[R]?=some (.cells arr e (0,0))/\VRL H ws es/\(∀v∈ws,v.cells.size=sz)/\
   (∀c∈aX ws,c.oneCell'=true)/\arr.toList.take (ws.length*sz)=aX ws/\arr.size=cap*sz/\es.length<=cap/\cap<=maxLen/\0<sz
def tV(H:ak)(w:World)(b:Nat):Ow->Prop
 | .str s=>Lib.IsBuilderF kr rP 0 b (Lib.byteCells s) w
 | .row v0 cs j e sz es=>∃us v T,w.heap[b]?=some (.cells (us.set j v).toArray T (0,0))/\VRL H us cs/\(∀u∈us,u.oneCell'=true)/\j<us.length/\(∀v1,v0=some v1->v1=v)/\XL H w b v e sz es
def BR(own:Nat->Prop)(w:World)(H:ak)(k:Nat×Nat):Bx->Prop
 | .var x=>own k.1/\H k.1=none/\x.isTup=false/\∃v e,VR H v x/\w.heap[k.1]?=some (.cells v.cells e (0,0))
 | .arr e sz es fz=>own k.1/\∃arr vs,w.heap[k.1]?=some (.cells arr e (0,0))/\(if fz then H k.1=some arr else H k.1=none)/\VRL H vs es/\(∀v∈vs,v.cells.size=sz)/\
  (∀c∈aX vs,c.oneCell'=true)/\arr.toList.take (vs.length*sz)=aX vs/\arr.size=k.2*sz/\es.length<=k.2/\k.2<=maxLen/\0<sz
 | .bld s=>own k.1/\H k.1=none/\tV H w k.1 s/\∀R,RowAt s w k.1 R->own R/\H R=none
 | .arrN p e sz es=>k.1=p/\own k.1/\H k.1=none/\∃arr vs,w.heap[k.1]?=some (.cells arr e (0,0))/\VRL H vs es/\(∀v∈vs,v.cells.size=sz)/\
  (∀c∈aX vs,c.oneCell'=true)/\arr.toList.take (vs.length*sz)=aX vs/\arr.size=k.2*sz/\es.length<=k.2/\k.2<=maxLen/\0<sz
 | .dead=>True
def Bx.alive:Bx->Bool
 | .dead=>false
 |_=>true
def WU(own:Nat->Prop)(w:World)(d:Deferred):Prop:=∃D,d = { target:=.collected D,args := #[] }/\own D/\w.heap[D]?=some (.deferred (some []))
def MarksOk(own:Nat->Prop)(M:List Deferred)(w:World):Prop:=M.Pairwise (· ≠ ·)/\∀d∈M,WU own w d
structure Env where
 own:Nat->Prop
 w0:World
 H0:ak
 pin:Nat->Option (Nat×Nat)
 mrk:List Deferred
abbrev Env.mks(E:Env)(M:List Deferred):Env:=⟨E.own,E.w0,E.H0,E.pin,M⟩
def MarksOk.nil(own:Nat->Prop)(w:World):MarksOk own [] w:=⟨.nil,fun _ h=>by cases h⟩
def MarksOk.keep{own:Nat->Prop}{M:List Deferred}{w w':World}(h:MarksOk own M w)(hk:∀D:Nat,w.heap[D]?=some (Obj.deferred (some []))->w'.heap[D]?=w.heap[D]?):MarksOk own M w' :=
 ⟨h.1,fun d hd=>by obtain⟨D,e,ho,hb⟩:=h.2 d hd;exact⟨D,e,ho,(hk D hb).trans hb⟩⟩
def aP:Nat:=1000000
structure Sim(E:Env)(H:ak)(U:Nat->Nat×Nat)(tm:Nat->SV)(bx:Nat->Option Bx)(tmps:Array Value)(w:World):Prop where
 has:HeapHas w H
 below:BelowO E.own E.w0 w
 lo:∀k,w.heap.size<=k->E.own k
 ext:HExtO E.own E.H0 H
 slot:∀t,SR H U bx (tmps.getD t undef) (tm t)
 box:∀g b,bx g=some b->BR E.own w H (U g) b
 inj:∀g g' b b',bx g=some b->bx g'=some b'->b.alive=true->b'.alive=true->(U g).1=(U g').1->g=g'
 pin:∀g k,E.pin g=some k->U g=k/\bx g≠none/\g<aP+8/\aP<=g
 marks:MarksOk E.own E.mrk w
 hid:∀g s g' b R,bx g=some (.bld s)->bx g'=some b->b.alive=true->RowAt s w (U g).1 R->(U g').1≠R
def xV{bx:Nat->Option Bx}{g t:Nat}{b:Bx}(h:bx t≠none):az bx g (some b) t≠none:=by
 by_cases e:t=g
 . subst e;rw[a6];simp
 rw[aI _ _ _ e];exact h
def shape:Bx->Bx->Prop
 | .var _,.var _=>True
 | .arr _ sz es _,.arr _ sz' es' _=>sz'=sz/\es'.length=es.length
 | .bld _,.bld _=>True
 | .bld _,.var _=>True
 | .var _,.bld _=>True
 | .arrN p _ sz es,.arrN p' _ sz' es'=>p'=p/\sz'=sz/\es'.length=es.length
 |_,.dead=>True
 |_,_=>False
def shape.refl:∀b,shape b b
 | .var _=>trivial
 | .arr .. => ⟨rfl,rfl⟩
 | .bld _=>trivial
 | .arrN .. => ⟨rfl,rfl,rfl⟩
 | .dead=>trivial
def SR.mono{H H':ak}{U U':Nat->Nat×Nat}{bx bx':Nat->Option Bx}(hh:HLe H H')(hb:∀g b,bx g=some b->∃b',bx' g=some b'/\shape b b'/\U' g=U g){v:Value} :
 ∀{s:SV},SR H U bx v s->SR H' U' bx' v s
 | .unk,_=>trivial
 | .und,h=>h
 | .iv _,h=>VR.mono hh h
 | .nilS,h=>h
 | .ptr g off,h=>by
  obtain⟨h1,h2⟩:=h;cases hg:bx g with
  |none=>exact absurd hg h1
  |some b=>
   obtain⟨b',e1,_,e2⟩:=hb g b hg;refine⟨by rw[e1];simp,by rw[e2];exact h2⟩
 | .ref g off n full,h=>by
  cases hg:bx g with
  |none=>simp only[SR,hg] at h
  |some b=>
   obtain⟨b',e1,e3,e2⟩:=hb g b hg;cases b with
   |var x=>
    cases b'<;>simp only[shape] at e3<;>simp only[SR,e1]
   |dead=>cases b'<;>simp only[shape] at e3;simp only[SR,e1]
   |bld s=>cases b'<;>simp only[shape] at e3<;>simp only[SR,e1]
   |arrN=>cases b'<;>simp only[shape] at e3<;>simp only[SR,e1]
   |arr e sz es fz=>
    simp only[SR,hg] at h;cases b' with
    |var=>simp only[shape] at e3
    |bld=>simp only[shape] at e3
    |arrN=>simp only[shape] at e3
    |dead=>simp only[SR,e1]
    |arr e' sz' es' fz'=>
     obtain⟨rfl,hl⟩:=e3;simp only[SR,e1,e2,hl];exact h
 | .iptr x off,⟨b,base,u,arr,h1,h2,h3,h4⟩=>⟨b,base,u,arr,h1,hh _ _ h2,h3.mono hh,h4⟩
 | .yld _,h=>h
 | .val _,h=>h
 | .slN _,h=>h
 | .cv u f gs,⟨h0,h1,h2⟩=>by
  refine⟨h0,fun g hg=>?_,?_⟩
  . cases hx:bx g with
    |none=>exact absurd hx (h1 g hg)
    |some b=>obtain⟨b',e1,_,_⟩:=hb g b hx;rw[e1];simp
  rw[h2];congr 2;refine jI fun g hg=>?_;cases hx:bx g with
  |none=>exact absurd hx (h1 g hg)
  |some b=>obtain⟨b',_,_,e2⟩:=hb g b hx;rw[e2]
 | .clo f gs,⟨h1,h2⟩=>by
  refine⟨fun g hg=>?_,?_⟩
  . cases hx:bx g with
    |none=>exact absurd hx (h1 g hg)
    |some b=>obtain⟨b',e1,_,_⟩:=hb g b hx;rw[e1];simp
  rw[h2];congr 2;refine jI fun g hg=>?_;cases hx:bx g with
  |none=>exact absurd hx (h1 g hg)
  |some b=>obtain⟨b',_,_,e2⟩:=hb g b hx;rw[e2]
 | .eptr g i off,h=>by
  cases hg:bx g with
  |none=>simp only[SR,hg] at h
  |some b=>
   obtain⟨b',e1,e3,e2⟩:=hb g b hg;cases b with
   |var x=>
    cases b'<;>simp only[shape] at e3<;>simp only[SR,e1]
   |dead=>cases b'<;>simp only[shape] at e3;simp only[SR,e1]
   |bld s=>cases b'<;>simp only[shape] at e3<;>simp only[SR,e1]
   |arrN p e sz es=>
    simp only[SR,hg] at h;cases b' with
    |var=>simp only[shape] at e3
    |bld=>simp only[shape] at e3
    |arr=>simp only[shape] at e3
    |dead=>simp only[SR,e1]
    |arrN p' e' sz' es'=>
     obtain⟨rfl,rfl,hl⟩:=e3;simp only[SR,e1,e2,hl];exact h
   |arr e sz es fz=>
    simp only[SR,hg] at h;cases b' with
    |var=>simp only[shape] at e3
    |bld=>simp only[shape] at e3
    |arrN=>simp only[shape] at e3
    |dead=>simp only[SR,e1]
    |arr e' sz' es' fz'=>
     obtain⟨rfl,hl⟩:=e3;simp only[SR,e1,e2,hl];exact h
def BR.lo{own:Nat->Prop}{w:World}{H:ak}{k:Nat×Nat}{b:Bx}(h:BR own w H k b)(ha:b.alive=true):own k.1:=by
 cases b with
 |var x=>exact h.1
 |arr=>exact h.1
 |bld=>exact h.1
 |arrN=>exact h.2.1
 |dead=>simp[Bx.alive] at ha
def JM{H:ak}{w:World}{b:Nat}{o:Ow}(h:tV H w b o):∃arr T,w.heap[b]?=some (.cells arr T (0,0)):=by
 cases o with
 |str s=>
  rcases h with⟨_,v,h1,h2⟩|⟨_,v,h1,h2⟩
  . exact⟨_,_,h1⟩
  exact⟨_,_,h1⟩
 |row v0 cs j e sz es=>obtain⟨us,v,T,h1,_⟩:=h;exact⟨_,_,h1⟩
def RD{w:World}{b:Nat}{s:List UInt8}(h:Lib.IsBuilderF kr rP 0 b (Lib.byteCells s) w):∃p v,w.heap[b]?=some (.cells #[p,v] kr (0,0))/\w.ownsRowF 0 rP 1 v (Lib.byteCells s).length (Lib.byteCells s)/\v.ownBlock≠some b:=by
 rcases h with⟨_,v,h1,h2⟩|⟨_,v,h1,h2⟩
 . exact⟨_,_,h1,h2⟩
 exact⟨_,_,h1,h2⟩
def kK{H:ak}{w:World}{b R:Nat}{o:Ow}(h:tV H w b o)(hr:RowAt o w b R):R<w.heap.size/\R≠b/\∃arr e fz,w.heap[R]?=some (.cells arr e fz):=by
 obtain⟨arr,n,cap,T,fr,e,e'⟩:=hr;cases o with
 |str s=>
  obtain⟨p,v,h1,h2,h3⟩:=RD h;rw[h1] at e;simp only[ai,Obj.cells.injEq] at e;obtain⟨rfl,_,_⟩:=e;simp[Ow.j] at e';subst e';rcases h2.2 with⟨e,_⟩|⟨g,cap',cur,fz,e,_,hg,_⟩
  . cases e
  cases e;exact⟨(Array.getElem?_eq_some_iff.1 hg).1,fun e=>h3 (by rw[<-e];rfl),_,_,_,hg⟩
 |row v0 cs j te sz es=>
  obtain⟨us,v,T',h1,_,_,h4,_,h6⟩:=h;rw[h1] at e;simp only[ai,Obj.cells.injEq] at e;obtain⟨rfl,_,_⟩:=e;have e2:v=.slice (some ⟨R,0,none⟩) n cap:=by
   simp[Ow.j,h4] at e';exact e'
  rcases h6 with⟨e3,_⟩|⟨R',cap',arr,ws,e3,h7,h8,_⟩
  . rw[e3] at e2;cases e2
  rw[e3] at e2;cases e2;exact⟨(Array.getElem?_eq_some_iff.1 h8).1,h7,_,_,_,h8⟩
def SL{H H':ak}(hh:HLe H H'){w w':World}{b:Nat}{o:Ow}(h:tV H w b o)(hb:w'.heap[b]?=w.heap[b]?)(hr:∀R,RowAt o w b R->w'.heap[R]?=w.heap[R]?):tV H' w' b o:=by
 cases o with
 |str s=>
  have key:∀p,Lib.BuilderAtF kr rP 0 b p (Lib.byteCells s) w->Lib.BuilderAtF kr rP 0 b p (Lib.byteCells s) w':=fun p ⟨h0,v,h1,h2,h3⟩=>by
   refine⟨h0,v,hb.trans h1,⟨h2.1,?_⟩,h3⟩;rcases h2.2 with hn|⟨g,cap,cur,fz,rfl,hg0,hg,rest⟩
   . exact .inl hn
   exact .inr ⟨g,cap,cur,fz,rfl,hg0,(hr g ⟨_,_,_,_,_,h1,rfl⟩).trans hg,rest⟩
  exact Or.elim h (fun h=>.inl (key _ h)) (fun h=>.inr (key _ h))
 |row v0 cs j te sz es=>
  obtain⟨us,v,T',h1,h2,h3,h4,h5,h6⟩:=h;refine⟨us,v,T',hb.trans h1,h2.mono hh,h3,h4,h5,?_⟩;rcases h6 with h6|⟨R',cap',arr,ws,e3,h7,h8,h9,h10⟩
  . exact .inl h6
  refine .inr ⟨R',cap',arr,ws,e3,h7,(hr R' ⟨_,es.length,cap',_,_,h1,?_⟩).trans h8,h9.mono hh,h10⟩;simp[Ow.j,h4,e3]
def BR.lt{own:Nat->Prop}{w:World}{H:ak}{k:Nat×Nat}{b:Bx}(h:BR own w H k b)(ha:b.alive=true):k.1<w.heap.size:=by
 cases b with
 |var x=>obtain⟨_,_,_,v,e,_,h⟩:=h;exact(Array.getElem?_eq_some_iff.1 h).1
 |arr=>obtain⟨_,arr,vs,h,_⟩:=h;exact(Array.getElem?_eq_some_iff.1 h).1
 |bld=>obtain⟨_,_,h⟩:=JM h.2.2.1;exact(Array.getElem?_eq_some_iff.1 h).1
 |arrN=>obtain⟨_,_,_,arr,vs,h,_⟩:=h;exact(Array.getElem?_eq_some_iff.1 h).1
 |dead=>simp[Bx.alive] at ha
def BR.keep{own:Nat->Prop}{w w':World}{H H':ak}{k:Nat×Nat}{b:Bx}(h:BR own w H k b)(hw:w'.heap[k.1]?=w.heap[k.1]?)(hh:HLe H H')(hn:H k.1=none->H' k.1=none)
 (hr:∀s R,b=.bld s->RowAt s w k.1 R->w'.heap[R]?=w.heap[R]?/\(H R=none->H' R=none)):BR own w' H' k b:=by
 cases b with
 |var x=>obtain⟨h1,h2,h3,v,e,h4,h5⟩:=h;exact⟨h1,hn h2,h3,v,e,h4.mono hh,hw.trans h5⟩
 |arr e sz es fz=>
  obtain⟨h1,arr,vs,h2,h3,h4,h5⟩:=h;refine⟨h1,arr,vs,hw.trans h2,?_,h4.mono hh,h5⟩;cases fz with
  |true=>exact hh _ _ h3
  |false=>exact hn h3
 |bld s=>
  obtain⟨h1,h2,h3,h4⟩:=h;refine⟨h1,hn h2,SL hh h3 hw (fun R hR=>(hr s R rfl hR).1),fun R hR=>?_⟩;have hR':=hR.sm hw;exact⟨(h4 R hR').1,(hr s R rfl hR').2 (h4 R hR').2⟩
 |arrN p e sz es=>
  obtain⟨h0,h1,hN,arr,vs,h2,h4,h5⟩:=h;exact⟨h0,h1,hn hN,arr,vs,hw.trans h2,h4.mono hh,h5⟩
 |dead=>trivial
def BR.cells{own:Nat->Prop}{w:World}{H:ak}{k:Nat×Nat}{b:Bx}(h:BR own w H k b)(ha:b.alive=true):∃arr e,w.heap[k.1]?=some (.cells arr e (0,0)):=by
 cases b with
 |var x=>obtain⟨_,_,_,v,e,_,h⟩:=h;exact⟨_,_,h⟩
 |arr=>obtain⟨_,arr,vs,h,_⟩:=h;exact⟨_,_,h⟩
 |bld=>obtain⟨_,_,h⟩:=JM h.2.2.1;exact⟨_,_,h⟩
 |arrN=>obtain⟨_,_,_,arr,vs,h,_⟩:=h;exact⟨_,_,h⟩
 |dead=>simp[Bx.alive] at ha
section
variable {E:Env}{H:ak}{U:Nat->Nat × Nat}{tm:Nat->SV}{bx:Nat->Option Bx}{tmps:Array Value}{w:World}
def Sim.grow(h:Sim E H U tm bx tmps w){w':World}{H':ak}(hb:Below w.heap.size w w')(hh:HeapHas w' H')(he:HExt w.heap.size H H'):Sim E H' U tm bx tmps w' where
 has:=hh
 below:=h.below.trans (BelowO.of hb h.lo)
 lo k hk:=h.lo k (bf hb.size hk)
 ext:=h.ext.step (own':=fun k=>w.heap.size<=k) he h.lo
 slot t:=(h.slot t).mono he.1 (fun g b hg=>⟨b,hg,shape.refl b,rfl⟩)
 box g b hg:=by
  by_cases ha:b.alive=true
  .
   have hlt:=(h.box g b hg).lt ha;refine(h.box g b hg).keep (hb.block _ hlt) he.1 (fun hn=>?_) ?_;cases hx:H' (U g).1 with
   |none=>rfl
   |some arr=>
    rcases he.2 _ _ hx with h1|h1
    . rw[hn] at h1;exact absurd h1 (by simp)
    omega
   intro s R e hR;subst e;have hlt:=(kK (h.box g _ hg).2.2.1 hR).1;refine⟨hb.block _ hlt,fun hn=>?_⟩;cases hx:H' R with
   |none=>rfl
   |some arr=>
    rcases he.2 _ _ hx with h1|h1
    . rw[hn] at h1;exact absurd h1 (by simp)
    omega
  cases b<;>first|trivial|simp[Bx.alive] at ha
 inj:=h.inj
 pin:=h.pin
 marks:=h.marks.keep fun D hD=>hb.block D (Array.getElem?_eq_some_iff.1 hD).1
 hid g s g' b R h1 h2 ha hR:=h.hid g s g' b R h1 h2 ha (hR.sm (hb.block _ ((h.box g _ h1).lt rfl)))
def Below.of_heap{n:Nat}{w w':World}(h1:w'.heap=w.heap)(h2:w'.os=w.os)(h3:w'.tape=w.tape)(h4:w'.output=w.output):Below n w w' :=
 ⟨h2,h3,h4,by rw[h1];exact ah _,fun k _=>by rw[h1]⟩
def Sim.sm(h:Sim E H U tm bx tmps w){w':World}(h1:w'.heap=w.heap)(h2:w'.os=w.os)(h3:w'.tape=w.tape)(h4:w'.output=w.output):Sim E H U tm bx tmps w' :=
 h.grow (Below.of_heap h1 h2 h3 h4) (fun b arr hb=>by rw[h1];exact h.has b arr hb) (HExt.refl _ _)
def Sim.put(h:Sim E H U tm bx tmps w){d:Nat}(hd:d<tmps.size){v:Value}{r:SV}(hv:SR H U bx v r):Sim E H U (az tm d r) bx (tmps.setIfInBounds d v) w where
 has:=h.has
 below:=h.below
 lo:=h.lo
 ext:=h.ext
 slot t:=by
  by_cases ht:t=d
  . subst ht;have e:(tmps.setIfInBounds t v).getD t undef=v:=by simp[Array.getD,hd]
    rw[e];show SR H U bx v (az tm t r t);rw[a6];exact hv
  have e:(tmps.setIfInBounds d v).getD t undef=tmps.getD t undef:=by
   simp only[FB,NO];rw[aq (by omega)]
  rw[e];show SR H U bx _ (az tm d r t);rw[aI _ _ _ ht];exact h.slot t
 box:=h.box
 inj:=h.inj
 pin:=h.pin
 marks:=h.marks
 hid:=h.hid
def Sim.newBox(h:Sim E H U tm bx tmps w){g:Nat}(hg:bx g=none){w':World}{b:Bx}{k:Nat×Nat}(hk:w.heap.size<=k.1)(hb:Below w.heap.size w w')(hbr:BR E.own w' H k b)(hnr:∀s R,b=.bld s->¬RowAt s w' k.1 R:=by(intro _ _ e;cases e)) :
 Sim E H (az U g k) tm (az bx g (some b)) tmps w':=by
 have hh:HeapHas w' H:=fun b arr e=>by
  obtain⟨t,fr,ht⟩:=h.has b arr e;exact⟨t,fr,(hb.block b (h.has.lt e)).trans ht⟩
 have h':=h.grow hb hh (HExt.refl _ _);refine⟨hh,h'.below,h'.lo,h.ext,fun t=>(h'.slot t).mono (HLe.refl _) (fun g' b' hg'=>?_),fun g' b' hg'=>?_,fun g1 g2 b1 b2 h1 h2 a1 a2 he=>?_,fun p' k' hk'=>?_,h'.marks,fun g1 s g2 b2 R h1 h2 ha hR=>?_⟩
 . have hne:g'≠g:=fun e=>by subst e;rw[hg] at hg';simp at hg'
   exact⟨b',by show az bx g (some b) g'=_;rw[aI _ _ _ hne];exact hg',shape.refl b',aI _ _ _ hne⟩
 .
  by_cases hne:g'=g
  . subst hne;have e:b=b':=by
     have:az bx g' (some b) g'=some b':=hg';rw[a6] at this;simpa using this
    subst e;rw[a6];exact hbr
  have e:bx g'=some b':=by
   have:az bx g (some b) g'=some b':=hg';rwa[aI _ _ _ hne] at this
  rw[aI _ _ _ hne];exact h'.box g' b' e
 .
  have key:∀g' b',az bx g (some b) g'=some b'->g'≠g->b'.alive=true->(U g').1<w.heap.size:=fun g' b' hg' hne ha=>by
   rw[aI _ _ _ hne] at hg';exact(h.box g' b' hg').lt ha
  by_cases e1:g1=g
  . by_cases e2:g2=g
    . rw[e1,e2]
    have:=key g2 b2 h2 e2 a2;rw[e1,a6,aI _ _ _ e2] at he;omega
  by_cases e2:g2=g
  . have:=key g1 b1 h1 e1 a1;rw[e2,a6,aI _ _ _ e1] at he;omega
  rw[aI _ _ _ e1,aI _ _ _ e2] at he;exact h.inj g1 g2 b1 b2 (by have:az bx g (some b) g1=_:=h1;rwa[aI _ _ _ e1] at this) (by have:az bx g (some b) g2=_:=h2;rwa[aI _ _ _ e2] at this) a1 a2 he
 . obtain⟨p1,p2,p3⟩:=h.pin p' k' hk';have hne:p'≠g:=fun e=>p2 (by rw[e];exact hg);rw[aI _ _ _ hne,aI _ _ _ hne];exact⟨p1,p2,p3⟩
 by_cases e1:g1=g
 . subst e1;have e:b=.bld s:=by
    have:az bx g1 (some b) g1=_:=h1;rw[a6] at this;simpa using this
   rw[a6] at hR;exact absurd hR (hnr s R e)
 have h1':bx g1=some (.bld s):=by have:az bx g (some b) g1=_:=h1;rwa[aI _ _ _ e1] at this
 rw[aI _ _ _ e1] at hR;have hR':=hR.sm (hb.block _ ((h.box g1 _ h1').lt rfl));by_cases e2:g2=g
 . have:=(kK (h.box g1 _ h1').2.2.1 hR').1;rw[e2,a6];omega
 rw[aI _ _ _ e2];exact h.hid g1 s g2 b2 R h1' (by have:az bx g (some b) g2=_:=h2;rwa[aI _ _ _ e2] at this) ha hR'
def Sim.write(h:Sim E H U tm bx tmps w){g:Nat}{b b':Bx}(hg:bx g=some b)(ha:b.alive=true)(hs:shape b b'){w':World}(hsz:w'.heap.size=w.heap.size)
 (ho:∀k,k≠(U g).1->w'.heap[k]?=w.heap[k]?) (h1:w'.os=w.os) (h2:w'.tape=w.tape) (h3:w'.output=w.output) (hH:H (U g).1=none) (hbr:BR E.own w' H (U g) b') (hnb:∀s,b'≠ .bld s:=by(intro _ e;cases e)) :
 Sim E H U tm (az bx g (some b')) tmps w':=by
 have hlo:=(h.box g b hg).lo ha;have hh:HeapHas w' H:=fun k arr e=>by
  obtain⟨t,fr,ht⟩:=h.has k arr e;exact⟨t,fr,(ho k (fun e'=>by rw[e',hH] at e;simp at e)).trans ht⟩
 refine⟨hh,h.below.trans ⟨h1,h2,h3,by omega,fun k hk=>ho k (fun e=>hk (by rw[e];exact hlo))⟩,fun k hk=>h.lo k (by omega),h.ext,fun t=>(h.slot t).mono (HLe.refl _) (fun g' b1 hg'=>?_),fun g' b1 hg'=>?_,fun g1 g2 b1 b2 e1 e2 a1 a2 he=>?_,fun p' k' hk'=>⟨(h.pin p' k' hk').1,xV (h.pin p' k' hk').2.1,(h.pin p' k' hk').2.2⟩,?_,fun g1 s g2 b2 R e1 e2 ha2 hR=>?_⟩
 . by_cases hne:g'=g
   . subst hne;rw[hg] at hg';simp at hg';subst hg';exact⟨b',by show az bx g' (some b') g'=_;rw[a6],hs,rfl⟩
   exact⟨b1,by show az bx g (some b') g'=_;rw[aI _ _ _ hne];exact hg',shape.refl _,rfl⟩
 .
  by_cases hne:g'=g
  . subst hne;have e:b'=b1:=by
     have:az bx g' (some b') g'=some b1:=hg';rw[a6] at this;simpa using this
    subst e;exact hbr
  have e:bx g'=some b1:=by
   have:az bx g (some b') g'=some b1:=hg';rwa[aI _ _ _ hne] at this
  by_cases hal:b1.alive=true
  . refine(h.box g' b1 e).keep (ho _ (fun e'=>hne (h.inj g' g b1 b e hg hal ha e'))) (HLe.refl _) id (fun s R eb hR=>?_);subst eb;exact⟨ho R (fun e'=>h.hid g' s g b R e hg ha hR e'.symm),id⟩
  cases b1<;>first|trivial|simp[Bx.alive] at hal
 .
  have key:∀g' b1,az bx g (some b') g'=some b1->b1.alive=true->∃b2,bx g'=some b2/\b2.alive=true:=fun g' b1 hg' hal=>by
   by_cases hne:g'=g
   . subst hne;exact⟨b,hg,ha⟩
   rw[aI _ _ _ hne] at hg';exact⟨b1,hg',hal⟩
  obtain⟨c1,d1,f1⟩:=key g1 b1 e1 a1;obtain⟨c2,d2,f2⟩:=key g2 b2 e2 a2;exact h.inj g1 g2 c1 c2 d1 d2 f1 f2 he
 . refine h.marks.keep fun D hD=>ho D fun e=>?_;obtain⟨arr,e',hc⟩:=(h.box g b hg).cells ha;rw[<-e,hD] at hc;cases hc
 by_cases hne:g1=g
 . subst hne;have:az bx g1 (some b') g1=_:=e1;rw[a6] at this;exact absurd (by simpa using this) (hnb s)
 have h1':bx g1=some (.bld s):=by have:az bx g (some b') g1=_:=e1;rwa[aI _ _ _ hne] at this
 have hR':=hR.sm (ho _ (fun e'=>hne (h.inj g1 g _ b h1' hg rfl ha e')));by_cases hn2:g2=g
 . rw[hn2];exact h.hid g1 s g b R h1' hg ha hR'
 exact h.hid g1 s g2 b2 R h1' (by have:az bx g (some b') g2=_:=e2;rwa[aI _ _ _ hn2] at this) ha2 hR'
def Sim.freeze(h:Sim E H U tm bx tmps w){g:Nat}{e:TypeId}{sz:Nat}{es:List IV}{fz:Bool}(hg:bx g=some (.arr e sz es fz)) :
 ∃H',HLe H H'/\(∀k arr,H' k=some arr->H k=some arr\/E.own k)/\Sim E H' U tm (az bx g (some (.arr e sz es true))) tmps w/\
  ∃arr vs,H' (U g).1=some arr/\VRL H' vs es/\(∀v∈vs,v.cells.size=sz)/\(∀c∈aX vs,c.oneCell'=true)/\arr.toList.take (vs.length*sz)=aX vs:=by
 obtain⟨h1,arr,vs,h2,h3,h4,h5,h6,h7,h8,h9,h10,h11⟩:=h.box g _ hg
 let H':ak:=az H (U g).1 (some arr)
 have hsame:H' (U g).1=some arr:=a6 _ _ _;have hle:HLe H H':=fun k a ha=>by
  by_cases e:k=(U g).1
  . rw[e,hsame];cases fz with
    |true=>rw[e] at ha;simp only[bL] at h3;rw[h3] at ha;exact ha
    |false=>rw[e] at ha;simp at h3;rw[h3] at ha;simp at ha
  show az H _ _ k=_;rw[aI _ _ _ e];exact ha
 have hother:∀k,k≠(U g).1->H' k=H k:=fun k hk=>aI _ _ _ hk;refine⟨H',hle,fun k a ha=>?_,⟨fun k a ha=>?_,h.below,h.lo,⟨h.ext.1.trans hle,fun k a ha=>?_⟩,fun t=>(h.slot t).mono hle (fun g' b1 hg'=>?_),fun g' b1 hg'=>?_,fun g1 g2 b1 b2 e1 e2 a1 a2 he=>?_,fun p' k' hk'=>⟨(h.pin p' k' hk').1,xV (h.pin p' k' hk').2.1,(h.pin p' k' hk').2.2⟩,h.marks,fun g1 s g2 b2 R e1 e2 ha2 hR=>?_⟩,arr,vs,hsame,h4.mono hle,h5,h6,h7⟩
 . by_cases e:k=(U g).1
   . exact .inr (by rw[e];exact h1)
   rw[hother k e] at ha;exact .inl ha
 . by_cases e:k=(U g).1
   . rw[e,hsame] at ha;simp at ha;subst ha;rw[e];exact⟨_,_,h2⟩
   rw[hother k e] at ha;exact h.has k a ha
 . by_cases e:k=(U g).1
   . exact .inr (by rw[e];exact h1)
   rw[hother k e] at ha;exact h.ext.2 k a ha
 . by_cases hne:g'=g
   . subst hne;rw[hg] at hg';simp at hg';subst hg';exact⟨.arr e sz es true,by show az bx g' _ g'=_;rw[a6],⟨rfl,rfl⟩,rfl⟩
   exact⟨b1,by show az bx g _ g'=_;rw[aI _ _ _ hne];exact hg',shape.refl _,rfl⟩
 .
  by_cases hne:g'=g
  . subst hne;have e':Bx.arr e sz es true=b1:=by
     have:az bx g' (some (.arr e sz es true)) g'=some b1:=hg';rw[a6] at this;simpa using this
    subst e';exact⟨h1,arr,vs,h2,hsame,h4.mono hle,h5,h6,h7,h8,h9,h10,h11⟩
  have e':bx g'=some b1:=by
   have:az bx g _ g'=some b1:=hg';rwa[aI _ _ _ hne] at this
  by_cases hal:b1.alive=true
  . refine(h.box g' b1 e').keep rfl hle (fun hn=>?_) (fun s R eb hR=>⟨rfl,fun hn=>?_⟩)
    . rw[hother _ (fun e2=>hne (h.inj g' g b1 _ e' hg hal rfl e2))];exact hn
    subst eb;rw[hother _ (fun e2=>h.hid g' s g _ R e' hg rfl hR e2.symm)];exact hn
  cases b1<;>first|trivial|simp[Bx.alive] at hal
 .
  have key:∀g' b1,az bx g (some (.arr e sz es true)) g'=some b1->b1.alive=true->∃b2,bx g'=some b2/\b2.alive=true:=fun g' b1 hg' hal=>by
   by_cases hne:g'=g
   . subst hne;exact⟨_,hg,rfl⟩
   rw[aI _ _ _ hne] at hg';exact⟨b1,hg',hal⟩
  obtain⟨c1,d1,f1⟩:=key g1 b1 e1 a1;obtain⟨c2,d2,f2⟩:=key g2 b2 e2 a2;exact h.inj g1 g2 c1 c2 d1 d2 f1 f2 he
 have h1':bx g1=some (.bld s):=by
  by_cases hne:g1=g
  . subst hne;have:az bx g1 (some (.arr e sz es true)) g1=_:=e1;rw[a6] at this;cases this
  have:az bx g (some (.arr e sz es true)) g1=_:=e1;rwa[aI _ _ _ hne] at this
 by_cases hn2:g2=g
 . rw[hn2];exact h.hid g1 s g _ R h1' hg rfl hR
 exact h.hid g1 s g2 b2 R h1' (by have:az bx g (some (.arr e sz es true)) g2=_:=e2;rwa[aI _ _ _ hn2] at this) ha2 hR
end
inductive SH where
 |bool|int (k:IntKind)|string|struct|slice (e:TypeId)|array (n:Nat) (e:TypeId)|other
 deriving Inhabited
structure TY where
 sh:SH
 size:Nat
 bytes:Nat
 zero:IV
 fields:List (Nat×Bool×Nat)
def SH.agg:SH->Bool
 | .struct | .array _ _=>true
 |_=>false
def gg:TypeDesc->SH
 | .bool=>.bool
 | .int k=>.int k
 | .string=>.string
 | .struct _=>.struct
 | .slice e=>.slice e
 | .array n e=>.array n e
 |_=>.other
def tY(t:TypeId):Bool:=Nat.beq t 999999
def pK(nl:Bool):Value->Option IV
 | .bool b=>some (.bool b)
 | .int k n=>some (.int k n)
 | .string s=>some (.str s.data.toList)
 | .slice none 0 0=>some (bif nl then .nil 3 else .sl [])
 | .nilIface=>some (.nil 0)
 | .nilFunc=>some (.nil 1)
 | .pointer none=>some (.nil 2)
 |_=>none
def ik(nl:Bool):List Value->Option (List IV)
 | []=>some []
 |v::vs=>match pK nl v,ik nl vs with
  |some x,some xs=>some (x::xs)
  |_,_=>none
def nB(nl:Bool):Value->Option IV
 | .agg cs=>(ik nl cs.toList).map .agg
 |v=>pK nl v
def ja(P:Program):List Field->Option (List (Nat×Bool×Nat))
 | []=>some []
 |f::fs=>match P.info? f.type,P.underlying f.type,ja P fs with
  |some i,some d,some r=>some ((f.offset,(gg d).agg,i.size)::r)
  |_,_,_=>none
def HE(P:Program):TypeDesc->Option (List (Nat×Bool×Nat))
 | .struct fs=>ja P fs.toList
 |_=>some []
def wF(P:Program)(t:TypeId):Option TY :=
 match P.info? t,P.underlying t with
 |some i,some d=>match i.zero with
  |some z=>match nB (tY t) z,HE P d with
   |some zz,some fs=>some ⟨gg d,i.size,i.bytes,zz,fs⟩
   |_,_=>none
  |none=>none
 |_,_=>none
def C4{nl:Bool}{v:Value}{x:IV}(h:pK nl v=some x):(∀H,VR H v x)/\v.oneCell'=true/\x.isTup=false:=by
 unfold pK at h;cases nl<;>split at h<;>first|(simp at h;done)|(simp only[ai] at h;subst h;exact⟨fun H=>by constructor<;>rfl,rfl,rfl⟩)|(simp only[ai] at h;subst h;exact⟨fun H=>by constructor,rfl,rfl⟩)
def JX{nl:Bool}:∀{vs:List Value} {xs:List IV},ik nl vs=some xs->(∀H,VRL H vs xs)/\∀v∈vs,v.oneCell'=true
 | [],xs,h=>by simp[ik] at h;subst h;exact⟨fun H=>.nil,by simp⟩
 |v::vs,xs,h=>by
  simp only[ik] at h;split at h
  . rename_i x ys h1 h2;simp only[ai] at h;subst h;obtain⟨a1,a2,_⟩:=C4 h1;obtain⟨b1,b2⟩:=JX h2;refine⟨fun H=>.cons _ _ _ _ (a1 H) (b1 H),fun u hu=>?_⟩;rcases List.mem_cons.1 hu with rfl|hu
    . exact a2
    exact b2 u hu
  simp at h
def Ls{nl:Bool}{v:Value}{x:IV}(h:nB nl v=some x):(∀H,VR H v x)/\x.isTup=false:=by
 unfold nB at h;split at h
 .
  rename_i cs;cases hz:ik nl cs.toList with
  |none=>rw[hz] at h;simp at h
  |some ys=>
   rw[hz] at h;simp at h;subst h;obtain⟨a,b⟩:=JX hz;exact⟨fun H=>by simpa using VR.agg (H:=H) _ _ (a H) b,rfl⟩
 obtain⟨a,_,c⟩:=C4 h;exact⟨a,c⟩
structure TyOk(P:Program)(t:TypeId)(ty:TY)(i:TypeInfo)(d:TypeDesc)(z:Value):Prop where
 info:P.info? t=some i
 und:P.underlying t=some d
 sh:ty.sh=gg d
 size:i.size=ty.size
 bytes:i.bytes=ty.bytes
 zero:i.zero=some z
 vr:∀H,VR H z ty.zero
 tup:ty.zero.isTup=false
 fields:HE P d=some ty.fields
def aT{P:Program}{t:TypeId}{ty:TY}(h:wF P t=some ty):∃i d z,TyOk P t ty i d z:=by
 unfold wF at h;split at h
 .
  rename_i i d h1 h2;split at h
  . rename_i z h3;split at h
    . rename_i zz fs h4 h5;simp only[ai] at h;subst h;exact⟨i,d,z,⟨h1,h2,rfl,rfl,rfl,h3,(Ls h4).1,(Ls h4).2,h5⟩⟩
    simp at h
  simp at h
 simp at h
def cu(P:Program)(T:TypeId->Option TY):Prop:=∀t ty,T t=some ty->wF P t=some ty
def sH{P:Program}:∀{fs:List Field} {r:List (Nat×Bool×Nat)},ja P fs=some r->∀{j off sz:Nat} {ag:Bool},r[j]?=some (off,ag,sz)->
 ∃f i d,fs[j]?=some f/\f.offset=off/\P.info? f.type=some i/\P.underlying f.type=some d/\(gg d).agg=ag/\i.size=sz
 | [],r,h,j,off,sz,ag,hj=>by simp[ja] at h;subst h;simp at hj
 |f::fs,r,h,j,off,sz,ag,hj=>by
  simp only[ja] at h;split at h
  . rename_i i d r' h1 h2 h3;simp only[ai] at h;subst h;cases j with
    |zero=>simp at hj;obtain⟨rfl,rfl,rfl⟩:=hj;exact⟨f,i,d,rfl,rfl,h1,h2,rfl,rfl⟩
    |succ j=>simp at hj;simpa using sH h3 hj
  simp at h
section
variable {P:Program}{t:TypeId}{ty:TY}{i:TypeInfo}{d:TypeDesc}{z:Value}
def TyOk.run_zero(h:TyOk P t ty i d z)(w:World):(zeroValue t).run P w=.ok z w:=by simp[zeroValue,typeInfo,h.info,h.zero]
def TyOk.run_size(h:TyOk P t ty i d z)(w:World):(sizeOf t).run P w=.ok ty.size w:=by simp[sizeOf,typeInfo,h.info,h.size]
def TyOk.run_und(h:TyOk P t ty i d z)(w:World):(underlying t).run P w=.ok d w:=dq h.und w
def BU{P:Program}{t:TypeId}{d:TypeDesc}(h:P.underlying t=some d)(w:World):(isAgg t).run P w=.ok (gg d).agg w:=by
 simp only[isAgg,aw,dq h w,av];cases d<;>rfl
def TyOk.run_agg(h:TyOk P t ty i d z)(w:World):(isAgg t).run P w=.ok ty.sh.agg w:=by rw[h.sh];exact BU h.und w
end
def jE(ag:Bool)(sz:Nat)(x:IV)(off:Nat):Option IV :=
 match ag with
 |true=>bif Nat.beq off 0&&x.isAgg&&Nat.beq x.cells.length sz then some x
  else bif Nat.ble (off+sz) x.cells.length && !x.isTup then some (.agg ((x.cells.drop off).take sz)) else none
 |false=>x.cells[off]?
def splice{α:Type}(cs:List α)(off:Nat)(ys:List α):List α:=cs.take off++ys++cs.drop (off+ys.length)
def jm{α:Type}{cs:List α}{off:Nat}{ys:List α}(h:off+ys.length<=cs.length:=by omega):(splice cs off ys).length=cs.length:=by
 simp[splice];omega
def G0{α:Type}{cs ys:List α}(h:ys.length=cs.length):splice cs 0 ys=ys:=by simp[splice,h]
def ul(x:IV)(off:Nat)(y:IV):Option IV :=
 match x with
 | .agg cs=>bif Nat.beq off 0&&y.isAgg&&Nat.beq cs.length y.cells.length then some y
  else bif Nat.ble (off+y.cells.length) cs.length then some (.agg (splice cs off y.cells)) else none
 |_=>bif Nat.beq off 0 && !y.isAgg then some y else none
def xU{x:IV}(h:x.isAgg=true):x=.agg x.cells:=by cases x<;>first|rfl|simp[IV.isAgg] at h
def GL{x:IV}(h:x.isAgg=false):x.cells=[x]:=by cases x<;>first|rfl|simp[IV.isAgg] at h
def VRL.splice{H:ak}{vs us:List Value}{xs ys:List IV}(h:VRL H vs xs)(k:VRL H us ys)(off:Nat):VRL H (splice vs off us) (splice xs off ys):=by
 unfold Fl.splice;rw[k.length];exact((h.take off).append k).append (h.drop _)
structure Eff where
 rd:List Nat:=[]
 fz:List Nat:=[]
 wr:List (Nat×Bx):=[]
 bump:Nat:=0
def jF:Option Bx->Option Bx
 |some (.arr e sz es _)=>some (.arr e sz es true)
 |b=>b
def bT(bx:Nat->Option Bx):List Nat->Nat->Option Bx
 | []=>bx
 |g::gs=>bT (az bx g (jF (bx g))) gs
def g6(bx:Nat->Option Bx):List (Nat×Bx)->Nat->Option Bx
 | []=>bx
 | (g,b)::gs=>g6 (az bx g (some b)) gs
def DD:Value->SV
 | .bool b=>.iv (.bool b)
 | .int k n=>.iv (.int k n)
 | .string s=>.iv (.str s.data.toList)
 | .slice none 0 0=>.nilS
 | .nilIface=>.iv (.nil 0)
 | .nilFunc=>.iv (.nil 1)
 | .pointer none=>.iv (.nil 2)
 |_=>.unk
def aS(tm:Nat->SV):Operand->SV
 | .tmp t=>tm t
 | .const v=>DD v
 | .func f=>.iv (.fn f)
 | .global _=>.unk
def dL(bx:Nat->Option Bx):SV->Option (IV×List Nat)
 | .iv x=>some (x,[])
 | .nilS=>some (.sl [],[])
 | .cv v _ _=>some (.val v,[])
 | .ref g off n _=>match bx g with
  |some (.arr _ _ es _)=>some (.sl ((es.drop off).take n),[g])
  |_=>none
 |_=>none
def gK(bx:Nat->Option Bx)(V:Operand->SV):List Operand->Option (List IV×List Nat)
 | []=>some ([],[])
 |o::os=>match dL bx (V o) with
  |some (x,f)=>match gK bx V os with
   |some (xs,fs)=>some (x::xs,f++fs)
   |none=>none
  |none=>none
def jt(fields:List (Nat×Bool×Nat))(bx:Nat->Option Bx)(V:Operand->SV):List IV->List (Nat×Operand)->Option (List IV×List Nat)
 |cs,[]=>some (cs,[])
 |cs,(j,o)::rest=>match fields[j]?,dL bx (V o) with
  |some (off,_,sz),some (y,f)=>bif (Nat.beq y.cells.length sz&&Nat.ble (off+sz) cs.length && !y.isTup) then(match jt fields bx V (splice cs off y.cells) rest with
   |some (r,fs)=>some (r,f++fs)
   |none=>none) else none
  |_,_=>none
def kS(sz:Nat)(bx:Nat->Option Bx)(V:Operand->SV):List IV->List (Nat×Operand)->Option (List IV×List Nat)
 |es,[]=>some (es,[])
 |es,(j,o)::rest=>match dL bx (V o) with
  |some (y,f)=>bif (Nat.beq y.cells.length sz&&Nat.blt j es.length && !y.isTup) then(match kS sz bx V (es.set j y) rest with
   |some (r,fs)=>some (r,f++fs)
   |none=>none) else none
  |none=>none
def fB(v:Option SV)(dflt:Nat)(K:Nat->Prop):Prop :=
 match v with
 |none=>K dflt
 |some (.iv (.int _ n))=>∃m:Nat,n=(m:Int)/\K m
 |_=>False
def nh(op:BinOp)(k:IntKind)(a b:Int)(K:IV->Prop):Prop :=
 match op with
 | .add=>∃n,k.wrap (a+b)=n/\K (.int k n)
 | .sub=>∃n,k.wrap (a-b)=n/\K (.int k n)
 | .mul=>∃n,k.wrap (a*b)=n/\K (.int k n)
 | .quo=>b≠0/\∃n,k.wrap (a.tdiv b)=n/\K (.int k n)
 | .rem=>b≠0/\∃n,a.tmod b=n/\K (.int k n)
 | .eql=>∃c,(a==b)=c/\K (.bool c)
 | .neq=>∃c,(a != b)=c/\K (.bool c)
 | .lss=>∃c,decide (a<b)=c/\K (.bool c)
 | .leq=>∃c,decide (a<=b)=c/\K (.bool c)
 | .gtr=>∃c,decide (a>b)=c/\K (.bool c)
 | .geq=>∃c,decide (a>=b)=c/\K (.bool c)
 |_=>False
def nc(op:BinOp)(a b:List UInt8)(K:IV->Prop):Prop :=
 match op with
 | .add=>a.length+b.length<=9223372036854775807/\K (.str (a++b))
 | .eql=>∃c,(a==b)=c/\K (.bool c)
 | .neq=>∃c,(!(a==b))=c/\K (.bool c)
 |_=>False
def tz(op:BinOp)(a b:Bool)(K:IV->Prop):Prop :=
 match op with
 | .eql=>∃c,(a==b)=c/\K (.bool c)
 | .neq=>∃c,(!(a==b))=c/\K (.bool c)
 |_=>False
def wg:SV->Option Nat
 | .iv (.str s)=>some s.length
 | .iv (.sl es)=>some es.length
 | .nilS=>some 0
 | .ref _ _ n _=>some n
 | .slN n=>some n
 |_=>none
def AE(n sz:Nat)(ag:Bool):List (Nat×Bool×Nat):=(List.range n).map fun j=>(j*sz,ag,sz)
structure Ctr where
 ma:FuncId->Bool
 mkr:FuncId->List IV->FuncId->List IV->Prop
 mu:FuncId->Bool
 pu:FuncId->List IV->IV->Prop
 mt:FuncId->TypeId->Nat->Nat->Nat->List IV->List IV->List IV->IV->Prop
def dR(g:Nat):Nat->List Nat
 |0=>[]
 |n+1=>g::dR (g+90) n
def pJ:List Nat->List IV->List (Nat×Bx)
 |g::gs,z::zs=>(g,.var z)::pJ gs zs
 |_,_=>[]
def iG(bx:Nat->Option Bx):List Nat->Bool
 | []=>true
 |g::gs=>match bx g with
  |none=>iG bx gs
  |some _=>false
def n3(V:Operand->SV):List Operand->Option (List Nat)
 | []=>some []
 |o::os=>match V o with
  | .ptr g 0=>match n3 V os with
   |some gs=>some (g::gs)
   |none=>none
  |_=>none
section
variable (T:TypeId->Option TY)(Φ:Ctr)
def nW(b:Builtin)(ats:List TypeId)(args:List Operand)(V:Operand->SV)(bx:Nat->Option Bx)(g:Nat)(K:SV->Eff->Prop):Prop :=
 match b with
 | .len=>match args with
  | [x]=>match wg (V x),ats with
   |some n,[t]=>match T t with
    |some ty=>match ty.sh,V x with
     | .string,.iv (.str _)=>∃m:Int,(n:Int)=m/\K (.iv (.int .i64 m)) {}
     | .slice _,.iv (.sl _)=>∃m:Int,(n:Int)=m/\K (.iv (.int .i64 m)) {}
     | .slice _,.nilS=>K (.iv (.int .i64 0)) {}
     | .slice _,.ref g' _ _ _=>match bx g' with
      |some (.arr ..)=>∃m:Int,(n:Int)=m/\K (.iv (.int .i64 m)) { rd:=[g'] }
      |_=>False
     | .slice _,.slN _=>∃m:Int,(n:Int)=m/\K (.iv (.int .i64 m)) {}
     |_,_=>False
    |none=>False
   |_,_=>False
  |_=>False
 | .max=>match args with
  | [x,y]=>match V x,V y with
   | .iv (.int k a),.iv (.int _ c)=>∃n,(if c>a then c else a)=n/\K (.iv (.int k n)) {}
   |_,_=>False
  |_=>False
 | .min=>match args with
  | [x,y]=>match V x,V y with
   | .iv (.int k a),.iv (.int _ c)=>∃n,(if c<a then c else a)=n/\K (.iv (.int k n)) {}
   |_,_=>False
  |_=>False
 | .append=>match args,ats with
  | [s,x],[t,t']=>bif Nat.beq t t' then(match T t with
   |some ty=>match ty.sh with
    | .slice e=>match T e with
     |some te=>bif Nat.blt 0 te.size then(bif Nat.beq te.zero.cells.length te.size then(match dL bx (V x) with
      |some (.sl news,f)=>match V s with
       | .nilS=>∃c,news.isEmpty=c/\(match c with
        |true=>K .nilS { rd:=f,fz:=f }
        |false=>match bx g with
         |none=>(∀y∈news,y.cells.length=te.size/\y.isTup=false)/\news.length*te.bytes<=140737488355328/\news.length<=maxLen/\K (.ref g 0 news.length true) { rd:=f,fz:=f,wr:=[(g,.arr e te.size news false)],bump:=1 }
         |some _=>False)
       | .ref g' 0 n true=>match bx g',bx g with
        |some (.arr e' sz es false),none=>¬(g'∈f)/\sz=te.size/\e'=e/\n=es.length/\(∀y∈news,y.cells.length=te.size/\y.isTup=false)/\(n+news.length)*te.bytes<=140737488355328/\n+news.length<=maxLen/\
         K (.ref g 0 (n+news.length) true) { rd:=f,fz:=f,wr:=[(g',.dead),(g,.arr e te.size (es++news) false)],bump:=1 }
        |_,_=>False
       |_=>False
      |_=>False) else False) else False
     |none=>False
    |_=>False
   |none=>False) else False
  |_,_=>False
 | .copy=>match args,ats with
  | [d,x],[t,_]=>match T t with
   |some ty=>match ty.sh with
    | .slice e=>match T e with
     |some te=>bif Nat.beq te.size 1 then(match dL bx (V x) with
      |some (.sl news,f)=>match V d with
       | .ref g' off n _=>match bx g' with
        |some (.arr e' sz es false)=>¬(g'∈f)/\sz=te.size/\(∀y∈news,y.cells.length=te.size/\y.isTup=false)/\off+n<=es.length/\∃m:Nat,Nat.min news.length n=m/\
         K (.iv (.int .i64 m)) { rd:=f,fz:=f,wr:=[(g',.arr e' sz (splice es off (news.take m)) false)] }
        |_=>False
       |_=>False
      |_=>False) else False
     |none=>False
    |_=>False
   |none=>False
  |_,_=>False
 |_=>False
def mv(o:Oper)(V:Operand->SV)(bx:Nat->Option Bx)(g:Nat)(K:SV->Eff->Prop):Prop :=
 match o.op with
 | .move x | .assign x=>match V x with
  | .unk=>K .unk {}
  | .und=>K .und {}
  | .iv y=>K (.iv y) {}
  | .nilS=>K .nilS {}
  | .ptr g' off=>K (.ptr g' off) {}
  | .ref g' off n fl=>K (.ref g' off n fl) {}
  | .iptr y off=>K (.iptr y off) {}
  | .eptr g' i off=>K (.eptr g' i off) {}
  | .clo f gs=>K (.clo f gs) {}
  | .yld l=>K (.yld l) {}
  | .val v=>K (.val v) {}
  | .slN n=>K (.slN n) {}
  | .cv v f gs=>K (.cv v f gs) {}
 | .pick c a b=>match V c with
  | .iv (.bool c)=>∃r,(c=true->V a=r)/\(c=false->V b=r)/\K r {}
  |_=>False
 | .alloc t=>match T t,bx g with
  |some ty,none=>K (.ptr g 0) { wr:=[(g,.var ty.zero)],bump:=1 }
  |_,_=>False
 | .box _ x=>match dL bx (V x),bx g with
  |some (y,f),none=>bif y.isTup then False else K (.ptr g 0) { rd:=f,fz:=f,wr:=[(g,.var y)],bump:=1 }
  |_,_=>False
 | .build t parts=>match T t with
  |some ty=>match ty.sh with
   | .struct=>match jt ty.fields bx V ty.zero.cells parts.toList with
    |some (cs,f)=>K (.iv (.agg cs)) { rd:=f,fz:=f }
    |none=>False
   | .array n e=>match T e with
    |some te=>match jt (AE n te.size te.sh.agg) bx V ty.zero.cells parts.toList with
     |some (cs,f)=>K (.iv (.agg cs)) { rd:=f,fz:=f }
     |none=>False
    |none=>False
   |_=>False
  |none=>False
 | .buildSlice t len parts=>match T t,bx g with
  |some ty,none=>match ty.sh with
   | .slice e=>match T e with
    |some te=>bif Nat.blt 0 te.size&&Nat.ble (len*te.size) 16777216&&Nat.beq te.zero.cells.length te.size then(match kS te.size bx V (List.replicate len te.zero) parts.toList with
     |some (es,f)=>K (.ref g 0 len true) { rd:=f,fz:=f,wr:=[(g,.arr e te.size es false)],bump:=1 }
     |none=>False) else False
    |none=>False
   |_=>False
  |_,_=>False
 | .load t x=>match T t with
  |some ty=>match V x with
   | .ptr g' off=>match bx g' with
    |some (.var y)=>match jE ty.sh.agg ty.size y off with
     |some r=>K (.iv r) { rd:=[g'] }
     |none=>False
    |some (.bld (.row v0 _ j _ _ es))=>bif Nat.beq off j&&Nat.beq ty.size 1 && !ty.sh.agg then(match v0 with
     |some v=>K (.val v) { rd:=[g'] }
     |none=>K (.slN es.length) { rd:=[g'] }) else False
    |_=>False
   | .iptr y off=>match jE ty.sh.agg ty.size y off with
    |some r=>K (.iv r) {}
    |none=>False
   | .eptr g' i off=>match bx g' with
    |some (.arr _ _ es _)=>∃y,es[i]?=some y/\(match jE ty.sh.agg ty.size y off with
     |some r=>K (.iv r) { rd:=[g'] }
     |none=>False)
    |_=>False
   |_=>False
  |none=>False
 | .store t x y=>match T t,dL bx (V y) with
  |some ty,some (z,f)=>bif Nat.beq z.cells.length ty.size && !z.isTup then(match V x with
   | .ptr g' off=>match bx g' with
    |some (.var u)=>match ul u off z with
     |some u'=>K .und { rd:=g'::f,fz:=f,wr:=[(g',.var u')] }
     |none=>False
    |_=>False
   | .eptr g' i off=>match bx g' with
    |some (.arr e sz es false)=>¬(g'∈f)/\∃u,es[i]?=some u/\(match ul u off z with
     |some u'=>K .und { rd:=g'::f,fz:=f,wr:=[(g',.arr e sz (es.set i u') false)] }
     |none=>False)
    |_=>False
   |_=>False) else False
  |_,_=>False
 | .binOp op t x y _=>match V x,V y with
  | .iv (.int k a),.iv (.int k' b)=>k=k'/\nh op k a b (fun r=>K (.iv r) {})
  | .iv (.str a),.iv (.str b)=>nc op a b (fun r=>K (.iv r) {})
  | .iv (.bool a),.iv (.bool b)=>match T t with
   |some ty=>match ty.sh with
    | .bool=>tz op a b (fun r=>K (.iv r) {})
    |_=>False
   |none=>False
  |_,_=>False
 | .unOp op _ x=>match op,V x with
  | .not,.iv (.bool a)=>∃c,(!a)=c/\K (.iv (.bool c)) {}
  | .neg,.iv (.int k a)=>∃n,k.wrap (0-a)=n/\K (.iv (.int k n)) {}
  |_,_=>False
 | .convert s d x=>match T s,T d with
  |some ts,some td=>match ts.sh,td.sh,V x with
   | .int _,.int k,.iv (.int _ a)=>∃n,k.wrap a=n/\K (.iv (.int k n)) {}
   | .string,.string,.iv (.str l)=>K (.iv (.str l)) {}
   |_,_,_=>False
  |_,_=>False
 | .makeSlice t l c=>match T t,bx g with
  |some ty,none=>match ty.sh with
   | .slice e=>match T e,V l,V c with
    |some te,.iv (.int _ a),.iv (.int _ b)=>bif Nat.blt 0 te.size&&Nat.beq te.zero.cells.length te.size then(a=b/\∃m:Nat,a=(m:Int)/\te.bytes*m<=281474976710656/\m<=maxLen/\
     K (.ref g 0 m true) { wr:=[(g,.arr e te.size (List.replicate m te.zero) false)],bump:=1 }) else False
    |_,_,_=>False
   |_=>False
  |_,_=>False
 | .slice t x lo hi mx=>match T t with
  |some ty=>match ty.sh,V x with
   | .string,.iv (.str s)=>match mx with
    |none=>fB (hi.map V) s.length fun h=>fB (lo.map V) 0 fun l=>l<=h/\h<=s.length/\K (.iv (.str ((s.take h).drop l))) {}
    |some _=>False
   | .slice e,.iv (.sl es)=>match T e with
    |some te=>fB (hi.map V) es.length fun h=>fB (mx.map V) es.length fun m=>fB (lo.map V) 0 fun l=>l<=h/\h<=m/\m<=es.length/\(mx=none\/hi≠none)/\(l=0\/∀y∈es,y.cells.length=te.size)/\K (.iv (.sl ((es.take h).drop l))) {}
    |none=>False
   | .slice e,.nilS=>match T e with
    |some _=>fB (hi.map V) 0 fun h=>fB (mx.map V) 0 fun m=>fB (lo.map V) 0 fun l=>l<=h/\h<=m/\m<=0/\(mx=none\/hi≠none)/\K .nilS {}
    |none=>False
   | .slice e,.ref g' off n _=>match T e,bx g' with
    |some te,some (.arr _ sz _ _)=>sz=te.size/\fB (hi.map V) n fun h=>fB (mx.map V) n fun m=>fB (lo.map V) 0 fun l=>l<=h/\h<=m/\m<=n/\(mx=none\/hi≠none)/\∃c,Nat.beq h l=c/\(match c with
     |true=>K (.iv (.sl [])) { rd:=[g'] }
     |false=>K (.ref g' (off+l) (h-l) false) { rd:=[g'] })
    |_,_=>False
   |_,_=>False
  |none=>False
 | .fieldAddr s x j=>match T s with
  |some ty=>match ty.sh,ty.fields[j]? with
   | .struct,some (fo,_,sz)=>bif Nat.blt 0 sz then(match V x with
    | .ptr g' off=>K (.ptr g' (off+fo)) {}
    | .iptr y off=>K (.iptr y (off+fo)) {}
    | .eptr g' i off=>match bx g' with
     |some (.arr ..)=>K (.eptr g' i (off+fo)) { rd:=[g'] }
     |_=>False
    |_=>False) else False
   |_,_=>False
  |none=>False
 | .field s x j=>match T s with
  |some ty=>match ty.sh,ty.fields[j]?,V x with
   | .struct,some (fo,ag,sz),.iv (.agg cs)=>match jE ag sz (.agg cs) fo with
    |some r=>K (.iv r) {}
    |none=>False
   |_,_,_=>False
  |none=>False
 | .indexAddr t x ix=>match T t with
  |some ty=>match ty.sh,V x,V ix with
   | .slice e,.iv (.sl es),.iv (.int _ a)=>match T e with
    |some te=>∃(j:Nat) (y:IV),a=(j:Int)/\es[j]?=some y/\y.cells.length=te.size/\K (.iptr y 0) {}
    |none=>False
   | .slice e,.ref g' off n _,.iv (.int _ a)=>match T e,bx g' with
    |some te,some (.arr _ sz _ _)=>sz=te.size/\∃j:Nat,a=(j:Int)/\j<n/\K (.eptr g' (off+j) 0) { rd:=[g'] }
    |_,_=>False
   | .array n e,.ptr g' off,.iv (.int _ a)=>match T e with
    |some te=>∃j:Nat,a=(j:Int)/\j<n/\K (.ptr g' (off+j*te.size)) {}
    |none=>False
   |_,_,_=>False
  |none=>False
 | .index t x ix=>match T t with
  |some ty=>match ty.sh,V x,V ix with
   | .string,.iv (.str s),.iv (.int _ a)=>∃(j:Nat) (b:UInt8),a=(j:Int)/\s[j]?=some b/\∃n:Int,(b.toNat:Int)=n/\K (.iv (.int .u8 n)) {}
   |_,_,_=>False
  |none=>False
 | .extract x j=>match V x with
  | .iv (.tup vs)=>match vs[j]? with
   |some y=>K (.iv y) {}
   |none=>False
  |_=>False
 | .makeFunc fn first captured=>match fn,first.toList,n3 V captured.toList with
  | .func f,[],some gs=>match gs with
   | []=>K (.iv (.fn f)) {}
   |g'::gs=>K (.clo f (g'::gs)) {}
  |_,_,_=>False
 | .call { callee:=.builtin b,args,argTypes }=>nW T b argTypes.toList args.toList V bx g K
 | .call { callee:=.value f,args,.. }=>match V f with
  | .iv (.fn f)=>match Φ.ma f with
   |true=>match gK bx V args.toList with
    |some (xs,fs)=>∃(f':FuncId) (zs:List IV),Φ.mkr f xs f' zs/\iG bx (dR g zs.length)=true/\K (.clo f' (dR g zs.length)) { rd:=fs,fz:=fs,wr:=pJ (dR g zs.length) zs,bump:=1 }
    |none=>False
   |false=>match Φ.mu f with
    |false=>match gK bx V args.toList with
     |some (xs,fs)=>∃r,Φ.pu f xs r/\K (.iv r) { rd:=fs,fz:=fs }
     |none=>False
    |true=>match args.toList with
     |x::rest=>match V x with
      | .ref g' off n _=>match bx g',gK bx V rest with
       |some (.arr e sz es false),some (xs,fs)=>¬(g'∈fs)/\∃es' r,Φ.mt f e sz off n es xs es' r/\es'.length=es.length/\K (.iv r) { rd:=g'::fs,fz:=fs,wr:=[(g',.arr e sz es' false)] }
       |_,_=>False
      |_=>False
     | []=>False
  |_=>False
 |_=>False
end
def nY(v:Value)(vs:List Value):aX (v::vs)=v.cells.toList++aX vs:=rfl
def sM(us vs:List Value):aX (us++vs)=aX us++aX vs:=by simp[aX]
def jn{sz:Nat}:∀{vs:List Value},(∀v∈vs,v.cells.size=sz)->(aX vs).length=vs.length*sz
 | [],_=>by simp[aX]
 |v::vs,h=>by
  have h1:=h v (by simp);have h2:=jn (vs:=vs) (fun u hu=>h u (by simp[hu]));rw[nY,bg,h2,fC,h1,aY,bQ];omega
def qX{sz:Nat}:∀{vs:List Value} (n:Nat),(∀v∈vs,v.cells.size=sz)->(aX vs).drop (n*sz)=aX (vs.drop n)
 |vs,0,_=>by simp
 | [],n+1,_=>by simp[aX]
 |v::vs,n+1,h=>by
  have h1:=h v (by simp);rw[nY,List.drop_succ_cons,<-qX n (fun u hu=>h u (by simp[hu])),bQ,nJ,uG,<-oD];congr 1;rw[NP,oE (by simp[h1])];simp[h1]
def qW{sz:Nat}:∀{vs:List Value} (n:Nat),(∀v∈vs,v.cells.size=sz)->(aX vs).take (n*sz)=aX (vs.take n)
 |vs,0,_=>by simp[aX]
 | [],n+1,_=>by simp[aX]
 |v::vs,n+1,h=>by
  have h1:=h v (by simp);rw[nY,List.take_succ_cons,nY,<-qW n (fun u hu=>h u (by simp[hu])),NQ,ay (by simp[h1,bQ])];congr 2;simp[h1,bQ]
def flat_get{sz:Nat}{vs:List Value}(h:∀v∈vs,v.cells.size=sz){i:Nat}{v:Value}(hi:vs[i]?=some v):((aX vs).drop (i*sz)).take sz=v.cells.toList:=by
 rw[qX i h];have hlt:i<vs.length:=(List.getElem?_eq_some_iff.1 hi).1;have hv:vs[i]=v:=(List.getElem?_eq_some_iff.1 hi).2;have h1:=h v (by rw[<-hv];exact iw hlt);rw[gS hlt,hv,nY,jJ (by simp[h1]),ay (by simp[h1])]
def flat_set{sz:Nat}{vs:List Value}{i:Nat}{u:Value}(h:∀v∈vs,v.cells.size=sz)(hu:u.cells.size=sz)(hi:i<vs.length):aX (vs.set i u)=splice (aX vs) (i*sz) u.cells.toList:=by
 rw[List.set_eq_take_append_cons_drop,au hi,sM,nY];unfold splice;rw[qW i h,fC,hu,show i*sz+sz=(i+1)*sz by rw[bQ];omega,qX (i+1) h,dI]
def yx{vs:List Value}{v:Value}(hv:v∈vs){c:Value}(hc:c∈v.cells.toList):c∈aX vs:=List.mem_flatMap.2 ⟨v,hv,hc⟩
def qZ{vs:List Value}(h:∀v∈vs,∀c∈v.cells.toList,c.oneCell'=true):∀c∈aX vs,c.oneCell'=true:=by
 intro c hc;obtain⟨v,hv,hc⟩:=List.mem_flatMap.1 hc;exact h v hv c hc
def LT{H:ak}{v:Value}{x y:IV}{ag:Bool}{sz off:Nat}(hv:VR H v x)(h:jE ag sz x off=some y) :
 (ag=true/\off+sz<=v.cells.size/\VR H (.agg ((v.cells.toList.drop off).take sz).toArray) y)\/(ag=false/\∃u,v.cells.toList[off]?=some u/\VR H u y):=by
 have hc:=hv.cells;have hs:=hv.size;unfold jE at h;split at h
 .
  left;refine⟨rfl,?_⟩;have main:∀(o:Nat),x.isTup=false->VR H (.agg ((v.cells.toList.drop o).take sz).toArray) (.agg ((x.cells.drop o).take sz)):=fun o hx=>
   .agg _ _ ((hc.drop o).take sz) (fun u hu=>hv.one hx u (jK (dY hu)))
  cases hb:(Nat.beq off 0&&x.isAgg&&Nat.beq x.cells.length sz) with
  |true=>
   rw[hb] at h;simp only[al,ai] at h;subst h;simp only[aH] at hb;obtain⟨⟨h1,h2⟩,h3⟩:=hb;have e1:=aB h1;have e3:=aB h3;subst e1;have m:=main 0 (by rw[xU h2];rfl);rw[bW,bW,ay (l:=x.cells) (by omega),<-xU h2] at m;exact⟨by omega,by simpa using m⟩
  |false=>
   rw[hb] at h;cases hb2:(Nat.ble (off+sz) x.cells.length && !x.isTup) with
   |true=>
    rw[hb2] at h;simp only[al,bh,ai] at h;subst h;simp only[aH,gz] at hb2;have e:=bl hb2.1;exact⟨by omega,main off hb2.2⟩
   |false=>rw[hb2] at h;simp at h
 right;obtain⟨u,h1,h2⟩:=hc.get off y h;exact⟨rfl,u,h1,h2⟩
def Lz{H:ak}{v u:Value}{x z x':IV}{off:Nat}(hv:VR H v x)(hu:VR H u z)(hx:x.isTup=false)(hz:z.isTup=false)(h:ul x off z=some x') :
 ∃v',VR H v' x'/\v'.cells.toList=splice v.cells.toList off u.cells.toList/\off+u.cells.size<=v.cells.size/\x'.isTup=false/\x'.cells.length=x.cells.length:=by
 have hus:=hu.size;have hvs:=hv.size;have hso:∀c∈splice v.cells.toList off u.cells.toList,c.oneCell'=true:=by
  intro c hc;unfold splice at hc;simp only[qB] at hc;rcases hc with(hc|hc)|hc
  . exact hv.one hx c (dY hc)
  . exact hu.one hz c hc
  exact hv.one hx c (jK hc)
 have main:off+z.cells.length<=x.cells.length->∃v',VR H v' (.agg (splice x.cells off z.cells))/\v'.cells.toList=splice v.cells.toList off u.cells.toList/\off+u.cells.size<=v.cells.size/\(IV.agg (splice x.cells off z.cells)).isTup=false/\(IV.agg (splice x.cells off z.cells)).cells.length=x.cells.length:=fun hl=>
  ⟨.agg (splice v.cells.toList off u.cells.toList).toArray,.agg _ _ (hv.cells.splice hu.cells off) hso,by simp[Value.cells],by omega,rfl,by simp only[IV.cells];exact jm hl⟩
 by_cases hag:x.isAgg=true
 .
  rw[xU hag] at h;simp only[ul] at h;cases hb:(Nat.beq off 0&&z.isAgg&&Nat.beq x.cells.length z.cells.length) with
  |true=>
   rw[hb] at h;simp only[al,ai] at h;subst h;simp only[aH] at hb;obtain⟨⟨h1,h2⟩,h3⟩:=hb;have e1:=aB h1;have e3:=aB h3;subst e1;obtain⟨v',a1,a2,a3,a4,a5⟩:=main (by omega);rw[G0 e3.symm,<-xU h2] at a1;exact⟨v',a1,a2,a3,hz,e3.symm⟩
  |false=>
   rw[hb] at h;cases hb2:Nat.ble (off+z.cells.length) x.cells.length with
   |true=>
    rw[hb2] at h;simp only[al,bh,ai] at h;subst h;exact main (bl hb2)
   |false=>rw[hb2] at h;simp at h
 have hag':x.isAgg=false:=by simpa using hag
 have e1:=GL hag';have h':(bif Nat.beq off 0 && !z.isAgg then some z else none)=some x':=by
  cases x<;>first|exact h|simp[IV.isAgg] at hag
 cases hb:(Nat.beq off 0 && !z.isAgg) with
 |true=>
  rw[hb] at h';simp only[al,ai] at h';subst h';simp only[aH,gz] at hb;have e0:=aB hb.1;subst e0;have e2:=GL hb.2;have l1:v.cells.toList.length=1:=by rw[fC,hvs,e1];rfl
  have l2:u.cells.toList.length=1:=by rw[fC,hus,e2];rfl
  refine⟨u,hu,?_,by simp at l1 l2;omega,hz,by rw[e1,e2];rfl⟩;unfold splice;rw[oE (by omega)];simp
 |false=>rw[hb] at h';simp at h'
section
variable {P:Program}
def eW(b o n:Nat):(⟨b,o,none⟩:Addr).add n=⟨b,o+n,none⟩:=by unfold Addr.add;split<;>simp_all
def sJ{t:TypeId}{ty:TY}{i:TypeInfo}{d:TypeDesc}{zv:Value}(ht:TyOk P t ty i d zv){w:World}{H:ak}{b base off:Nat}{arr:Array Value}{e:TypeId}{fr:Nat×Nat}(hw:w.heap[b]?=some (.cells arr e fr))
 {v:Value} {x y:IV} (hv:VR H v x) (ha:(arr.toList.drop base).take v.cells.size=v.cells.toList) (h:jE ty.sh.agg ty.size x off=some y) :
 ∃u,(loadVar t ⟨b,base+off,none⟩).run P w=.ok u w/\VR H u y:=by
 have hcell:∀j c,v.cells.toList[j]?=some c->w.cell? ⟨b,base+j,none⟩=some c:=fun j c hc=>by
  rw[qD w b _ arr e fr hw];rw[<-ha,dt] at hc;split at hc
  . simpa using hc
  simp at hc
 rcases LT hv h with⟨h1,h2,h3⟩|⟨h1,u,h2,h3⟩
 .
  refine⟨_,?_,h3⟩;have hl:=NR (P:=P) w ⟨b,base+off,none⟩ ((v.cells.toList.drop off).take ty.size) (fun j c hc=>by
   rw[eW,mG];refine hcell _ _ ?_;rw[dt] at hc;split at hc
   . simpa using hc
   simp at hc)
  have hlen:((v.cells.toList.drop off).take ty.size).length=ty.size:=by simp;omega
  rw[hlen] at hl;simp only[loadVar,aw,ht.run_agg,h1,av,bL,ht.run_size,hl,aA]
 refine⟨u,?_,h3⟩;simp only[loadVar,aw,ht.run_agg,h1,av,dB,bM,run_load,hcell off u h2]
def Bn{t:TypeId}{ty:TY}{i:TypeInfo}{d:TypeDesc}{zv:Value}(ht:TyOk P t ty i d zv){w:World}{b o:Nat}{arr:Array Value}{e:TypeId}(hw:w.heap[b]?=some (.cells arr e (0,0)))
 {u:Value} (hs:u.cells.size=ty.size) (hf:o+u.cells.size<=arr.size) (h1:∀c∈u.cells.toList,c.oneCell'=true) :
 (storeVar t ⟨b,o,none⟩ u).run P w=.ok () (w.setRow b (splice arr.toList o u.cells.toList).toArray):=by
 have:=FC P b o e u.cells.toList 0 arr w hw (by simpa using hf) h1;simp only[storeVar,aw,ht.run_size,av,hs,ne_eq,uH,bM];simpa[splice] using this
end
def uY(bx:Nat->Option Bx):∀(a b:List Nat),bT bx (a++b)=bT (bT bx a) b
 | [],_=>rfl
 |g::a,b=>by simp only[lC,bT];exact uY _ a b
def S4(bx:Nat->Option Bx)(g:Nat)(s:SV):dL (az bx g (jF (bx g))) s=dL bx s:=by
 cases s with
 |ref g' off n fl=>
  simp only[dL];by_cases h:g'=g
  . subst h;rw[a6];cases bx g' with
    |none=>rfl
    |some b=>cases b<;>rfl
  rw[aI _ _ _ h]
 |_=>rfl
def vV(bx:Nat->Option Bx)(s:SV):∀(f:List Nat),dL (bT bx f) s=dL bx s
 | []=>rfl
 |g::f=>by simp only[bT];rw[vV _ s f,S4]
def qQ:∀(f:List Nat) (bx:Nat->Option Bx) (g':Nat),bx g'=none->bT bx f g'=none
 | [],_,_,h=>h
 |g::f,bx,g',h=>by
  refine qQ f _ g' ?_;by_cases e:g'=g
  . subst e;rw[a6,h];rfl
  rw[aI _ _ _ e];exact h
def Ce:∀(f:List Nat) (bx:Nat->Option Bx) (g':Nat) (x:IV),bx g'=some (.var x)->bT bx f g'=some (.var x)
 | [],_,_,_,h=>h
 |g::f,bx,g',x,h=>by
  refine Ce f _ g' x ?_;by_cases e:g'=g
  . subst e;rw[a6,h];rfl
  rw[aI _ _ _ e];exact h
def sL:∀(f:List Nat) (bx:Nat->Option Bx) (g':Nat),g'∉f->bT bx f g'=bx g'
 | [],_,_,_=>rfl
 |g::f,bx,g',h=>by
  simp only[fD,not_or] at h;simp only[bT];rw[sL f _ g' h.2,aI _ _ _ h.1]
section
variable {E:Env}{H:ak}{U:Nat->Nat × Nat}{tm:Nat->SV}{bx:Nat->Option Bx}{tmps:Array Value}{w:World}
def nb(h:Sim E H U tm bx tmps w){v:Value}{s:SV}{x:IV}{f:List Nat}(hv:SR H U bx v s)(ht:dL bx s=some (x,f)) :
 ∃H',HLe H H'/\Sim E H' U tm (bT bx f) tmps w/\VR H' v x:=by
 cases s with
 |iv y=>simp only[dL,ai,aC] at ht;obtain⟨rfl,rfl⟩:=ht;exact⟨H,HLe.refl _,h,hv⟩
 |cv u f0 gs=>
  simp only[dL,ai,aC] at ht;obtain⟨rfl,rfl⟩:=ht;obtain⟨rfl,_,e⟩:=hv;refine⟨H,HLe.refl _,h,?_⟩;rw[e];exact .val _ _
 |nilS=>
  simp only[dL,ai,aC] at ht;obtain⟨rfl,rfl⟩:=ht;have:v=.slice none 0 0:=hv;subst this;exact⟨H,HLe.refl _,h,.sl0 _ _⟩
 |ref g off n full=>
  simp only[dL] at ht;split at ht
  .
   rename_i e sz es fz hg;simp only[ai,aC] at ht;obtain⟨rfl,rfl⟩:=ht;simp only[SR,hg] at hv;obtain⟨cap,rfl,h1,h2,h3,_⟩:=hv;obtain⟨H',hle,_,hS,arr,vs,ha,hvs,hsz,hone,htk⟩:=h.freeze hg;refine⟨H',hle,?_,?_⟩
   . simp only[bT,hg,jF];exact hS
   have hl:=hvs.length;refine .sl _ _ _ _ sz arr ((vs.drop off).take n) _ ha ((hvs.drop off).take n) (by simp;omega) h1 (fun u hu=>hsz u (jK (dY hu))) ?_;have hlen:((vs.drop off).take n).length=n:=by simp;omega
   rw[hlen,<-qW n (fun u hu=>hsz u (jK hu)),<-qX off hsz,<-htk,mH,cB,ce];rw[<-uI];exact cL _ (by omega)
  simp at ht
 |_=>simp[dL] at ht
def Qc(v:Value):SR H U bx v (DD v):=by
 unfold DD;split<;>first|exact trivial|exact rfl|(show VR H _ _;constructor<;>rfl)|(show VR H _ _;constructor)
def bb(h:Sim E H U tm bx tmps w){a:Act}(ha:a.tmps=tmps)(x:Operand):SR H U bx (a.eval x) (aS tm x):=by
 cases x with
 |tmp t=>have:=h.slot t;rw[<-ha] at this;exact this
 |const v=>exact Qc v
 |global g=>exact trivial
 |func f=>exact VR.fn f
def tf{a:Act}(ha:a.tmps=tmps):∀{H:ak} {bx:Nat->Option Bx} (_:Sim E H U tm bx tmps w) {os:List Operand} {xs:List IV} {fs:List Nat},gK bx (aS tm) os=some (xs,fs)->
 ∃H',HLe H H'/\Sim E H' U tm (bT bx fs) tmps w/\VRL H' (os.map a.eval) xs
 |H,bx,h,[],xs,fs,ht=>by simp only[gK,ai,aC] at ht;obtain⟨rfl,rfl⟩:=ht;exact⟨H,HLe.refl _,h,.nil⟩
 |H,bx,h,o::os,xs,fs,ht=>by
  simp only[gK] at ht;split at ht
  .
   rename_i x f h1;split at ht
   .
    rename_i ys gs h2;simp only[ai,aC] at ht;obtain⟨rfl,rfl⟩:=ht;obtain⟨H1,l1,S1,V1⟩:=nb h (bb h ha o) h1;have h2':gK (bT bx f) (aS tm) os=some (ys,gs):=by
     rw[<-h2];clear h2;induction os with
     |nil=>rfl
     |cons o' os ih=>simp only[gK,vV,ih]
    obtain⟨H2,l2,S2,V2⟩:=tf ha S1 h2';refine⟨H2,l1.trans l2,by rw[uY];exact S2,.cons _ _ _ _ (V1.mono l2) V2⟩
   simp at ht
  simp at ht
end
def Rc(ys:List Value):∀(cs:Array Value) (off k:Nat),off+k+ys.length<=cs.size->
 ((ys.toArray.zipIdx k).foldl (fun cs (c,j)=>cs.setIfInBounds (off+j) c) cs).toList=splice cs.toList (off+k) ys:=by
 induction ys with
 |nil=>
  intro cs off k _;have e:(#[]:Array Value).zipIdx k = #[]:=by apply fc;simp
  simp[splice,e]
 |cons y ys ih=>
  intro cs off k h;have e:(y::ys).toArray.zipIdx k = #[(y,k)]++ys.toArray.zipIdx (k+1):=by
   apply fc;simp[List.zipIdx_cons]
  rw[e,Array.foldl_append];simp only[lD,aY,oF,a8,List.foldl_toArray',iV,uJ];rw[ih _ off (k+1) (by simp at h ⊢;omega)];unfold splice;simp only[Array.toList_setIfInBounds,aY];have hl:off+k<cs.toList.length:=by simp at h ⊢;omega
  rw[show off+(k+1)=off+k+1 by omega];apply qE;intro i;simp only[dI,xd,bG,du,dt,AU,sk,aY,List.getElem?_cons];repeat' split
  all_goals first|rfl|omega|skip
  all_goals (first|(congr 1;omega)|skip)
def Jt(fields:List (Nat×Bool×Nat))(bx:Nat->Option Bx)(V:Operand->SV)(f:List Nat):∀(parts:List (Nat×Operand)) (cs:List IV),jt fields (bT bx f) V cs parts=jt fields bx V cs parts
 | [],_=>rfl
 | (j,o)::rest,cs=>by
   simp only[jt,vV];split
   . rename_i off ag sz y g h1 h2;rw[Jt fields bx V f rest]
   rfl
def Jv(sz:Nat)(bx:Nat->Option Bx)(V:Operand->SV)(f:List Nat):∀(parts:List (Nat×Operand)) (es:List IV),kS sz (bT bx f) V es parts=kS sz bx V es parts
 | [],_=>rfl
 | (j,o)::rest,es=>by
   simp only[kS,vV];split
   . rename_i y g h2;rw[Jv sz bx V f rest]
   rfl
def BG(v:Value)(cs:Array Value)(off:Nat)(h:off+v.cells.size<=cs.size) :
 (v.cells.zipIdx.foldl (fun cs (c,j)=>cs.setIfInBounds (off+j) c) cs).toList=splice cs.toList off v.cells.toList:=by
 have:=Rc v.cells.toList cs off 0 (by simpa using h);simpa using this
section
variable {E:Env}{U:Nat->Nat × Nat}{tm:Nat->SV}{tmps:Array Value}{w:World}{a:Act}
def CP(ha:a.tmps=tmps){fields:List (Nat×Bool×Nat)}{places:Nat->Option (Nat×Nat)}(hp:∀j off ag sz,fields[j]?=some (off,ag,sz)->places j=some (off,sz)) :
 ∀{parts:List (Nat×Operand)} {H:ak} {bx:Nat->Option Bx} (_:Sim E H U tm bx tmps w) {cs:List IV} {cells:Array Value} (_:VRL H cells.toList cs) (_:∀c∈cells.toList,c.oneCell'=true) {r:List IV} {f:List Nat},
  jt fields bx (aS tm) cs parts=some (r,f)->
  ∃H' cells',HLe H H'/\Sim E H' U tm (bT bx f) tmps w/\Instr.fill places cells (parts.map fun p=>(p.1,a.eval p.2))=some cells'/\VRL H' cells'.toList r/\∀c∈cells'.toList,c.oneCell'=true
 | [],H,bx,h,cs,cells,hc,h1,r,f,hf=>by
  simp only[jt,ai,aC] at hf;obtain⟨rfl,rfl⟩:=hf;exact⟨H,cells,HLe.refl _,h,rfl,hc,h1⟩
 | (j,o)::rest,H,bx,h,cs,cells,hc,h1,r,f,hf=>by
   simp only[jt] at hf;split at hf
   .
    rename_i off ag sz y g e1 e2;cases hb:(Nat.beq y.cells.length sz&&Nat.ble (off+sz) cs.length && !y.isTup) with
    |false=>rw[hb] at hf;simp at hf
    |true=>
     rw[hb] at hf;simp only[al] at hf;simp only[aH,gz] at hb;obtain⟨⟨b1,b2⟩,b3⟩:=hb;have c1:=aB b1;have c2:=bl b2;split at hf
     .
      rename_i r' fs e3;simp only[ai,aC] at hf;obtain⟨rfl,rfl⟩:=hf;obtain⟨H1,l1,S1,V1⟩:=nb h (bb h ha o) e2;have hs:=V1.size;have hl:=hc.length;have hfit:off+(a.eval o).cells.size<=cells.size:=by simp at hl;omega
      have hfold:=BG (a.eval o) cells off hfit;obtain⟨H2,cells',l2,S2,e4,V2,o2⟩:=CP ha hp (parts:=rest) S1 (cs:=splice cs off y.cells) (cells:=(a.eval o).cells.zipIdx.foldl (fun cs (c,j)=>cs.setIfInBounds (off+j) c) cells)
       (by rw[hfold];exact(hc.mono l1).splice V1.cells off)
       (by
         rw[hfold];intro c hcm;unfold splice at hcm;simp only[qB] at hcm;rcases hcm with(hcm|hcm)|hcm
         . exact h1 c (dY hcm)
         . exact V1.one b3 c hcm
         exact h1 c (jK hcm))
       (r:=r') (f:=fs) (by rw[Jt];exact e3)
      refine⟨H2,cells',l1.trans l2,by rw[uY];exact S2,?_,V2,o2⟩;simp only[aZ,Instr.fill,hp j off ag sz e1];have hsz:(a.eval o).cells.size=sz:=by omega
      have hgt:¬(off+sz>cells.size):=by omega
      rw[aq (by simp only[ne_eq,hsz,uH,decide_false,xe,ff];omega)];exact e4
     simp at hf
   simp at hf
def Ju(ha:a.tmps=tmps){sz:Nat} :
 ∀{parts:List (Nat×Operand)} {H:ak} {bx:Nat->Option Bx} (_:Sim E H U tm bx tmps w) {es:List IV} {vs:List Value} {cells:Array Value} (_:cells.toList=aX vs) (_:VRL H vs es) (_:∀v∈vs,v.cells.size=sz) (_:∀v∈vs,∀c∈v.cells.toList,c.oneCell'=true) {r:List IV} {f:List Nat},
  kS sz bx (aS tm) es parts=some (r,f)->
  ∃H' vs' cells',HLe H H'/\Sim E H' U tm (bT bx f) tmps w/\Instr.fill (fun i=>some (i*sz,sz)) cells (parts.map fun p=>(p.1,a.eval p.2))=some cells'/\cells'.toList=aX vs'/\VRL H' vs' r/\(∀v∈vs',v.cells.size=sz)/\(∀v∈vs',∀c∈v.cells.toList,c.oneCell'=true)/\vs'.length=vs.length
 | [],H,bx,h,es,vs,cells,hc,hv,hz,h1,r,f,hf=>by
  simp only[kS,ai,aC] at hf;obtain⟨rfl,rfl⟩:=hf;exact⟨H,vs,cells,HLe.refl _,h,rfl,hc,hv,hz,h1,rfl⟩
 | (j,o)::rest,H,bx,h,es,vs,cells,hc,hv,hz,h1,r,f,hf=>by
   simp only[kS] at hf;split at hf
   .
    rename_i y g e2;cases hb:(Nat.beq y.cells.length sz&&Nat.blt j es.length && !y.isTup) with
    |false=>rw[hb] at hf;simp at hf
    |true=>
     rw[hb] at hf;simp only[al] at hf;simp only[aH,gz] at hb;obtain⟨⟨b1,b2⟩,b3⟩:=hb;have c1:=aB b1;have c2:j<es.length:=kz (by simpa[Nat.blt] using b2);split at hf
     .
      rename_i r' fs e3;simp only[ai,aC] at hf;obtain⟨rfl,rfl⟩:=hf;obtain⟨H1,l1,S1,V1⟩:=nb h (bb h ha o) e2;have hs:=V1.size;have hl:=hv.length;have hsz:(a.eval o).cells.size=sz:=by omega
      have hlen:cells.size=vs.length*sz:=by rw[<-fC,hc,jn hz]
      have hmul:j*sz+sz<=vs.length*sz:=by
       have:=cL sz (show j+1<=vs.length by omega);rw[bQ,nJ] at this;exact this
      have hfit:j*sz+(a.eval o).cells.size<=cells.size:=by omega
      have hfold:=BG (a.eval o) cells (j*sz) hfit;have hmem:∀v∈vs.set j (a.eval o),v∈vs\/v=a.eval o:=fun v hv'=>FD hv';obtain⟨H2,vs',cells',l2,S2,e4,e5,V2,z2,o2,n2⟩:=Ju ha (sz:=sz) (parts:=rest) S1 (es:=es.set j y) (vs:=vs.set j (a.eval o)) (cells:=(a.eval o).cells.zipIdx.foldl (fun cs (c,k)=>cs.setIfInBounds (j*sz+k) c) cells)
       (by rw[hfold,hc,flat_set hz hsz (by omega)]) ((hv.mono l1).set j V1) (fun v hv'=>(hmem v hv').elim (hz v) (fun e=>by rw[e];exact hsz)) (fun v hv'=>(hmem v hv').elim (h1 v) (fun e=>by rw[e];exact V1.one b3))
       (r:=r') (f:=fs) (by rw[Jv];exact e3)
      refine⟨H2,vs',cells',l1.trans l2,by rw[uY];exact S2,?_,e5,V2,z2,o2,by simpa using n2⟩;simp only[aZ,Instr.fill];rw[aq (by simp only[ne_eq,hsz,uH,decide_false,xe,ff];omega)];exact e4
     simp at hf
   simp at hf
end
def vo{z:Value}{sz:Nat}(hz:z.cells.size=sz)(_hp:0<sz)(n:Nat):(madeCells z.cells (n*sz)).toList=aX (List.replicate n z):=by
 have key:∀n i,(aX (List.replicate n z))[i]?=if i<n*sz then some (z.cells[i%sz]!) else none:=by
  intro n;induction n with
  |zero=>intro i;simp[aX]
  |succ n ih=>
   intro i;rw[qA,nY,xd,fC,hz];by_cases hi:i<sz
   . rw[au hi,au (by rw[bQ];omega),gA hi];have:i<z.cells.size:=by omega
     rw[uK,Array.getElem?_eq_getElem this,AV z.cells i this]
   rw[aq hi,ih (i-sz)];have e:(i-sz)%sz=i%sz:=by
    conv=>rhs;rw[show i=(i-sz)+sz by omega]
    rw[FE]
   rw[e];by_cases h2:i-sz<n*sz
   . rw[au h2,au (by rw[bQ];omega)]
   rw[aq h2,aq (by rw[bQ];omega)]
 apply qE;intro i;rw[key];unfold madeCells;simp only[Array.toList_map,Array.toList_range,bI,hz];by_cases h:i<n*sz
 . rw[au h,FF h];rfl
 rw[aq h,sq (by simpa using h)];rfl
def fb(tm:Nat->SV)(dst:Option Nat)(r:SV):Nat->SV :=
 match dst with
 |some d=>az tm d r
 |none=>tm
structure St(E:Env)(nt:Nat)(H:ak)(U:Nat->Nat×Nat)(tm:Nat->SV)(bx:Nat->Option Bx)(a:Act)(w:World):Prop where
 sim:Sim E H U tm bx a.tmps w
 defers:a.defers=E.mrk
 size:a.tmps.size=nt
def Post(E:Env)(nt:Nat)(tm:Nat->SV)(bx:Nat->Option Bx)(dst:Option Nat)(K:SV->Eff->Prop)(a:Act)(w:World):Prop :=
 ∃r eff H U,K r eff/\St E nt H U (fb tm dst r) (g6 (bT bx eff.fz) eff.wr) a w
def qM{d:TypeDesc}(h:SH.struct=gg d):∃fs,d=.struct fs:=by cases d<;>first|exact⟨_,rfl⟩|simp[gg] at h
def fG{d:TypeDesc}{e:TypeId}(h:SH.slice e=gg d):d=.slice e:=by
 cases d<;>first|(simp only[gg,SH.slice.injEq] at h;rw[h])|simp[gg] at h
def sI{d:TypeDesc}(h:SH.string=gg d):d=.string:=by cases d<;>first|rfl|simp[gg] at h
def Qv{d:TypeDesc}(h:SH.bool=gg d):d=.bool:=by cases d<;>first|rfl|simp[gg] at h
def yu{d:TypeDesc}{k:IntKind}(h:SH.int k=gg d):d=.int k:=by
 cases d<;>first|(simp only[gg,SH.int.injEq] at h;rw[h])|simp[gg] at h
def fI{P:Program}{o:Oper}{a:Act}{w w':World}{K:Act->World->Prop}{Q:Exit->Act->World->Prop}{v:Value}(hr:(execOp a.eval o).run P w=.ok (.value v) w')(h:K (a.put o.dst v) w'):o.wp P a w K Q:=by
 unfold Oper.wp;rw[hr];exact h
def JZ{P:Program}{o:Oper}{a:Act}{w w':World}{K:Act->World->Prop}{Q:Exit->Act->World->Prop}(hr:(execOp a.eval o).run P w=.ok .skip w')(h:K (a.put o.dst undef) w'):o.wp P a w K Q:=by
 unfold Oper.wp;rw[hr];exact h
section
variable {E:Env}{nt:Nat}{H:ak}{U:Nat->Nat × Nat}{tm:Nat->SV}{bx:Nat->Option Bx}{a:Act}{w:World}
def St.put(h:St E nt H U tm bx a w){dst:Option Nat}(hd:∀d,dst=some d->d<nt){v:Value}{r:SV}(hv:SR H U bx v r):St E nt H U (fb tm dst r) bx (a.put dst v) w:=by
 cases dst with
 |none=>exact h
 |some d=>
  refine⟨?_,h.defers,?_⟩
  . exact h.sim.put (by rw[h.size];exact hd d rfl) hv
  show(a.tmps.setIfInBounds d v).size=nt;rw[FG];exact h.size
def Post.mk{H':ak}{U':Nat->Nat×Nat}{bx':Nat->Option Bx}{w':World}(hda:a.defers=E.mrk)(hsa:a.tmps.size=nt)(hS:Sim E H' U' tm bx' a.tmps w'){dst:Option Nat}(hd:∀d,dst=some d->d<nt){v:Value}{r:SV}(hv:SR H' U' bx' v r)
 {K:SV->Eff->Prop} {eff:Eff} (hb:bx'=g6 (bT bx eff.fz) eff.wr) (hK:K r eff):Post E nt tm bx dst K (a.put dst v) w' :=
 ⟨r,eff,H',U',hK,by rw[<-hb];exact St.put ⟨hS,hda,hsa⟩ hd hv⟩
def VR.asInt{v:Value}{k:IntKind}{n:Int}(h:VR H v (.int k n)):v=.int k n:=by cases h;rfl
def oV{v:Value}{b:Bool}(h:VR H v (.bool b)):v=.bool b:=by cases h;rfl
def jU{v:Value}{l:List UInt8}(h:VR H v (.str l)):∃s:ByteArray,v=.string s/\s.data.toList=l:=by cases h with|str s _ e=>exact⟨s,rfl,e⟩
def vT{v:Value}{f:FuncId}(h:VR H v (.fn f)):v=.func (.func f) #[] #[]:=by cases h;rfl
def VR.asAgg{v:Value}{cs:List IV}(h:VR H v (.agg cs)):∃vs:List Value,v=.agg vs.toArray/\VRL H vs cs/\∀u∈vs,u.oneCell'=true:=by cases h with|agg vs _ h1 h2=>exact⟨vs,rfl,h1,h2⟩
def VR.asTup{v:Value}{cs:List IV}(h:VR H v (.tup cs)):∃vs:List Value,v=.tuple vs.toArray/\VRL H vs cs:=by cases h with|tup vs _ h1=>exact⟨vs,rfl,h1⟩
def Sim.newBlock{E:Env}{tmps:Array Value}(h:Sim E H U tm bx tmps w){g:Nat}(hg:bx g=none){b:Bx}{cap:Nat}{arr:Array Value}{e:TypeId}
 (hbr:∀w',w'.heap[w.heap.size]?=some (.cells arr e (0,0))->H w.heap.size=none->E.own w.heap.size->BR E.own w' H (w.heap.size,cap) b) (hnr:∀s R w',b=.bld s->w'.heap[w.heap.size]?=some (.cells arr e (0,0))->¬RowAt s w' w.heap.size R:=by(intro _ _ _ e;cases e)) :
 Sim E H (az U g (w.heap.size,cap)) tm (az bx g (some b)) tmps (w.alloc (.cells arr e)):=by
 refine h.newBox hg (k:=(w.heap.size,cap)) (ah _) ((kA _ _).alloc (ah _) _) ?_ (fun s R e'=>hnr s R _ e' (nK _ _));refine hbr _ (nK _ _) ?_ (h.lo _ (ah _));cases hx:H w.heap.size with
 |none=>rfl
 |some arr'=>have:=h.has.lt hx;omega
variable {P:Program}{T:TypeId->Option TY}{Q:Exit->Act->World->Prop}{o:Oper}{g:Nat}{K:SV->Eff->Prop}
def ok_move(h:St E nt H U tm bx a w)(hd:∀d,o.dst=some d->d<nt){x:Operand}(ho:o.op=.move x\/o.op=.assign x)(hK:K (aS tm x) {}):o.wp P a w (Post E nt tm bx o.dst K) Q:=by
 refine fI (v:=a.eval x) (w':=w) ?_ (Post.mk h.defers h.size h.sim hd (bb h.sim rfl x) rfl hK);rcases ho with ho|ho<;>simp only[execOp,ho]<;>rfl
def ok_pick(h:St E nt H U tm bx a w)(hd:∀d,o.dst=some d->d<nt){c x y:Operand}(ho:o.op=.pick c x y){b:Bool}(hc:aS tm c=.iv (.bool b)){r:SV}(h1:b=true->aS tm x=r)(h2:b=false->aS tm y=r)(hK:K r {}) :
 o.wp P a w (Post E nt tm bx o.dst K) Q:=by
 have hcv:=bb h.sim rfl c;rw[hc] at hcv;have e:=oV hcv;refine fI (v:=if b then a.eval x else a.eval y) (w':=w) ?_ (Post.mk h.defers h.size h.sim hd (r:=r) ?_ rfl hK)
 . simp only[execOp,ho,e,asBool,aw,aA,av]
 cases b with
 |true=>rw[<-h1 rfl];exact bb h.sim rfl x
 |false=>rw[<-h2 rfl];exact bb h.sim rfl y
def ok_alloc(hT:cu P T)(h:St E nt H U tm bx a w)(hd:∀d,o.dst=some d->d<nt){t:TypeId}(ho:o.op=.alloc t){ty:TY}(ht:T t=some ty)(hg:bx g=none)(hK:K (.ptr g 0) { wr:=[(g,.var ty.zero)],bump:=1 }) :
 o.wp P a w (Post E nt tm bx o.dst K) Q:=by
 obtain⟨i,d,z,ok⟩:=aT (hT t ty ht);have hS:=h.sim.newBlock hg (b:=.var ty.zero) (cap:=0) (arr:=z.cells) (e:=t) (fun w' hw hn hlo=>⟨hlo,hn,ok.tup,z,t,ok.vr H,hw⟩);refine fI (v:=.pointer (some ⟨w.heap.size,0,none⟩)) (w':=w.alloc (.cells z.cells t)) ?_ (Post.mk h.defers h.size hS hd (r:=.ptr g 0) ?_ rfl hK)
 . simp only[execOp,ho,Instr.alloc,aw,ok.run_zero,av,newVar,newRow,nL,aA];rfl
 refine⟨by rw[a6];simp,?_⟩;rw[a6]
def ok_box(h:St E nt H U tm bx a w)(hd:∀d,o.dst=some d->d<nt){t:TypeId}{x:Operand}(ho:o.op=.box t x){y:IV}{f:List Nat}(hx:dL bx (aS tm x)=some (y,f))(hg:bx g=none)(hy:y.isTup=false)
 (hK:K (.ptr g 0) { rd:=f,fz:=f,wr:=[(g,.var y)],bump:=1 }):o.wp P a w (Post E nt tm bx o.dst K) Q:=by
 obtain⟨H',hle,S',Vz9'⟩:=nb h.sim (bb h.sim rfl x) hx;have hS:=S'.newBlock (qQ f bx g hg) (b:=.var y) (cap:=0) (arr:=(a.eval x).cells) (e:=t) (fun w' hw hn hlo=>⟨hlo,hn,hy,a.eval x,t,Vz9',hw⟩);refine fI (v:=.pointer (some ⟨w.heap.size,0,none⟩)) (w':=w.alloc (.cells (a.eval x).cells t)) ?_ (Post.mk h.defers h.size hS hd (r:=.ptr g 0) ?_ rfl hK)
 . simp only[execOp,ho,Instr.box,aw,av,newVar,newRow,nL,aA];rfl
 refine⟨by rw[a6];simp,?_⟩;rw[a6]
def Gg{P:Program}{t:TypeId}{ty:TY}{i:TypeInfo}{fs:Array Field}{z:Value}(ok:TyOk P t ty i (.struct fs) z)(w:World)(parts:Array (Nat×Value)){places:List (Nat×Nat)}(hp:fs.toList.mapM (fun f=>(P.info? f.type).map fun i=>(f.offset,i.size))=some places){cells:Array Value}
 (h:Instr.fill (places.toArray[·]?) z.cells parts.toList=some cells):(Instr.build t parts).run P w=.ok (.agg cells) w:=by
 refine run_build w t parts cells ?_;unfold Program.built;simp only[ok.info,ok.und,ok.zero,hp];exact h
def Bl{P:Program}:∀{fs:List Field} {r:List (Nat×Bool×Nat)},ja P fs=some r->fs.mapM (fun f=>(P.info? f.type).map fun i=>(f.offset,i.size))=some (r.map fun p=>(p.1,p.2.2))
 | [],r,h=>by simp[ja] at h;subst h;rfl
 |f::fs,r,h=>by
  simp only[ja] at h;split at h
  . rename_i i d r' h1 h2 h3;simp only[ai] at h;subst h;simp[h1,Bl h3]
  simp at h
def Gk{P:Program}{t e:TypeId}{ty te:TY}{i ie:TypeInfo}{de:TypeDesc}{n:Nat}{z ze:Value}(ok:TyOk P t ty i (.array n e) z)(oke:TyOk P e te ie de ze)(w:World)(parts:Array (Nat×Value)){cells:Array Value}
 (h:Instr.fill (fun j=>some (j*te.size,te.size)) z.cells parts.toList=some cells):(Instr.build t parts).run P w=.ok (.agg cells) w:=by
 refine run_build w t parts cells ?_;unfold Program.built;simp only[ok.info,ok.und,ok.zero,oke.info,oke.size];exact h
def sR{d:TypeDesc}{n:Nat}{e:TypeId}(h:SH.array n e=gg d):d=.array n e:=by
 cases d<;>first|(simp only[gg,SH.array.injEq] at h;rw[h.1,h.2])|simp[gg] at h
def QX(hT:cu P T)(h:St E nt H U tm bx a w)(hd:∀d,o.dst=some d->d<nt){t:TypeId}{parts:Array (Nat×Operand)}(ho:o.op=.build t parts){ty:TY}(ht:T t=some ty){n:Nat}{e:TypeId}(hsh:ty.sh=.array n e){te:TY}(hte:T e=some te){cs:List IV}{f:List Nat}
 (hf:jt (AE n te.size te.sh.agg) bx (aS tm) ty.zero.cells parts.toList=some (cs,f)) (hK:K (.iv (.agg cs)) { rd:=f,fz:=f }):o.wp P a w (Post E nt tm bx o.dst K) Q:=by
 obtain⟨i,d,z,ok⟩:=aT (hT t ty ht);obtain⟨ie,de,ze,oke⟩:=aT (hT e te hte);have hd':=ok.sh;rw[hsh] at hd';obtain rfl:=sR hd';obtain⟨H',cells',hle,S',e1,Vz9',o1⟩:=CP (a:=a) rfl (fields:=AE n te.size te.sh.agg) (places:=fun j=>some (j*te.size,te.size)) (fun j off ag sz hj=>by
  unfold AE at hj;rw[bI] at hj;cases hr:(List.range n)[j]? with
  |none=>rw[hr] at hj;simp at hj
  |some q=>
   rw[hr] at hj;simp only[fE,ai,aC] at hj;have hq:q=j:=by
    rw[FF] at hr
    . simpa using hr.symm
    have:=(List.getElem?_eq_some_iff.1 hr).1;simpa using this
   subst hq;obtain⟨rfl,_,rfl⟩:=hj;rfl) h.sim (ok.vr H).cells ((ok.vr H).one ok.tup) hf
 refine fI (v:=.agg cells') (w':=w) ?_ (Post.mk h.defers h.size S' hd (r:=.iv (.agg cs)) ?_ rfl hK)
 . have hr:=Gk ok oke w (parts.map fun(i,x)=>(i,a.eval x)) (cells:=cells') (by simpa using e1);simp only[execOp,ho,aw,hr,av,aA]
 have:=VR.agg (H:=H') cells'.toList cs Vz9' o1;show VR _ _ _;simpa using this
def ok_build(hT:cu P T)(h:St E nt H U tm bx a w)(hd:∀d,o.dst=some d->d<nt){t:TypeId}{parts:Array (Nat×Operand)}(ho:o.op=.build t parts){ty:TY}(ht:T t=some ty)(hsh:ty.sh=.struct){cs:List IV}{f:List Nat}
 (hf:jt ty.fields bx (aS tm) ty.zero.cells parts.toList=some (cs,f)) (hK:K (.iv (.agg cs)) { rd:=f,fz:=f }):o.wp P a w (Post E nt tm bx o.dst K) Q:=by
 obtain⟨i,d,z,ok⟩:=aT (hT t ty ht);have hd':=ok.sh;rw[hsh] at hd';obtain⟨fs,rfl⟩:=qM hd';have hfields:ja P fs.toList=some ty.fields:=ok.fields;have hpl:=Bl hfields;obtain⟨H',cells',hle,S',e1,Vz9',o1⟩:=CP (a:=a) rfl (fields:=ty.fields) (places:=((ty.fields.map fun p=>(p.1,p.2.2)).toArray[·]?)) (fun j off ag sz hj=>by simp[hj]) h.sim (ok.vr H).cells ((ok.vr H).one ok.tup) hf;refine fI (v:=.agg cells') (w':=w) ?_ (Post.mk h.defers h.size S' hd (r:=.iv (.agg cs)) ?_ rfl hK)
 . have hr:=Gg ok w (parts.map fun(i,x)=>(i,a.eval x)) hpl (cells:=cells') (by simpa using e1);simp only[execOp,ho,aw,hr,av,aA]
 have:=VR.agg (H:=H') cells'.toList cs Vz9' o1;show VR _ _ _;simpa using this
def ok_buildSlice(hT:cu P T)(h:St E nt H U tm bx a w)(hd:∀d,o.dst=some d->d<nt){t:TypeId}{len:Nat}{parts:Array (Nat×Operand)}(ho:o.op=.buildSlice t len parts){ty:TY}(ht:T t=some ty){e:TypeId}(hsh:ty.sh=.slice e){te:TY}(hte:T e=some te)
 (hp:0<te.size) (hl:len*te.size<=16777216) (hzs:te.zero.cells.length=te.size) {es:List IV} {f:List Nat} (hf:kS te.size bx (aS tm) (List.replicate len te.zero) parts.toList=some (es,f)) (hg:bx g=none)
 (hK:K (.ref g 0 len true) { rd:=f,fz:=f,wr:=[(g,.arr e te.size es false)],bump:=1 }):o.wp P a w (Post E nt tm bx o.dst K) Q:=by
 obtain⟨i,d,z,ok⟩:=aT (hT t ty ht);obtain⟨ie,de,ze,oke⟩:=aT (hT e te hte);have hd':=ok.sh;rw[hsh] at hd';obtain rfl:=fG hd';have hzc:ze.cells.size=te.size:=by rw[(oke.vr H).size,hzs]
 have hmf:=vo hzc hp len;obtain⟨H',vs',cells',hle,S',e1,e2,Vz9',z2,o2,n2⟩:=Ju (a:=a) rfl (sz:=te.size) h.sim hmf (VRL.replicate (oke.vr H) len) (fun v hv=>by rw[AW hv];exact hzc) (fun v hv=>by rw[AW hv];exact(oke.vr H).one oke.tup) hf;have hlen:vs'.length=len:=by simpa using n2
 have hcs:cells'.size=len*te.size:=by rw[<-fC,e2,jn z2,hlen]
 have hel:es.length=len:=by rw[<-Vz9'.length,hlen]
 have hle':len<=maxLen:=by
  have:len*1<=len*te.size:=hX _ hp;unfold maxLen;omega
 have hS:=S'.newBlock (qQ f bx g hg) (b:=.arr e te.size es false) (cap:=len) (arr:=cells') (e:=e) (fun w' hw hn hlo=>
  ⟨hlo,cells',vs',hw,hn,Vz9',z2,qZ o2,by rw[hlen,e2,ay (by rw[jn z2,hlen];exact ah _)],hcs,by rw[hel];exact ah _,hle',hp⟩)
 refine fI (v:=.slice (some ⟨w.heap.size,0,none⟩) len len) (w':=w.alloc (.cells cells' e)) ?_ (Post.mk h.defers h.size hS hd (r:=.ref g 0 len true) ?_ rfl hK)
 .
  have hnl:¬(len*te.size>2^24):=by omega
  have e1':Instr.fill (fun i=>some (i*te.size,te.size)) (madeCells ze.cells (len*te.size)) (parts.map fun(i,x)=>(i,a.eval x)).toList=some cells':=by simpa using e1
  simp only[execOp,ho,Instr.buildSlice,aw,ok.run_und,av,oke.run_size,hnl,bM];by_cases h0:len*te.size=0
  . have em:madeCells ze.cells (len*te.size)=(Array.range (len*te.size)).map (fun x=>(#[]:Array Value)[x%(#[]:Array Value).size]!):=by
     simp[h0,madeCells,Array.range_zero']
    rw[em] at e1';simp only[au h0,aw,aA,av,e1',newRow,nL];rfl
  have em:madeCells ze.cells (len*te.size)=(Array.range (len*te.size)).map (fun x=>ze.cells[x%ze.cells.size]!):=rfl;rw[em] at e1';simp only[aq h0,aw,aA,av,oke.run_zero,e1',newRow,nL];rfl
 show SR _ _ _ _ _;simp only[SR,a6,hel];exact⟨len,by simp,ah _,by omega,by omega,fun _=>⟨trivial,rfl⟩⟩
end
def VR.notTup{H:ak}{v:Value}{x:IV}(h:VR H v x)(h1:∀c∈v.cells.toList,c.oneCell'=true):x.isTup=false:=by
 cases h<;>first|rfl|(have:=h1 _ (by simp only[Value.cells];exact List.mem_singleton.2 rfl);simp[Value.oneCell'] at this)
def sN{α:Type}{A Yz9:List α}{off:Nat}(h:off+Yz9.length<=A.length)(k:Nat):(splice A off Yz9)[k]?=if off<=k/\k<off+Yz9.length then Yz9[k-off]? else A[k]?:=by
 unfold splice;rw[dI,xd,bG,ce (by omega)];by_cases h1:k<off
 . rw[au h1,aq (by omega),dt,au h1]
 rw[aq h1,xd];by_cases h2:k-off<Yz9.length
 . rw[au h2,au ⟨by omega,by omega⟩]
 rw[aq h2,aq (by omega),sk];congr 1;omega
def Gz{α:Type}{A Yz9:List α}{m off sz N:Nat}(h:off+Yz9.length<=sz)(h2:m+sz<=N)(h3:N<=A.length) :
 (splice A (m+off) Yz9).take N=splice (A.take N) m (splice (((A.take N).drop m).take sz) off Yz9):=by
 have l1:(((A.take N).drop m).take sz).length=sz:=by simp;omega
 have l2:(splice (((A.take N).drop m).take sz) off Yz9).length=sz:=by rw[jm (by rw[l1];exact h),l1]
 apply qE;intro k;rw[sN (by rw[l2];simp;omega),l2,dt];by_cases hk:k<N
 .
  rw[au hk,sN (by omega)];by_cases q1:m<=k/\k<m+sz
  . rw[au q1,sN (by rw[l1];exact h)];by_cases q2:m+off<=k/\k<m+off+Yz9.length
    . rw[au q2,au (by omega)];congr 1;omega
    rw[aq q2,aq (by omega),dt,au (by omega),sk,dt,au (by omega)];congr 1;omega
  rw[aq q1,aq (by omega),dt,au hk]
 rw[aq hk,aq (by omega),dt,aq hk]
section
variable {E:Env}{nt:Nat}{H:ak}{U:Nat->Nat × Nat}{tm:Nat->SV}{bx:Nat->Option Bx}{a:Act}{w:World}
variable {P:Program}{T:TypeId->Option TY}{Q:Exit->Act->World->Prop}{o:Oper}{g:Nat}{K:SV->Eff->Prop}
def Pr(hT:cu P T)(h:St E nt H U tm bx a w)(hd:∀d,o.dst=some d->d<nt){t:TypeId}{x:Operand}(ho:o.op=.load t x){ty:TY}(ht:T t=some ty){g' off:Nat}(hx:aS tm x=.ptr g' off){y r:IV}(hb:bx g'=some (.var y))
 (hl:jE ty.sh.agg ty.size y off=some r) (hK:K (.iv r) { rd:=[g'] }):o.wp P a w (Post E nt tm bx o.dst K) Q:=by
 obtain⟨i,d,z,ok⟩:=aT (hT t ty ht);have hv:=bb h.sim rfl x;rw[hx] at hv;obtain⟨_,hv⟩:=hv;obtain⟨h1,h2,h3,v,e,h4,h5⟩:=h.sim.box g' _ hb;obtain⟨u,hr,hu⟩:=sJ (base:=0) ok h5 h4 (by rw[bW,ay (by simp)]) hl;rw[a8] at hr;refine fI (v:=u) (w':=w) ?_ (Post.mk h.defers h.size h.sim hd (r:=.iv r) hu rfl hK);simp only[execOp,ho,hv,Instr.loadAt,Instr.sureAddr,aw,aA,av,hr]
def Ps(hT:cu P T)(h:St E nt H U tm bx a w)(hd:∀d,o.dst=some d->d<nt){t:TypeId}{x:Operand}(ho:o.op=.load t x){ty:TY}(ht:T t=some ty){g' j:Nat}(hx:aS tm x=.ptr g' j){v0:Option Value}{cs es:List IV}{e:TypeId}{sz:Nat}(hb:bx g'=some (.bld (.row v0 cs j e sz es)))
 (hs1:ty.size=1) (hag:ty.sh.agg=false) (hK:match v0 with
   |some v=>K (.val v) { rd:=[g'] }
   |none=>K (.slN es.length) { rd:=[g'] }):o.wp P a w (Post E nt tm bx o.dst K) Q:=by
 obtain⟨i,d,z,ok⟩:=aT (hT t ty ht);have hv:=bb h.sim rfl x;rw[hx] at hv;obtain⟨_,hv⟩:=hv;obtain⟨h1,h2,h3,h4⟩:=h.sim.box g' _ hb;obtain⟨us,v,T',k1,k2,k3,k4,k5,k6⟩:=h3;have hcell:w.cell? ⟨(U g').1,j,none⟩=some v:=by
  rw[qD w _ _ _ _ _ k1];simp[k4]
 have hr:(loadVar t ⟨(U g').1,j,none⟩).run P w=.ok v w:=by
  simp only[loadVar,aw,ok.run_agg,hag,av,dB,bM,run_load,hcell]
 cases v0 with
 |some v1=>
  have e1:=k5 v1 rfl;subst e1;refine fI (v:=v1) (w':=w) ?_ (Post.mk h.defers h.size h.sim hd (r:=.val v1) rfl rfl hK);simp only[execOp,ho,hv,Instr.loadAt,Instr.sureAddr,aw,aA,av,hr]
 |none=>
  refine fI (v:=v) (w':=w) ?_ (Post.mk h.defers h.size h.sim hd (r:=.slN es.length) ?_ rfl hK)
  . simp only[execOp,ho,hv,Instr.loadAt,Instr.sureAddr,aw,aA,av,hr]
  rcases k6 with⟨e1,e2⟩|⟨R,cap,arr,ws,e1,_⟩
  . exact⟨_,_,by rw[e1,e2];rfl⟩
  exact⟨_,_,e1⟩
def QU(hT:cu P T)(h:St E nt H U tm bx a w)(hd:∀d,o.dst=some d->d<nt){t:TypeId}{x:Operand}(ho:o.op=.load t x){ty:TY}(ht:T t=some ty){y r:IV}{off:Nat}(hx:aS tm x=.iptr y off)
 (hl:jE ty.sh.agg ty.size y off=some r) (hK:K (.iv r) {}):o.wp P a w (Post E nt tm bx o.dst K) Q:=by
 obtain⟨i,d,z,ok⟩:=aT (hT t ty ht);have hv:=bb h.sim rfl x;rw[hx] at hv;obtain⟨b,base,v,arr,hv,hb,h4,h6⟩:=hv;obtain⟨e,fr,h5⟩:=h.sim.has b arr hb;obtain⟨u,hr,hu⟩:=sJ ok h5 h4 h6 hl;refine fI (v:=u) (w':=w) ?_ (Post.mk h.defers h.size h.sim hd (r:=.iv r) hu rfl hK);simp only[execOp,ho,hv,Instr.loadAt,Instr.sureAddr,aw,aA,av,hr]
def QV(hT:cu P T)(h:St E nt H U tm bx a w)(hd:∀d,o.dst=some d->d<nt){t:TypeId}{x:Operand}(ho:o.op=.load t x){ty:TY}(ht:T t=some ty){g' j off:Nat}(hx:aS tm x=.eptr g' j off){e:TypeId}{sz:Nat}{es:List IV}{fz:Bool}(hb:bx g'=some (.arr e sz es fz))
 {y r:IV} (hj:es[j]?=some y) (hl:jE ty.sh.agg ty.size y off=some r) (hK:K (.iv r) { rd:=[g'] }):o.wp P a w (Post E nt tm bx o.dst K) Q:=by
 obtain⟨i,d,z,ok⟩:=aT (hT t ty ht);have hv:=bb h.sim rfl x;rw[hx] at hv;simp only[SR,hb] at hv;obtain⟨hv,_⟩:=hv;obtain⟨h1,arr,vs,h2,h3,h4,h5,h6,h7,_⟩:=h.sim.box g' _ hb;obtain⟨v,hvj,hvy⟩:=h4.get j y hj;have hcut:(arr.toList.drop (j*sz)).take v.cells.size=v.cells.toList:=by
  have hm:v∈vs:=bN hvj;have hlt:j<vs.length:=(List.getElem?_eq_some_iff.1 hvj).1;rw[h5 v hm,<-flat_get h5 hvj,<-h7,mH,cB,ce];rw[<-uI];have:1*sz<=(vs.length-j)*sz:=cL _ (by omega);omega
 obtain⟨u,hr,hu⟩:=sJ ok h2 hvy hcut hl;refine fI (v:=u) (w':=w) ?_ (Post.mk h.defers h.size h.sim hd (r:=.iv r) hu rfl hK);simp only[execOp,ho,hv,Instr.loadAt,Instr.sureAddr,aw,aA,av,hr]
def O5(hT:cu P T)(h:St E nt H U tm bx a w)(hd:∀d,o.dst=some d->d<nt){t:TypeId}{x y:Operand}(ho:o.op=.store t x y){ty:TY}(ht:T t=some ty){z:IV}{f:List Nat}(hy:dL bx (aS tm y)=some (z,f))(hz:z.cells.length=ty.size)(hzt:z.isTup=false)
 {g' off:Nat} (hx:aS tm x=.ptr g' off) {u u':IV} (hb:bx g'=some (.var u)) (hs:ul u off z=some u') (hK:K .und { rd:=g'::f,fz:=f,wr:=[(g',.var u')] }):o.wp P a w (Post E nt tm bx o.dst K) Q:=by
 obtain⟨i,d,zz,ok⟩:=aT (hT t ty ht);have hv:=bb h.sim rfl x;rw[hx] at hv;obtain⟨_,hv⟩:=hv;obtain⟨H',hle,S',Vz9'⟩:=nb h.sim (bb h.sim rfl y) hy;have hb':=Ce f bx g' u hb;obtain⟨h1,h2,h3,v,e,h4,h5⟩:=S'.box g' _ hb';obtain⟨v',k1,k2,k3,k4,k5⟩:=Lz h4 Vz9' h3 hzt hs;have hr:=Bn ok h5 (o:=off) (u:=a.eval y) (by rw[Vz9'.size,hz]) k3 (Vz9'.one hzt);have hcells:(splice v.cells.toList off (a.eval y).cells.toList).toArray=v'.cells:=by rw[<-k2]
 rw[hcells] at hr;have hS:=S'.write hb' rfl (b':=.var u') trivial (w':=w.setRow (U g').1 v'.cells) (by simp) (fun k hk=>nM _ _ _ _ hk) rfl rfl rfl h2
  ⟨h1,h2,k4,v',e,k1,uL _ _ _ _ _ _ h5⟩
 refine JZ (w':=w.setRow (U g').1 v'.cells) ?_ (Post.mk h.defers h.size hS hd (r:=.und) rfl rfl hK);simp only[execOp,ho,hv,Instr.storeAt,Instr.sureAddr,aw,aA,av,hr]
def PW(hT:cu P T)(h:St E nt H U tm bx a w)(hd:∀d,o.dst=some d->d<nt){t:TypeId}{x y:Operand}(ho:o.op=.store t x y){ty:TY}(ht:T t=some ty){z:IV}{f:List Nat}(hy:dL bx (aS tm y)=some (z,f))(hz:z.cells.length=ty.size)(hzt:z.isTup=false)
 {g' j off:Nat} (hx:aS tm x=.eptr g' j off) {e:TypeId} {sz:Nat} {es:List IV} (hb:bx g'=some (.arr e sz es false)) (hf:g'∉f) {u u':IV} (hj:es[j]?=some u) (hs:ul u off z=some u')
 (hK:K .und { rd:=g'::f,fz:=f,wr:=[(g',.arr e sz (es.set j u') false)] }):o.wp P a w (Post E nt tm bx o.dst K) Q:=by
 obtain⟨i,d,zz,ok⟩:=aT (hT t ty ht);have hv:=bb h.sim rfl x;rw[hx] at hv;simp only[SR,hb] at hv;obtain⟨hv,_⟩:=hv;obtain⟨H',hle,S',Vz9'⟩:=nb h.sim (bb h.sim rfl y) hy;have hb':bT bx f g'=some (.arr e sz es false):=by rw[sL f bx g' hf];exact hb
 obtain⟨h1,arr,vs,h2,h3,h4,h5,h6,h7,h8,h9,h10,h11⟩:=S'.box g' _ hb';obtain⟨v,hvj,hvu⟩:=h4.get j u hj;have hm:v∈vs:=bN hvj;have hlt:j<vs.length:=(List.getElem?_eq_some_iff.1 hvj).1;obtain⟨v',k1,k2,k3,k4,k5⟩:=Lz hvu Vz9' (hvu.notTup (fun c hc=>h6 c (yx hm hc))) hzt hs;have hvs:=h5 v hm;have hmul:j*sz+sz<=vs.length*sz:=by
  have:=cL sz (show j+1<=vs.length by omega);rw[bQ,nJ] at this;exact this
 have hel:=h4.length;have hasz:vs.length*sz<=arr.size:=by
  rw[h8];exact cL _ (by omega)
 have hr:=Bn ok h2 (o:=j*sz+off) (u:=a.eval y) (by rw[Vz9'.size,hz]) (by omega) (Vz9'.one hzt);have hv's:v'.cells.size=sz:=by rw[k1.size,k5,<-hvu.size,hvs]
 -- the row behind the store
 have hrow:(splice arr.toList (j*sz+off) (a.eval y).cells.toList).take (vs.length*sz)=aX (vs.set j v'):=by
  rw[flat_set h5 hv's hlt,<-h7,k2,<-flat_get h5 hvj,<-h7];exact Gz (by simp;omega) hmul (by simpa using hasz)
 have hS:=S'.write hb' rfl (b':=.arr e sz (es.set j u') false) ⟨rfl,by simp⟩ (w':=w.setRow (U g').1 (splice arr.toList (j*sz+off) (a.eval y).cells.toList).toArray) (by simp) (fun k hk=>nM _ _ _ _ hk) rfl rfl rfl (by simpa using h3)
  ⟨h1,_,vs.set j v',uL _ _ _ _ _ _ h2,by simpa using h3,h4.set j k1,fun x hx=>(FD hx).elim (h5 x) (fun e=>by rw[e];exact hv's),
   fun c hc=>by
    obtain⟨x,hx,hc⟩:=List.mem_flatMap.1 hc;rcases FD hx with hx|hx
    . exact h6 c (yx hx hc)
    rw[hx] at hc;exact k1.one k4 c hc,
   by simpa using hrow,by simp only[lD];rw[jm (by simp;omega)];simpa using h8,by simpa using h9,h10,h11⟩
 refine JZ (w':=w.setRow (U g').1 (splice arr.toList (j*sz+off) (a.eval y).cells.toList).toArray) ?_ (Post.mk h.defers h.size hS hd (r:=.und) rfl rfl hK);simp only[execOp,ho,hv,Instr.storeAt,Instr.sureAddr,aw,aA,av,hr]
def PC(P:Program)(w:World)(op:BinOp)(t:TypeId)(x y:Operand)(k k':IntKind)(p q:Int):(eqGuard op t x y (.int k p) (.int k' q)).run P w=.ok () w:=by cases op<;>rfl
def PB(P:Program)(w:World)(op:BinOp)(t:TypeId)(x y:Operand)(p q:ByteArray):(eqGuard op t x y (.string p) (.string q)).run P w=.ok () w:=by cases op<;>rfl
def Pa(P:Program)(w:World)(op:BinOp)(t:TypeId)(x y:Operand)(p q:Bool):(eqGuard op t x y (.bool p) (.bool q)).run P w=.ok () w:=by cases op<;>rfl
def Ih(w:World){op:BinOp}{k:IntKind}{p q:Int}{t:TypeId}{J:IV->Prop}(h:nh op k p q J):∃v r,(binOp op t (.int k p) (.int k q)).run P w=.ok v w/\VR H v r/\J r:=by
 cases op<;>simp only[nh] at h<;>try (exact h.elim)
 all_goals first
  | (obtain⟨h0,n,e,hJ⟩:=h;subst e;refine⟨_,_,?_,VR.int _ _,hJ⟩;simp only[binOp,ne_eq,uH,bM,Op.intDiv,h0];rfl)
  | (obtain⟨n,e,hJ⟩:=h;subst e;refine⟨_,_,?_,VR.int _ _,hJ⟩;simp only[binOp,ne_eq,uH,bM,Op.intArith];rfl)
  | (obtain⟨n,e,hJ⟩:=h;subst e;refine⟨_,_,?_,VR.bool _,hJ⟩;simp only[binOp,ne_eq,uH,bM,Op.intCmp];rfl)
def yp(s:ByteArray):s.toList=s.data.toList:=by
 exact ByteArray.toList_eq s
def Rp(p q:ByteArray):(p++q).data.toList=p.data.toList++q.data.toList:=by simp
def HS(w:World){op:BinOp}{p q:ByteArray}{t:TypeId}{J:IV->Prop}(h:nc op p.data.toList q.data.toList J):∃v r,(binOp op t (.string p) (.string q)).run P w=.ok v w/\VR H v r/\J r:=by
 cases op<;>simp only[nc] at h<;>try (exact h.elim)
 .
  obtain⟨hl,hJ⟩:=h;refine⟨.string (p++q),_,?_,VR.str _ _ rfl,by rw[Rp];exact hJ⟩;have hn:¬(((p.size+q.size:Nat):Int)>IntKind.i64.max):=by
   have e1:p.size=p.data.toList.length:=by rw[fC];rfl
   have e2:q.size=q.data.toList.length:=by rw[fC];rfl
   have:IntKind.i64.max=9223372036854775807:=by decide
   rw[this,e1,e2];omega
  simp only[binOp,Op.stringOp,hn,bM];rfl
 . obtain⟨c,e,hJ⟩:=h;subst e;refine⟨_,_,?_,VR.bool _,hJ⟩;simp only[binOp,Op.stringOp];rw[yp p,yp q];rfl
 obtain⟨c,e,hJ⟩:=h;subst e;refine⟨_,_,?_,VR.bool _,hJ⟩;simp only[binOp,Op.stringOp];rw[yp p,yp q];rfl
def Qf(w:World){op:BinOp}{p q:Bool}{t:TypeId}(ht:P.underlying t=some .bool){J:IV->Prop}(h:tz op p q J):∃v r,(binOp op t (.bool p) (.bool q)).run P w=.ok v w/\VR H v r/\J r:=by
 cases op<;>simp only[tz] at h<;>try (exact h.elim)
 . obtain⟨c,e,hJ⟩:=h;subst e;exact⟨_,_,run_eql_bool w t p q ht,VR.bool _,hJ⟩
 obtain⟨c,e,hJ⟩:=h;subst e;exact⟨_,_,run_neq_bool w t p q ht,VR.bool _,hJ⟩
end
def aW(P:Program)(I:World->Prop)(f:FuncId)(xs:List IV)(r:IV):Prop :=
 (∃fn,P.funcs[f]?=some fn/\(fn.name == "runtime.NumGoroutine")=false/\fn.body.isNone=false)/\
 ∀(H:ak) (w:World) (args:List Value),I w->HeapHas w H->VRL H args xs->
  Calls P f args.toArray w fun e w'=>∃v H',e=.returned v/\HeapHas w' H'/\HExt w.heap.size H H'/\VR H' v r/\Below w.heap.size w w'
def bc(P:Program)(I:World->Prop)(f:FuncId)(e:TypeId)(sz off n:Nat)(es xs es':List IV)(r:IV):Prop :=
 (∃fn,P.funcs[f]?=some fn/\(fn.name == "runtime.NumGoroutine")=false/\fn.body.isNone=false)/\
 ∀(H:ak) (w:World) (b cap capS:Nat) (args:List Value),(∀w',BelowO (fun k=>k=b\/w.heap.size<=k) w w'->I w')->HeapHas w H->BR (fun k=>k=b\/w.heap.size<=k) w H (b,cap) (.arr e sz es false)->
  n<=capS->off+n<=es.length->off+capS<=cap->VRL H args xs->
  Calls P f (.slice (some ⟨b,off*sz,none⟩) n capS::args).toArray w fun e' w'=>∃v H',e'=.returned v/\HeapHas w' H'/\HExtO (fun k=>w.heap.size<=k) H H'/\VR H' v r/\BelowO (fun k=>k=b\/w.heap.size<=k) w w'/\
   BR (fun k=>k=b\/w.heap.size<=k) w' H' (b,cap) (.arr e sz es' false)
def nI(own:Nat->Prop)(w:World)(H:ak):List Nat->List IV->Prop
 | [],[]=>True
 |b::bs,z::zs=>BR own w H (b,0) (.var z)/\nI own w H bs zs
 |_,_=>False
def AA(f:FuncId)(bs:List Nat):Value:=.func (.func f) #[] (bs.map fun b=>Value.pointer (some ⟨b,0,none⟩)).toArray
def bj(P:Program)(I:World->Prop)(f:FuncId)(xs:List IV)(f':FuncId)(zs:List IV):Prop :=
 (∃fn,P.funcs[f]?=some fn/\(fn.name == "runtime.NumGoroutine")=false/\fn.body.isNone=false)/\
 ∀(H:ak) (w:World) (args:List Value),I w->HeapHas w H->VRL H args xs->
  Calls P f args.toArray w fun e w'=>∃(bs:List Nat) (H':ak),e=.returned (AA f' bs)/\HeapHas w' H'/\HExt w.heap.size H H'/\Below w.heap.size w w'/\bs.Pairwise (· ≠ ·)/\nI (fun k=>w.heap.size<=k) w' H' bs zs
structure CtrOk(P:Program)(I:World->Prop)(Φ:Ctr):Prop where
 mkr:∀f xs f' zs,Φ.mkr f xs f' zs->bj P I f xs f' zs
 pu:∀f xs r,Φ.pu f xs r->aW P I f xs r
 mt:∀f e sz off n es xs es' r,Φ.mt f e sz off n es xs es' r->bc P I f e sz off n es xs es' r
def Sim.mutate{E:Env}{H:ak}{U:Nat->Nat×Nat}{tm:Nat->SV}{bx:Nat->Option Bx}{tmps:Array Value}{w:World}(h:Sim E H U tm bx tmps w){g:Nat}{e:TypeId}{sz:Nat}{es es':List IV}(hg:bx g=some (.arr e sz es false))(hl:es'.length=es.length){w':World}{H':ak}
 (hb:BelowO (fun k=>k=(U g).1\/w.heap.size<=k) w w') (hh:HeapHas w' H') (he:HExtO (fun k=>w.heap.size<=k) H H') (hbr:BR (fun k=>k=(U g).1\/w.heap.size<=k) w' H' (U g) (.arr e sz es' false)) :
 Sim E H' U tm (az bx g (some (.arr e sz es' false))) tmps w':=by
 have hlo:E.own (U g).1:=(h.box g _ hg).lo rfl;have hown:∀k,(k=(U g).1\/w.heap.size<=k)->E.own k:=fun k hk=>hk.elim (fun e=>by rw[e];exact hlo) (h.lo k);refine⟨hh,h.below.trans (hb.mono hown),fun k hk=>h.lo k (bf hb.size hk),h.ext.step he h.lo,fun t=>(h.slot t).mono he.1 (fun g' b1 hg'=>?_),fun g' b1 hg'=>?_,fun g1 g2 b1 b2 e1 e2 a1 a2 hee=>?_,fun p' k' hk'=>⟨(h.pin p' k' hk').1,xV (h.pin p' k' hk').2.1,(h.pin p' k' hk').2.2⟩,h.marks.keep fun D hD=>hb.block D fun ho=>ho.elim (fun e=>(by obtain⟨arr,e',hc⟩:=(h.box g _ hg).cells rfl;rw[<-e,hD] at hc;cases hc)) (fun hge=>Nat.not_lt.2 hge (Array.getElem?_eq_some_iff.1 hD).1),fun g1 s g2 b2 R e1 e2 ha2 hR=>?_⟩
 . by_cases hne:g'=g
   . subst hne;rw[hg] at hg';simp at hg';subst hg';exact⟨.arr e sz es' false,by show az bx g' _ g'=_;rw[a6],⟨rfl,hl⟩,rfl⟩
   exact⟨b1,by show az bx g _ g'=_;rw[aI _ _ _ hne];exact hg',shape.refl _,rfl⟩
 .
  by_cases hne:g'=g
  . subst hne;have e':Bx.arr e sz es' false=b1:=by
     have:az bx g' (some (.arr e sz es' false)) g'=some b1:=hg';rw[a6] at this;simpa using this
    subst e';exact⟨hlo,hbr.2⟩
  have e':bx g'=some b1:=by
   have:az bx g _ g'=some b1:=hg';rwa[aI _ _ _ hne] at this
  by_cases hal:b1.alive=true
  .
   have hlt:=(h.box g' b1 e').lt hal;have hn:(U g').1≠(U g).1:=fun e2=>hne (h.inj g' g b1 _ e' hg hal rfl e2);refine(h.box g' b1 e').keep (hb.block _ (fun ho=>ho.elim hn (by omega))) he.1 (fun hnn=>?_) (fun s R eb hR=>?_)
   .
    cases hx:H' (U g').1 with
    |none=>rfl
    |some arr=>
     rcases he.2 _ _ hx with h1|h1
     . rw[hnn] at h1;exact absurd h1 (by simp)
     have h1:w.heap.size<=(U g').1:=h1;omega
   subst eb;have hlR:=(kK (h.box g' _ e').2.2.1 hR).1;refine⟨hb.block _ (fun ho=>ho.elim (fun e2=>h.hid g' s g _ R e' hg rfl hR e2.symm) (by omega)),fun hnn=>?_⟩;cases hx:H' R with
   |none=>rfl
   |some arr=>
    rcases he.2 _ _ hx with h1|h1
    . rw[hnn] at h1;exact absurd h1 (by simp)
    have h1:w.heap.size<=R:=h1;omega
  cases b1<;>first|trivial|simp[Bx.alive] at hal
 .
  have key:∀g' b1,az bx g (some (.arr e sz es' false)) g'=some b1->b1.alive=true->∃b2,bx g'=some b2/\b2.alive=true:=fun g' b1 hg' hal=>by
   by_cases hne:g'=g
   . subst hne;exact⟨_,hg,rfl⟩
   rw[aI _ _ _ hne] at hg';exact⟨b1,hg',hal⟩
  obtain⟨c1,d1,f1⟩:=key g1 b1 e1 a1;obtain⟨c2,d2,f2⟩:=key g2 b2 e2 a2;exact h.inj g1 g2 c1 c2 d1 d2 f1 f2 hee
 have hne:g1≠g:=fun e0=>by
  subst e0;have:az bx g1 (some (.arr e sz es' false)) g1=_:=e1;rw[a6] at this;cases this
 have h1':bx g1=some (.bld s):=by
  have:az bx g (some (.arr e sz es' false)) g1=_:=e1;rwa[aI _ _ _ hne] at this
 have hlt:=(h.box g1 _ h1').lt rfl;have hR':=hR.sm (hb.block _ (fun ho=>ho.elim (fun e2=>hne (h.inj g1 g _ _ h1' hg rfl rfl e2)) (by omega)));by_cases hn2:g2=g
 . rw[hn2];exact h.hid g1 s g _ R h1' hg rfl hR'
 exact h.hid g1 s g2 b2 R h1' (by have:az bx g (some (.arr e sz es' false)) g2=_:=e2;rwa[aI _ _ _ hn2] at this) ha2 hR'
def WJ{v:Option SV}{dflt:Nat}{K:Nat->Prop}(h:fB v dflt K):(v=none/\K dflt)\/∃k m,v=some (.iv (.int k ((m:Nat):Int)))/\K m:=by
 unfold fB at h;split at h
 . exact .inl ⟨rfl,h⟩
 . obtain⟨m,e,hK⟩:=h;subst e;exact .inr ⟨_,m,rfl,hK⟩
 exact h.elim
section
variable {E:Env}{nt:Nat}{H:ak}{U:Nat->Nat × Nat}{tm:Nat->SV}{bx:Nat->Option Bx}{a:Act}{w:World}
variable {P:Program}{T:TypeId->Option TY}{Q:Exit->Act->World->Prop}{o:Oper}{g:Nat}{K:SV->Eff->Prop}
def ok_binOp(h:St E nt H U tm bx a w)(hd:∀d,o.dst=some d->d<nt){op:BinOp}{t t':TypeId}{x y:Operand}(ho:o.op=.binOp op t x y t'){v r:_}{p q:Value}(hx:a.eval x=p)(hy:a.eval y=q)
 (hg:(eqGuard op t x y p q).run P w=.ok () w) (hr:(binOp op t p q).run P w=.ok v w) (hv:VR H v r) (hK:K (.iv r) {}):o.wp P a w (Post E nt tm bx o.dst K) Q:=by
 refine fI (v:=v) (w':=w) ?_ (Post.mk h.defers h.size h.sim hd (r:=.iv r) hv rfl hK);simp only[execOp,ho,hx,hy,aw,hg,hr,av,aA]
def fm(h:St E nt H U tm bx a w)(hd:∀d,o.dst=some d->d<nt){v:Value}{r:SV}(hr:(execOp a.eval o).run P w=.ok (.value v) w)(hv:SR H U bx v r){rd:List Nat}(hK:K r { rd:=rd }):o.wp P a w (Post E nt tm bx o.dst K) Q :=
 fI hr (Post.mk h.defers h.size h.sim hd hv rfl hK)
def ok_makeSlice(hT:cu P T)(h:St E nt H U tm bx a w)(hd:∀d,o.dst=some d->d<nt){t:TypeId}{l c:Operand}(ho:o.op=.makeSlice t l c){ty:TY}(ht:T t=some ty){e:TypeId}(hsh:ty.sh=.slice e){te:TY}(hte:T e=some te)
 {kl kc:IntKind} {m:Nat} (hl:aS tm l=.iv (.int kl m)) (hc:aS tm c=.iv (.int kc m)) (hp:0<te.size) (hzs:te.zero.cells.length=te.size) (hb:te.bytes*m<=281474976710656) (hm:m<=maxLen) (hg:bx g=none)
 (hK:K (.ref g 0 m true) { wr:=[(g,.arr e te.size (List.replicate m te.zero) false)],bump:=1 }):o.wp P a w (Post E nt tm bx o.dst K) Q:=by
 obtain⟨i,d,z,ok⟩:=aT (hT t ty ht);obtain⟨ie,de,ze,oke⟩:=aT (hT e te hte);have hd':=ok.sh;rw[hsh] at hd';obtain rfl:=fG hd';have hzc:ze.cells.size=te.size:=by rw[(oke.vr H).size,hzs]
 have hv1:=bb h.sim rfl l;rw[hl] at hv1;have e1:=VR.asInt hv1;have hv2:=bb h.sim rfl c;rw[hc] at hv2;have e2:=VR.asInt hv2;have hall:∀v∈List.replicate m ze,v.cells.size=te.size:=fun v hv=>by rw[AW hv];exact hzc
 have hS:=h.sim.newBlock hg (b:=.arr e te.size (List.replicate m te.zero) false) (cap:=m) (arr:=madeCells ze.cells (m*te.size)) (e:=e) (fun w' hw hn hlo=>
  ⟨hlo,_,List.replicate m ze,hw,hn,VRL.replicate (oke.vr H) m,hall,qZ (fun v hv=>by rw[AW hv];exact(oke.vr H).one oke.tup),
   by rw[vo hzc hp];exact ay (jL (jn hall)),by simp[size_madeCells],by simp,hm,hp⟩)
 have hm':(m:Int)<=9223372036854775807:=by unfold maxLen at hm;omega
 have hb':((ie.bytes:Nat):Int)*(m:Int)<=281474976710656:=by
  rw[oke.bytes];have:((te.bytes*m:Nat):Int)<=281474976710656:=by omega
  rwa[kB] at this
 have hr:=run_make (P:=P) w t e ie ze ok.und oke.info oke.zero kl kc m m (by omega) (uM _) hb' hm';simp only[mL,oke.size] at hr;refine fI (v:=.slice (some ⟨w.heap.size,0,none⟩) m m) (w':=w.alloc (.cells (madeCells ze.cells (m*te.size)) e)) ?_ (Post.mk h.defers h.size hS hd (r:=.ref g 0 m true) ?_ rfl hK)
 . simp only[execOp,ho,e1,e2,aw,hr,av,aA]
 show SR _ _ _ _ _;simp only[SR,a6];exact⟨m,by simp,ah _,by simp,by simp,fun _=>⟨trivial,rfl⟩⟩
def ok_fieldAddr(hT:cu P T)(h:St E nt H U tm bx a w)(hd:∀d,o.dst=some d->d<nt){t:TypeId}{x:Operand}{j:Nat}(ho:o.op=.fieldAddr t x j){ty:TY}(ht:T t=some ty)(hsh:ty.sh=.struct){fo sz:Nat}{ag:Bool}(hf:ty.fields[j]?=some (fo,ag,sz))(hsz:0<sz)
 {b off:Nat} (hx:a.eval x=.pointer (some ⟨b,off,none⟩)) {r:SV} (hr:SR H U bx (.pointer (some ⟨b,off+fo,none⟩)) r) {rd:List Nat} (hK:K r { rd:=rd }):o.wp P a w (Post E nt tm bx o.dst K) Q:=by
 obtain⟨i,d,z,ok⟩:=aT (hT t ty ht);have hd':=ok.sh;rw[hsh] at hd';obtain⟨fs,rfl⟩:=qM hd';obtain⟨fd,fi,dd,e1,e2,e3,e4,e5,e6⟩:=sH (show ja P fs.toList=some ty.fields from ok.fields) hf;refine fm h hd (v:=.pointer (some ⟨b,off+fo,none⟩)) ?_ hr hK;have e1':fs[j]?=some fd:=by simpa using e1
 have hs:(sizeOf fd.type).run P w=.ok fi.size w:=by simp[sizeOf,typeInfo,e3]
 have h0:¬fi.size=0:=by omega
 simp only[execOp,ho,hx,Instr.fieldAt,aw,ok.run_und,av,e1',Instr.sureAddr,aA,fieldPlace,hs,h0,bM,eW,e2]
def ok_field(hT:cu P T)(h:St E nt H U tm bx a w)(hd:∀d,o.dst=some d->d<nt){t:TypeId}{x:Operand}{j:Nat}(ho:o.op=.field t x j){ty:TY}(ht:T t=some ty)(hsh:ty.sh=.struct){fo sz:Nat}{ag:Bool}(hf:ty.fields[j]?=some (fo,ag,sz))
 {cs:List IV} (hx:aS tm x=.iv (.agg cs)) {r:IV} (hl:jE ag sz (.agg cs) fo=some r) (hK:K (.iv r) {}):o.wp P a w (Post E nt tm bx o.dst K) Q:=by
 obtain⟨i,d,z,ok⟩:=aT (hT t ty ht);have hd':=ok.sh;rw[hsh] at hd';obtain⟨fs,rfl⟩:=qM hd';obtain⟨fd,fi,dd,e1,e2,e3,e4,e5,e6⟩:=sH (show ja P fs.toList=some ty.fields from ok.fields) hf;have e1':fs[j]?=some fd:=by simpa using e1
 have hv:=bb h.sim rfl x;rw[hx] at hv;obtain⟨vs,hev,hvs,hone⟩:=VR.asAgg hv;have hv':VR H (.agg vs.toArray) (.agg cs):=.agg _ _ hvs hone;have hs:(sizeOf fd.type).run P w=.ok fi.size w:=by simp[sizeOf,typeInfo,e3]
 have hag:=BU e4 w;rw[e5] at hag;rcases LT hv' hl with⟨h1,h2,h3⟩|⟨h1,u,h2,h3⟩
 . subst h1;refine fm h hd (v:=.agg ((vs.drop fo).take sz).toArray) ?_ (r:=.iv r) (by show VR _ _ _;simpa[Value.cells] using h3) hK;have hpart:(part fd.type vs.toArray fd.offset).run P w=.ok (.agg ((vs.drop fo).take sz).toArray) w:=by
    simp only[part,aw,hag,av,bL,hs,aA,e2,e6];congr 2;apply fc;simp only[NS,NT];rw[show fo+sz-fo=sz by omega]
   simp only[execOp,ho,hev,Instr.field,aw,ok.run_und,av,e1',asAgg,aA,hpart]
 subst h1;refine fm h hd (v:=u) ?_ (r:=.iv r) h3 hK;have h2':vs.toArray[fo]?=some u:=by simpa[Value.cells] using h2
 have hpart:(part fd.type vs.toArray fd.offset).run P w=.ok u w:=by
  simp only[part,aw,hag,av,dB,bM,e2,h2',aA]
 simp only[execOp,ho,hev,Instr.field,aw,ok.run_und,av,e1',asAgg,aA,hpart]
def ok_index(hT:cu P T)(h:St E nt H U tm bx a w)(hd:∀d,o.dst=some d->d<nt){t:TypeId}{x ix:Operand}(ho:o.op=.index t x ix){ty:TY}(ht:T t=some ty)(hsh:ty.sh=.string){s:List UInt8}(hx:aS tm x=.iv (.str s)){k:IntKind}{j:Nat}(hi:aS tm ix=.iv (.int k j))
 {b:UInt8} (hj:s[j]?=some b) (hK:K (.iv (.int .u8 b.toNat)) {}):o.wp P a w (Post E nt tm bx o.dst K) Q:=by
 obtain⟨i,d,z,ok⟩:=aT (hT t ty ht);have hd':=ok.sh;rw[hsh] at hd';obtain rfl:=sI hd';have hv:=bb h.sim rfl x;rw[hx] at hv;obtain⟨bs,hev,hbs⟩:=jU hv;have hv2:=bb h.sim rfl ix;rw[hi] at hv2;have e2:=VR.asInt hv2;refine fm h hd (v:=.int .u8 b.toNat) ?_ (r:=.iv (.int .u8 b.toNat)) (VR.int _ _) hK;have hget:bs[j]?=some b:=by
  have hlt:j<s.length:=(List.getElem?_eq_some_iff.1 hj).1;have hsz:bs.size=s.length:=by rw[<-hbs,fC];rfl
  have:j<bs.size:=by omega
  rw[getElem?_pos bs j this];congr 1;have h2:s[j]=b:=(List.getElem?_eq_some_iff.1 hj).2;subst hbs;rw[<-h2];rfl
 simp only[execOp,ho,hev,e2,Instr.index,asIntOf,aw,aA,av,ok.run_und,Int.natCast_nonneg,bL,mL,hget]
def ok_extract(h:St E nt H U tm bx a w)(hd:∀d,o.dst=some d->d<nt){x:Operand}{j:Nat}(ho:o.op=.extract x j){vs:List IV}(hx:aS tm x=.iv (.tup vs)){y:IV}(hj:vs[j]?=some y)(hK:K (.iv y) {}):o.wp P a w (Post E nt tm bx o.dst K) Q:=by
 have hv:=bb h.sim rfl x;rw[hx] at hv;obtain⟨us,hev,hus⟩:=VR.asTup hv;obtain⟨u,h1,h2⟩:=hus.get j y hj;refine fm h hd (v:=u) ?_ (r:=.iv y) h2 hK;have h1':us.toArray[j]?=some u:=by simpa using h1
 simp only[execOp,ho,hev,Instr.extract,h1',aw,aA,av]
def ok_convert(hT:cu P T)(h:St E nt H U tm bx a w)(hd:∀d,o.dst=some d->d<nt){s d:TypeId}{x:Operand}(ho:o.op=.convert s d x){ts td:TY}(hs:T s=some ts)(htd:T d=some td){k0 k k':IntKind}(h1:ts.sh=.int k0)(h2:td.sh=.int k){n:Int}(hx:aS tm x=.iv (.int k' n))
 (hK:K (.iv (.int k (k.wrap n))) {}):o.wp P a w (Post E nt tm bx o.dst K) Q:=by
 obtain⟨i1,d1,z1,ok1⟩:=aT (hT s ts hs);obtain⟨i2,d2,z2,ok2⟩:=aT (hT d td htd);have e1:=ok1.sh;rw[h1] at e1;obtain rfl:=yu e1;have e2:=ok2.sh;rw[h2] at e2;obtain rfl:=yu e2;have hv:=bb h.sim rfl x;rw[hx] at hv;have e3:=VR.asInt hv;refine fm h hd (v:=.int k (k.wrap n)) ?_ (r:=.iv (.int k (k.wrap n))) (VR.int _ _) hK;simp only[execOp,ho,e3,convert,aw,ok1.run_und,ok2.run_und,av,Conv.intToInt,aA]
def O8(hT:cu P T)(h:St E nt H U tm bx a w)(hd:∀d,o.dst=some d->d<nt){s d:TypeId}{x:Operand}(ho:o.op=.convert s d x){ts td:TY}(hs:T s=some ts)(htd:T d=some td)(h1:ts.sh=.string)(h2:td.sh=.string){l:List UInt8}(hx:aS tm x=.iv (.str l))
 (hK:K (.iv (.str l)) {}):o.wp P a w (Post E nt tm bx o.dst K) Q:=by
 obtain⟨i1,d1,z1,ok1⟩:=aT (hT s ts hs);obtain⟨i2,d2,z2,ok2⟩:=aT (hT d td htd);have e1:=ok1.sh;rw[h1] at e1;obtain rfl:=sI e1;have e2:=ok2.sh;rw[h2] at e2;obtain rfl:=sI e2;have hv:=bb h.sim rfl x;rw[hx] at hv;obtain⟨bs,hev,hbs⟩:=jU hv;refine fm h hd (v:=.string bs) ?_ (r:=.iv (.str l)) (VR.str _ _ hbs) hK;simp only[execOp,ho,hev,convert,aw,ok1.run_und,ok2.run_und,av,aA]
def OP(hT:cu P T)(h:St E nt H U tm bx a w)(hd:∀d,o.dst=some d->d<nt){t:TypeId}{x ix:Operand}(ho:o.op=.indexAddr t x ix){ty:TY}(ht:T t=some ty){e:TypeId}(hsh:ty.sh=.slice e){te:TY}(hte:T e=some te){es:List IV}(hx:aS tm x=.iv (.sl es)){k:IntKind}{j:Nat}(hi:aS tm ix=.iv (.int k j))
 {y:IV} (hj:es[j]?=some y) (hy:y.cells.length=te.size) (hK:K (.iptr y 0) {}):o.wp P a w (Post E nt tm bx o.dst K) Q:=by
 obtain⟨i,d,z,ok⟩:=aT (hT t ty ht);obtain⟨ie,de,ze,oke⟩:=aT (hT e te hte);have hd':=ok.sh;rw[hsh] at hd';obtain rfl:=fG hd';have hv:=bb h.sim rfl x;rw[hx] at hv;have hv2:=bb h.sim rfl ix;rw[hi] at hv2;have e2:=VR.asInt hv2;have hlt:j<es.length:=(List.getElem?_eq_some_iff.1 hj).1;generalize hev:a.eval x=ev at hv;cases hv with
 |sl0=>simp at hlt
 |sl b off n cap sz arr vs _ hb hs hn hc hz ha=>
  obtain⟨u,hu1,hu2⟩:=hs.get j y hj;have hm:u∈vs:=bN hu1;have hsz:sz=te.size:=by rw[<-hz u hm,hu2.size,hy]
  have hvl:=hs.length;refine fm h hd (v:=.pointer (some ⟨b,off+j*te.size,none⟩)) ?_ (r:=.iptr y 0) ?_ hK
  . have hlt':(j:Int)<(n:Int):=by omega
    have hcond:(0:Int)<=(j:Int)/\(j:Int)<(n:Int):=⟨by omega,hlt'⟩;simp only[execOp,ho,hev,e2,Instr.indexAt,asIntOf,aw,aA,av,ok.run_und,hcond,xf,bL,mL,oke.run_size,eW]
  refine⟨b,off+j*te.size,u,arr,rfl,hb,hu2,?_⟩;rw[<-hsz,hz u hm,<-oD,<-flat_get hz hu1,<-ha,mH,cB,ce];rw[<-uI];have:1*sz<=(vs.length-j)*sz:=cL _ (by omega);omega
def OQ(hT:cu P T)(h:St E nt H U tm bx a w)(hd:∀d,o.dst=some d->d<nt){t:TypeId}{x ix:Operand}(ho:o.op=.indexAddr t x ix){ty:TY}(ht:T t=some ty){n:Nat}{e:TypeId}(hsh:ty.sh=.array n e){te:TY}(hte:T e=some te){g' off:Nat}(hx:aS tm x=.ptr g' off)
 {k:IntKind} {j:Nat} (hi:aS tm ix=.iv (.int k j)) (hj:j<n) (hK:K (.ptr g' (off+j*te.size)) {}):o.wp P a w (Post E nt tm bx o.dst K) Q:=by
 obtain⟨i,d,z,ok⟩:=aT (hT t ty ht);obtain⟨ie,de,ze,oke⟩:=aT (hT e te hte);have hd':=ok.sh;rw[hsh] at hd';obtain rfl:=sR hd';have hv:=bb h.sim rfl x;rw[hx] at hv;obtain⟨h1,hev⟩:=hv;have hv2:=bb h.sim rfl ix;rw[hi] at hv2;have e2:=VR.asInt hv2;refine fm h hd (v:=.pointer (some ⟨(U g').1,off+j*te.size,none⟩)) ?_ (r:=.ptr g' (off+j*te.size)) ⟨h1,rfl⟩ hK;have hcond:(0:Int)<=(j:Int)/\(j:Int)<(n:Int):=⟨by omega,by omega⟩;simp only[execOp,ho,hev,e2,Instr.indexAt,asIntOf,Instr.sureAddr,aw,aA,av,ok.run_und,hcond,xf,bL,mL,oke.run_size,eW]
def OO(hT:cu P T)(h:St E nt H U tm bx a w)(hd:∀d,o.dst=some d->d<nt){t:TypeId}{x ix:Operand}(ho:o.op=.indexAddr t x ix){ty:TY}(ht:T t=some ty){e:TypeId}(hsh:ty.sh=.slice e){te:TY}(hte:T e=some te){g' off n:Nat}{fl:Bool}(hx:aS tm x=.ref g' off n fl)
 {e':TypeId} {sz:Nat} {es:List IV} {fz:Bool} (hb:bx g'=some (.arr e' sz es fz)) (hsz:sz=te.size) {k:IntKind} {j:Nat} (hi:aS tm ix=.iv (.int k j)) (hj:j<n) (hK:K (.eptr g' (off+j) 0) { rd:=[g'] }):o.wp P a w (Post E nt tm bx o.dst K) Q:=by
 obtain⟨i,d,z,ok⟩:=aT (hT t ty ht);obtain⟨ie,de,ze,oke⟩:=aT (hT e te hte);have hd':=ok.sh;rw[hsh] at hd';obtain rfl:=fG hd';have hv:=bb h.sim rfl x;rw[hx] at hv;simp only[SR,hb] at hv;obtain⟨cap,hev,h1,h2,h3,_⟩:=hv;have hv2:=bb h.sim rfl ix;rw[hi] at hv2;have e2:=VR.asInt hv2;refine fm h hd (v:=.pointer (some ⟨(U g').1,off*sz+j*te.size,none⟩)) ?_ (r:=.eptr g' (off+j) 0) ?_ hK
 . have hcond:(0:Int)<=(j:Int)/\(j:Int)<(n:Int):=⟨by omega,by omega⟩;simp only[execOp,ho,hev,e2,Instr.indexAt,asIntOf,aw,aA,av,ok.run_und,hcond,xf,bL,mL,oke.run_size,eW]
 show SR _ _ _ _ _;simp only[SR,hb];exact⟨by subst hsz;simp[bQ],by omega⟩
def Uc{I:World->Prop}{f:FuncId}{xs:List IV}{r:IV}(hΦ:aW P I f xs r)(hI:I w)(h:St E nt H U tm bx a w)(hd:∀d,o.dst=some d->d<nt){fo:Operand}{args:Array Operand}{ats:Array TypeId}(ho:o.op=.call { callee:=.value fo,args:=args,argTypes:=ats })(hfo:aS tm fo=.iv (.fn f))
 {fs:List Nat} (hxs:gK bx (aS tm) args.toList=some (xs,fs)) (hK:K (.iv r) { rd:=fs,fz:=fs }):o.wp P a w (Post E nt tm bx o.dst K) Q:=by
 obtain⟨⟨fn,hf1,hf2,hf3⟩,hc⟩:=hΦ;have hv:=bb h.sim rfl fo;rw[hfo] at hv;have e1:=vT hv;obtain⟨H',hle,S',Vz9'⟩:=tf (a:=a) rfl h.sim hxs;have hcall:=hc H' w (args.toList.map a.eval) hI S'.has Vz9';have hrun:(execOp a.eval o).run P w=.ok (.enter f (args.toList.map a.eval).toArray) w:=by
  simp only[execOp,ho,resolve,e1,Deferred.ofValue,aw,aA,av,invoke,callFunc,uN,hf1,hf2,hf3,dB,bM];congr 2;apply fc;simp
 unfold Oper.wp;rw[hrun];refine hcall.mono ?_;rintro e w' ⟨v,H2,rfl,h1,h2,h3,h4⟩;have hS:=S'.grow h4 h1 h2;exact Post.mk h.defers h.size hS hd (r:=.iv r) h3 rfl hK
def BR.own_mono{own own':Nat->Prop}{w:World}{H:ak}{k:Nat×Nat}{b:Bx}(h:BR own w H k b)(hs:∀k,own k->own' k):BR own' w H k b:=by
 cases b with
 |var x=>exact⟨hs _ h.1,h.2⟩
 |arr=>exact⟨hs _ h.1,h.2⟩
 |bld=>exact⟨hs _ h.1,h.2.1,h.2.2.1,fun R hR=>⟨hs _ (h.2.2.2 R hR).1,(h.2.2.2 R hR).2⟩⟩
 |arrN=>exact⟨h.1,hs _ h.2.1,h.2.2⟩
 |dead=>trivial
def KJ{w:World}{U:Nat->Nat×Nat}{bx:Nat->Option Bx}(h:∀g s g' b R,bx g=some (.bld s)->bx g'=some b->b.alive=true->RowAt s w (U g).1 R->(U g').1≠R){g:Nat}{b:Bx}{k:Nat×Nat}
 (hrow:∀g' s R,bx g'=some (.bld s)->RowAt s w (U g').1 R->k.1≠R) (hnb:∀s,b≠ .bld s) {g1 g2 R:Nat} {s:Ow} {b2:Bx} (e1:az bx g (some b) g1=some (.bld s)) (e2:az bx g (some b) g2=some b2) (ha2:b2.alive=true) (hR:RowAt s w (az U g k g1).1 R):(az U g k g2).1≠R:=by
 have hne:g1≠g:=fun e0=>by
  subst e0;rw[a6] at e1;exact hnb s (by simpa using e1)
 rw[aI _ _ _ hne] at e1 hR;by_cases hn2:g2=g
 . rw[hn2,a6];exact hrow g1 s R e1 hR
 rw[aI _ _ _ hn2] at e2 ⊢;exact h g1 s g2 b2 R e1 e2 ha2 hR
def Sim.addBox{E:Env}{H:ak}{U:Nat->Nat×Nat}{tm:Nat->SV}{bx:Nat->Option Bx}{tmps:Array Value}{w:World}(h:Sim E H U tm bx tmps w){g:Nat}(hg:bx g=none){b:Bx}{k:Nat×Nat}(hbr:BR E.own w H k b)
 (hne:∀g' b',bx g'=some b'->b'.alive=true->(U g').1≠k.1) (hrow:∀g' s R,bx g'=some (.bld s)->RowAt s w (U g').1 R->k.1≠R) (hnb:∀s,b≠ .bld s:=by(intro _ e;cases e)):Sim E H (az U g k) tm (az bx g (some b)) tmps w:=by
 refine⟨h.has,h.below,h.lo,h.ext,fun t=>(h.slot t).mono (HLe.refl _) (fun g' b' hg'=>?_),fun g' b' hg'=>?_,fun g1 g2 b1 b2 h1 h2 a1 a2 he=>?_,fun p' k' hk'=>?_,h.marks,fun g1 s g2 b2 R e1 e2 ha2 hR=>?_⟩
 . have hne:g'≠g:=fun e=>by subst e;rw[hg] at hg';simp at hg'
   exact⟨b',by show az bx g (some b) g'=_;rw[aI _ _ _ hne];exact hg',shape.refl b',aI _ _ _ hne⟩
 .
  by_cases e0:g'=g
  . subst e0;have e:b=b':=by
     have:az bx g' (some b) g'=some b':=hg';rw[a6] at this;simpa using this
    subst e;rw[a6];exact hbr
  have e:bx g'=some b':=by
   have:az bx g (some b) g'=some b':=hg';rwa[aI _ _ _ e0] at this
  rw[aI _ _ _ e0];exact h.box g' b' e
 .
  have key:∀g' b',az bx g (some b) g'=some b'->g'≠g->b'.alive=true->(U g').1≠k.1:=fun g' b' hg' e0 ha=>by
   rw[aI _ _ _ e0] at hg';exact hne g' b' hg' ha
  by_cases e1:g1=g
  . by_cases e2:g2=g
    . rw[e1,e2]
    have:=key g2 b2 h2 e2 a2;rw[e1,a6,aI _ _ _ e2] at he;exact absurd he.symm this
  by_cases e2:g2=g
  . have:=key g1 b1 h1 e1 a1;rw[e2,a6,aI _ _ _ e1] at he;exact absurd he this
  rw[aI _ _ _ e1,aI _ _ _ e2] at he;exact h.inj g1 g2 b1 b2 (by have:az bx g (some b) g1=_:=h1;rwa[aI _ _ _ e1] at this) (by have:az bx g (some b) g2=_:=h2;rwa[aI _ _ _ e2] at this) a1 a2 he
 . obtain⟨p1,p2,p3⟩:=h.pin p' k' hk';have hne:p'≠g:=fun e=>p2 (by rw[e];exact hg);rw[aI _ _ _ hne,aI _ _ _ hne];exact⟨p1,p2,p3⟩
 exact KJ h.hid hrow hnb e1 e2 ha2 hR
def Jg:∀{n g id:Nat},id∈dR g n->g<=id
 |0,g,id,h=>by simp[dR] at h
 |n+1,g,id,h=>by
  simp only[dR,fD] at h;rcases h with rfl|h
  . exact ah _
  have:=Jg h;omega
def In{bx:Nat->Option Bx}{g:Nat}{b:Option Bx}:∀{l:List Nat},(∀id∈l,id≠g)->iG bx l=true->iG (az bx g b) l=true
 | [],_,_=>rfl
 |id::l,hl,h=>by
  simp only[iG] at h ⊢;rw[aI _ _ _ (hl id (by simp))];split at h
  . exact In (fun id hid=>hl id (by simp[hid])) h
  cases h
def Sim.newBoxes{E:Env}{H:ak}{tm:Nat->SV}{tmps:Array Value}{w:World}:∀{zs:List IV} {bs:List Nat} {g:Nat} {U:Nat->Nat×Nat} {bx:Nat->Option Bx},Sim E H U tm bx tmps w->(∀g' b',bx g'=some b'->b'.alive=true->¬(U g').1∈bs)->(∀g' s R,bx g'=some (.bld s)->RowAt s w (U g').1 R->¬R∈bs)->
 iG bx (dR g zs.length)=true->nI E.own w H bs zs->bs.Pairwise (· ≠ ·)->
 ∃ U',Sim E H U' tm (g6 bx (pJ (dR g zs.length) zs)) tmps w/\(dR g zs.length).map (fun g=>(U' g).1)=bs/\(∀id,bx id≠none->U' id=U id/\g6 bx (pJ (dR g zs.length) zs) id≠none)/\∀id∈dR g zs.length,g6 bx (pJ (dR g zs.length) zs) id≠none
 | [],[],g,U,bx,h,_,_,_,_,_=>⟨U,h,rfl,fun id hid=>⟨rfl,hid⟩,fun id hid=>by simp[dR] at hid⟩
 | [],_::_,_,_,_,_,_,_,_,hb,_=>hb.elim
 |_::_,[],_,_,_,_,_,_,_,hb,_=>hb.elim
 |z::zs,b::bs,g,U,bx,h,hne,hrw,hf,hb,hp=>by
  have hgn:bx g=none:=by
   simp only[aY,dR,iG] at hf;split at hf
   . assumption
   cases hf
  have hf2:iG bx (dR (g+90) zs.length)=true:=by
   simp only[aY,dR,iG,hgn] at hf;exact hf
  obtain⟨hb1,hb2⟩:=hb;obtain⟨hp1,hp2⟩:=List.pairwise_cons.1 hp;have h1:=h.addBox hgn hb1 (fun g' b' hg' ha e=>hne g' b' hg' ha (by rw[e];simp)) (fun g' s R hg' hR e=>hrw g' s R hg' hR (by rw[<-e];simp));obtain⟨U',s1,s2,s3,s4⟩:=Sim.newBoxes (zs:=zs) (bs:=bs) (g:=g+90) h1 (fun g' b' hg' ha hm=>by
   by_cases e:g'=g
   . subst e;rw[a6] at hm;exact hp1 _ hm rfl
   . have hg'':bx g'=some b':=by
      have:az bx g (some (.var z)) g'=some b':=hg';rwa[aI _ _ _ e] at this
     rw[aI _ _ _ e] at hm;exact hne g' b' hg'' ha (dC _ hm)) (fun g' s R hg' hR hm=>by
   by_cases e:g'=g
   . subst e;have:az bx g' (some (.var z)) g'=some (.bld s):=hg';rw[a6] at this;cases this
   have hg'':bx g'=some (.bld s):=by
    have:az bx g (some (.var z)) g'=some (.bld s):=hg';rwa[aI _ _ _ e] at this
   rw[aI _ _ _ e] at hR;exact hrw g' s R hg'' hR (dC _ hm)) (In (fun id hid e=>by have:=Jg hid;omega) hf2) hb2 hp2
  have hgs:az bx g (some (.var z)) g≠none:=by rw[a6];simp
  refine⟨U',s1,?_,fun id hid=>?_,fun id hid=>?_⟩
  . simp only[aY,dR,aZ,s2];rw[(s3 g hgs).1,a6]
  .
   have hid':az bx g (some (.var z)) id≠none:=by
    by_cases e:id=g
    . subst e;exact hgs
    rw[aI _ _ _ e];exact hid
   refine⟨?_,(s3 id hid').2⟩;have hne':id≠g:=fun e=>by subst e;exact hid hgn
   rw[(s3 id hid').1,aI _ _ _ hne']
  simp only[aY,dR,fD] at hid;rcases hid with rfl|hid
  . exact(s3 _ hgs).2
  exact s4 id hid
def Jp{bx:Nat->Option Bx}(f:List Nat):∀{l:List Nat},iG bx l=true->iG (bT bx f) l=true
 | [],_=>rfl
 |id::l,h=>by
  simp only[iG] at h ⊢;split at h
  . rename_i hn;simp only[qQ f bx id hn];exact Jp f h
  cases h
def ok_makeFunc(h:St E nt H U tm bx a w)(hd:∀d,o.dst=some d->d<nt){f:FuncId}{first captured:Array Operand}(ho:o.op=.makeFunc (.func f) first captured)(h1:first.toList=[]){gs:List Nat}(h2:n3 (aS tm) captured.toList=some gs)
 {r:SV} (hr:(gs=[]/\r=.iv (.fn f))\/r=.clo f gs) (hK:K r {}):o.wp P a w (Post E nt tm bx o.dst K) Q:=by
 have key:∀(os:List Operand) (gs:List Nat),n3 (aS tm) os=some gs->(∀g∈gs,bx g≠none)/\os.map a.eval=gs.map fun g=>Value.pointer (some ⟨(U g).1,0,none⟩):=by
  intro os;induction os with
  |nil=>intro gs hg;simp only[n3,ai] at hg;subst hg;exact⟨by simp,rfl⟩
  |cons o os ih=>
   intro gs hg;simp only[n3] at hg;split at hg
   . rename_i g' hx;split at hg
     . rename_i gs' hgs;simp only[ai] at hg;subst hg;obtain⟨i1,i2⟩:=ih gs' hgs;have hv:=bb h.sim rfl o;rw[hx] at hv;obtain⟨v1,v2⟩:=hv;exact⟨fun g hg=>(List.mem_cons.1 hg).elim (fun e=>by rw[e];exact v1) (i1 g),by simp[i2,v2]⟩
     cases hg
   cases hg
 obtain⟨k1,k2⟩:=key _ _ h2;have e1:first = #[]:=fc h1
 subst e1;have e2:captured.map a.eval=(gs.map fun g=>Value.pointer (some ⟨(U g).1,0,none⟩)).toArray:=by apply fc;simpa using k2
 refine fI (v:=.func (.func f) #[] (gs.map fun g=>Value.pointer (some ⟨(U g).1,0,none⟩)).toArray) (w':=w) ?_ (Post.mk h.defers h.size h.sim hd (r:=r) ?_ rfl hK)
 . simp only[execOp,ho,Instr.makeFunc,aw,aA,av,e2];simp
 rcases hr with⟨rfl,rfl⟩|rfl
 . exact VR.fn f
 exact⟨k1,rfl⟩
def Ua{I:World->Prop}{f f':FuncId}{xs zs:List IV}(hΦ:bj P I f xs f' zs)(hI:I w)(h:St E nt H U tm bx a w)(hd:∀d,o.dst=some d->d<nt){fo:Operand}{args:Array Operand}{ats:Array TypeId}(ho:o.op=.call { callee:=.value fo,args:=args,argTypes:=ats })(hfo:aS tm fo=.iv (.fn f))
 {fs:List Nat} (hxs:gK bx (aS tm) args.toList=some (xs,fs)) (hfr:iG bx (dR g zs.length)=true) (hK:K (.clo f' (dR g zs.length)) { rd:=fs,fz:=fs,wr:=pJ (dR g zs.length) zs,bump:=1 }):o.wp P a w (Post E nt tm bx o.dst K) Q:=by
 obtain⟨⟨fn,hf1,hf2,hf3⟩,hc⟩:=hΦ;have hv:=bb h.sim rfl fo;rw[hfo] at hv;have e1:=vT hv;obtain⟨H',hle,S',Vz9'⟩:=tf (a:=a) rfl h.sim hxs;have hcall:=hc H' w (args.toList.map a.eval) hI S'.has Vz9';have hrun:(execOp a.eval o).run P w=.ok (.enter f (args.toList.map a.eval).toArray) w:=by
  simp only[execOp,ho,resolve,e1,Deferred.ofValue,aw,aA,av,invoke,callFunc,uN,hf1,hf2,hf3,dB,bM];congr 2;apply fc;simp
 unfold Oper.wp;rw[hrun];refine hcall.mono ?_;rintro e w' ⟨bs,H2,rfl,h1,h2,h4,h5,h6⟩;have hS:=S'.grow h4 h1 h2;have hbs:∀(bs:List Nat) (zs:List IV),nI (fun k=>w.heap.size<=k) w' H2 bs zs->(∀b∈bs,w.heap.size<=b)/\nI E.own w' H2 bs zs:=by
  intro bs;induction bs with
  |nil=>intro zs hb;cases zs with
   |nil=>exact⟨by simp,trivial⟩
   |cons=>exact hb.elim
  |cons b bs ih=>intro zs hb;cases zs with
   |nil=>exact hb.elim
   |cons z zs=>
    obtain⟨i1,i2⟩:=ih zs hb.2;exact⟨fun x hx=>(List.mem_cons.1 hx).elim (fun e=>by rw[e];exact hb.1.1) (i1 x),hb.1.own_mono h.sim.lo,i2⟩
 obtain⟨b1,b2⟩:=hbs bs zs h6;obtain⟨U',s1,s2,s3,s4⟩:=hS.newBoxes (g:=g) (fun g' b' hg' ha hm=>by
  have hlt:=(S'.box g' b' hg').lt ha;have:=b1 _ hm;omega) (fun g' s R hg' hR hm=>by
  have hlt:=(S'.box g' _ hg').lt rfl;have hlR:=(kK (S'.box g' _ hg').2.2.1 (hR.sm (h4.block _ hlt))).1;have:=b1 _ hm;omega) (Jp fs hfr) b2 h5
 refine Post.mk h.defers h.size s1 hd (r:=.clo f' (dR g zs.length)) ⟨s4,?_⟩ rfl hK;rw[<-s2,AA,cC];rfl
def Wb{I:World->Prop}{f:FuncId}{e:TypeId}{sz off n:Nat}{es xs es':List IV}{r:IV}(hΦ:bc P I f e sz off n es xs es' r)(hI:∀w',BelowO E.own w w'->I w')(h:St E nt H U tm bx a w)(hd:∀d,o.dst=some d->d<nt){fo x:Operand}{rest:List Operand}{ats:Array TypeId}(ho:o.op=.call { callee:=.value fo,args:=(x::rest).toArray,argTypes:=ats })(hfo:aS tm fo=.iv (.fn f))
 {g':Nat} {fl:Bool} (hx:aS tm x=.ref g' off n fl) (hb:bx g'=some (.arr e sz es false)) {fs:List Nat} (hxs:gK bx (aS tm) rest=some (xs,fs)) (hn:¬g'∈fs) (hl:es'.length=es.length) {rd:List Nat}
 (hK:K (.iv r) { rd:=rd,fz:=fs,wr:=[(g',.arr e sz es' false)] }):o.wp P a w (Post E nt tm bx o.dst K) Q:=by
 obtain⟨⟨fn,hf1,hf2,hf3⟩,hc⟩:=hΦ;have hv:=bb h.sim rfl fo;rw[hfo] at hv;have e1:=vT hv;have hvx:=bb h.sim rfl x;rw[hx] at hvx;simp only[SR,hb] at hvx;obtain⟨cap,hev,c1,c2,c3,_⟩:=hvx;obtain⟨H',hle,S',Vz9'⟩:=tf (a:=a) rfl h.sim hxs;have hb':bT bx fs g'=some (.arr e sz es false):=by rw[sL fs bx g' hn];exact hb
 have hbr:=S'.box g' _ hb';have hlo:E.own (U g').1:=hbr.lo rfl;have hown:∀k,(k=(U g').1\/w.heap.size<=k)->E.own k:=fun k hk=>hk.elim (fun e=>by rw[e];exact hlo) (h.sim.lo k);have hcall:=hc H' w (U g').1 (U g').2 cap (rest.map a.eval) (fun w' hw'=>hI w' (hw'.mono hown)) S'.has ⟨.inl rfl,hbr.2⟩ c1 c2 c3 Vz9';rw[<-hev] at hcall;have hrun:(execOp a.eval o).run P w=.ok (.enter f (a.eval x::rest.map a.eval).toArray) w:=by
  simp only[execOp,ho,resolve,e1,Deferred.ofValue,aw,aA,av,invoke,callFunc,uN,hf1,hf2,hf3,dB,bM];congr 2;apply fc;simp
 unfold Oper.wp;rw[hrun];refine hcall.mono ?_;rintro e w' ⟨v,H2,rfl,h1,h2,h3,h4,h5⟩;have hS:=S'.mutate hb' hl h4 h1 h2 h5;exact Post.mk h.defers h.size hS hd (r:=.iv r) h3 rfl hK
end
section
variable {E:Env}{nt:Nat}{H:ak}{U:Nat->Nat × Nat}{tm:Nat->SV}{bx:Nat->Option Bx}{a:Act}{w:World}
variable {P:Program}{T:TypeId->Option TY}{Q:Exit->Act->World->Prop}{o:Oper}{g:Nat}{K:SV->Eff->Prop}
def Bd(v:Option Value)(d m:Nat):Prop:=(v=none/\m=d)\/∃k,v=some (.int k ((m:Nat):Int))
def Bd.of{H:ak}{U:Nat->Nat×Nat}{tm:Nat->SV}{bx:Nat->Option Bx}{a:Act}(he:∀x,SR H U bx (a.eval x) (aS tm x)){v:Option Operand}{d:Nat}{K:Nat->Prop}(h:fB (v.map (aS tm)) d K):∃m,Bd (v.map a.eval) d m/\K m:=by
 rcases WJ h with⟨h1,h2⟩|⟨k,m,h1,h2⟩
 . cases v with
   |none=>exact⟨d,.inl ⟨rfl,rfl⟩,h2⟩
   |some x=>simp at h1
 cases v with
 |none=>simp at h1
 |some x=>
  simp only[fE,ai] at h1;have:=he x;rw[h1] at this;exact⟨m,.inr ⟨k,by simp only[fE,VR.asInt this]⟩,h2⟩
def nS(w:World){lo hi mx:Option Value}{isS:Bool}{len cap l h m:Nat}(hlo:Bd lo 0 l)(hhi:Bd hi len h)(hmx:mx=none\/∃k,mx=some (.int k ((m:Nat):Int)))(hm:mx=none->m=cap)(hx:mx=none\/hi≠none)(h1:l<=h:=by omega)(h2:h<=m:=by omega)(h3:m<=cap:=by omega) :
 (Instr.sliceBounds isS len cap lo hi mx).run P w=.ok (l,h,m) w:=by
 rcases hlo with⟨rfl,rfl⟩|⟨k1,rfl⟩<;>rcases hhi with⟨rfl,rfl⟩|⟨k2,rfl⟩<;>rcases hmx with rfl|⟨k3,rfl⟩
 . rw[hm rfl];rfl
 . rcases hx with hx|hx
   . simp at hx
   exact absurd rfl hx
 . obtain rfl:=hm rfl;have b2:=fun code=>qF (P:=P) w k2 (h:Int) m code (by omega) (by omega);simp[Instr.sliceBounds,b2]
 . have b2:=fun code=>qF (P:=P) w k2 (h:Int) m code (by omega) (by omega);have b3:=fun code=>qF (P:=P) w k3 (m:Int) cap code (by omega) (by omega);simp[Instr.sliceBounds,b2,b3]
 . obtain rfl:=hm rfl;have b1:=fun code=>qF (P:=P) w k1 (l:Int) h code (by omega) (by omega);simp[Instr.sliceBounds,b1]
 . rcases hx with hx|hx
   . simp at hx
   exact absurd rfl hx
 . obtain rfl:=hm rfl;have b1:=fun code=>qF (P:=P) w k1 (l:Int) h code (by omega) (by omega);have b2:=fun code=>qF (P:=P) w k2 (h:Int) m code (by omega) (by omega);simp[Instr.sliceBounds,b1,b2]
 have b1:=fun code=>qF (P:=P) w k1 (l:Int) h code (by omega) (by omega);have b2:=fun code=>qF (P:=P) w k2 (h:Int) m code (by omega) (by omega);have b3:=fun code=>qF (P:=P) w k3 (m:Int) cap code (by omega) (by omega);simp[Instr.sliceBounds,b1,b2,b3]
def Bd.mx{v:Option Value}{d m:Nat}(h:Bd v d m):v=none\/∃k,v=some (.int k ((m:Nat):Int)):=h.imp (·.1) id
def O6(hT:cu P T)(h:St E nt H U tm bx a w)(hd:∀d,o.dst=some d->d<nt){t:TypeId}{x:Operand}{lo hi:Option Operand}(ho:o.op=.slice t x lo hi none){ty:TY}(ht:T t=some ty)(hsh:ty.sh=.string){s:List UInt8}(hx:aS tm x=.iv (.str s))
 {l u:Nat} (hlo:Bd (lo.map a.eval) 0 l) (hhi:Bd (hi.map a.eval) s.length u) (h1:l<=u) (h2:u<=s.length) (hK:K (.iv (.str ((s.take u).drop l))) {}):o.wp P a w (Post E nt tm bx o.dst K) Q:=by
 obtain⟨i,d,z,ok⟩:=aT (hT t ty ht);have hd':=ok.sh;rw[hsh] at hd';obtain rfl:=sI hd';have hv:=bb h.sim rfl x;rw[hx] at hv;obtain⟨bs,hev,hbs⟩:=jU hv;have hsz:bs.size=s.length:=by rw[<-hbs,fC];rfl
 refine fm h hd (v:=.string (bs.extract l u)) ?_ (r:=.iv (.str ((s.take u).drop l))) (VR.str _ _ ?_) hK
 . have hb:=nS (P:=P) (mx:=none) (isS:=false) (len:=bs.size) (cap:=bs.size) (m:=bs.size) w hlo (by rw[hsz];exact hhi) (.inl rfl) (fun _=>rfl) (.inl rfl) h1 (by omega) (ah _);simp only[execOp,ho,hev,Instr.sliceAt,Instr.slice,aw,ok.run_und,av,xg,Option.isSome_none,dB,bM,hb,aA]
 rw[ByteArray.data_extract,NS,hbs,NT,mH]
def PZ(hT:cu P T)(h:St E nt H U tm bx a w)(hd:∀d,o.dst=some d->d<nt){t:TypeId}{x:Operand}{lo hi mx:Option Operand}(ho:o.op=.slice t x lo hi mx){ty:TY}(ht:T t=some ty){e:TypeId}(hsh:ty.sh=.slice e){te:TY}(hte:T e=some te){es:List IV}(hx:aS tm x=.iv (.sl es))
 {l u m:Nat} (hlo:Bd (lo.map a.eval) 0 l) (hhi:Bd (hi.map a.eval) es.length u) (hmx:Bd (mx.map a.eval) es.length m) (h1:l<=u) (h2:u<=m) (h3:m<=es.length) (hmh:mx=none\/hi≠none) (hel:l=0\/∀y∈es,y.cells.length=te.size) (hK:K (.iv (.sl ((es.take u).drop l))) {}):o.wp P a w (Post E nt tm bx o.dst K) Q:=by
 obtain⟨i,d,z,ok⟩:=aT (hT t ty ht);obtain⟨ie,de,ze,oke⟩:=aT (hT e te hte);have hd':=ok.sh;rw[hsh] at hd';obtain rfl:=fG hd';have hv:=bb h.sim rfl x;rw[hx] at hv;have hmh':mx.map a.eval=none\/hi.map a.eval≠none:=hmh.imp (fun e=>by rw[e];rfl) (fun e=>by cases hi with|none=>exact absurd rfl e|some _=>simp);generalize hev:a.eval x=ev at hv;have key:∀(ad:Option Addr) (n cap:Nat),ev=.slice ad n cap->n=es.length->n<=cap->∃M,u<=M/\(mx.map a.eval=none->M=cap)/\(mx.map a.eval≠none->M=m)/\M<=cap/\(execOp a.eval o).run P w=.ok (.value (.slice (if M=l then ad else ad.map (·.add (l*te.size))) (u-l) (M-l))) w:=by
  intro ad n cap hevs hn hc;by_cases hm:mx.map a.eval=none
  . refine⟨cap,by omega,fun _=>rfl,fun h=>absurd hm h,ah _,?_⟩;have hb:=nS (P:=P) (isS:=true) (len:=n) (cap:=cap) (m:=cap) w hlo (by rw[hn];exact hhi) (.inl hm) (fun _=>rfl) hmh' h1 (by omega) (ah _);simp only[execOp,ho,hev,hevs,Instr.sliceAt,Instr.slice,aw,ok.run_und,av,hb,oke.run_size,aA]
  refine⟨m,h2,fun h=>absurd h hm,fun _=>rfl,by omega,?_⟩;have hb:=nS (P:=P) (isS:=true) (len:=n) (cap:=cap) (m:=m) w hlo (by rw[hn];exact hhi) hmx.mx (fun h=>absurd h hm) hmh' h1 h2;simp only[execOp,ho,hev,hevs,Instr.sliceAt,Instr.slice,aw,ok.run_und,av,hb,oke.run_size,aA]
 by_cases hlu:u=l
 .
  -- nothing is left
  have hes:(es.take u).drop l=[]:=by rw[hlu];simp
  rw[hes] at hK;cases hv with
  |sl0 ad cap=>
   obtain⟨M,_,_,_,_,hr⟩:=key ad 0 cap rfl rfl (ba _);rw[hlu,mM] at hr;exact fm h hd hr (r:=.iv (.sl [])) (VR.sl0 _ _) hK
  |sl b off n cap sz arr vs _ hb hs hn hc hz ha=>
   obtain⟨M,_,_,_,_,hr⟩:=key _ n cap rfl hn hc;rw[hlu,mM] at hr;exact fm h hd hr (r:=.iv (.sl [])) (VR.sl0 _ _) hK
 cases hv with
 |sl0 ad cap=>simp at h3;omega
 |sl b off n cap sz arr vs _ hb hs hn hc hz ha=>
  obtain⟨M,hM1,hM2,hM3,hM4,hr⟩:=key _ n cap rfl hn hc;have hvl:=hs.length;have hne:¬M=l:=by omega
  rw[aq hne,fE,eW] at hr;have hadd:off+l*te.size=off+l*sz:=by
   rcases hel with hel|hel
   . rw[hel];simp
   have h0:0<vs.length:=by omega
   have hv0:=hz _ (iw h0);obtain⟨y,hy⟩:∃y,es[0]?=some y:=⟨_,bi (show 0<es.length by omega)⟩;obtain⟨u0,e1,e2⟩:=hs.get 0 y hy;have e3:vs[0]=u0:=(List.getElem?_eq_some_iff.1 e1).2;have:=hel y (bN hy);rw[<-e2.size,<-e3,hv0] at this;rw[this]
  rw[hadd] at hr;refine fm h hd hr (r:=.iv (.sl ((es.take u).drop l))) ?_ hK;have hzz:∀v∈(vs.take u).drop l,v.cells.size=sz:=fun v hv=>hz v (dY (jK hv));have hlen:((vs.take u).drop l).length=u-l:=by simp;omega
  refine VR.sl b (off+l*sz) (u-l) (M-l) sz arr ((vs.take u).drop l) _ hb ((hs.take u).drop l) (by simp;omega) (by omega) hzz ?_;rw[hlen,<-qX l (fun v hv=>hz v (dY hv)),<-qW u hz,<-ha,<-oD];rw[cB,ce (cL _ (by omega)),mH,<-uI]
def PX(hT:cu P T)(h:St E nt H U tm bx a w)(hd:∀d,o.dst=some d->d<nt){t:TypeId}{x:Operand}{lo hi mx:Option Operand}(ho:o.op=.slice t x lo hi mx){ty:TY}(ht:T t=some ty){e:TypeId}(hsh:ty.sh=.slice e){te:TY}(hte:T e=some te){g' off n:Nat}{fl:Bool}(hx:aS tm x=.ref g' off n fl)
 {e':TypeId} {sz:Nat} {es:List IV} {fz:Bool} (hb:bx g'=some (.arr e' sz es fz)) (hsz:sz=te.size)
 {l u m:Nat} (hlo:Bd (lo.map a.eval) 0 l) (hhi:Bd (hi.map a.eval) n u) (hmx:Bd (mx.map a.eval) n m) (h1:l<=u) (h2:u<=m) (h3:m<=n) (hmh:mx=none\/hi≠none) {c:Bool} (hc:Nat.beq u l=c) (hK:match c with|true=>K (.iv (.sl [])) { rd:=[g'] }|false=>K (.ref g' (off+l) (u-l) false) { rd:=[g'] }) :
 o.wp P a w (Post E nt tm bx o.dst K) Q:=by
 obtain⟨i,d,z,ok⟩:=aT (hT t ty ht);obtain⟨ie,de,ze,oke⟩:=aT (hT e te hte);have hd':=ok.sh;rw[hsh] at hd';obtain rfl:=fG hd';have hv:=bb h.sim rfl x;rw[hx] at hv;simp only[SR,hb] at hv;obtain⟨cap,hev,q1,q2,q3,_⟩:=hv;have hmh':mx.map a.eval=none\/hi.map a.eval≠none:=hmh.imp (fun e=>by rw[e];rfl) (fun e=>by cases hi with|none=>exact absurd rfl e|some _=>simp);have key:∃M,u<=M/\M<=cap/\(execOp a.eval o).run P w=.ok (.value (.slice (if M=l then some ⟨(U g').1,off*sz,none⟩ else some ⟨(U g').1,off*sz+l*te.size,none⟩) (u-l) (M-l))) w:=by
  by_cases hm:mx.map a.eval=none
  . refine⟨cap,by omega,ah _,?_⟩;have hb:=nS (P:=P) (isS:=true) (len:=n) (cap:=cap) (m:=cap) w hlo hhi (.inl hm) (fun _=>rfl) hmh' h1 (by omega) (ah _);simp only[execOp,ho,hev,Instr.sliceAt,Instr.slice,aw,ok.run_und,av,hb,oke.run_size,aA,fE,eW]
  refine⟨m,h2,by omega,?_⟩;have hb:=nS (P:=P) (isS:=true) (len:=n) (cap:=cap) (m:=m) w hlo hhi hmx.mx (fun h=>absurd h hm) hmh' h1 h2;simp only[execOp,ho,hev,Instr.sliceAt,Instr.slice,aw,ok.run_und,av,hb,oke.run_size,aA,fE,eW]
 obtain⟨M,hM1,hM2,hr⟩:=key;cases c with
 |true=>
  have e:u=l:=aB hc;rw[e,mM] at hr;exact fm h hd hr (r:=.iv (.sl [])) (VR.sl0 _ _) hK
 |false=>
  have hne:u≠l:=fun e=>by rw[e,bD] at hc;simp at hc
  rw[aq (by omega)] at hr;refine fm h hd hr (r:=.ref g' (off+l) (u-l) false) ?_ hK;show SR _ _ _ _ _;simp only[SR,hb];exact⟨M-l,by rw[<-hsz,<-bQ],by omega,by omega,by omega,by simp⟩
def PY(hT:cu P T)(h:St E nt H U tm bx a w)(hd:∀d,o.dst=some d->d<nt){t:TypeId}{x:Operand}{lo hi mx:Option Operand}(ho:o.op=.slice t x lo hi mx){ty:TY}(ht:T t=some ty){e:TypeId}(hsh:ty.sh=.slice e){te:TY}(hte:T e=some te)(hx:aS tm x=.nilS)
 {l u m:Nat} (hlo:Bd (lo.map a.eval) 0 l) (hhi:Bd (hi.map a.eval) 0 u) (hmx:Bd (mx.map a.eval) 0 m) (h1:l<=u) (h2:u<=m) (h3:m<=0) (hmh:mx=none\/hi≠none) (hK:K .nilS {}):o.wp P a w (Post E nt tm bx o.dst K) Q:=by
 obtain⟨i,d,z,ok⟩:=aT (hT t ty ht);obtain⟨ie,de,ze,oke⟩:=aT (hT e te hte);have hd':=ok.sh;rw[hsh] at hd';obtain rfl:=fG hd';have hv:=bb h.sim rfl x;rw[hx] at hv;have hev:a.eval x=.slice none 0 0:=hv;have hmh':mx.map a.eval=none\/hi.map a.eval≠none:=hmh.imp (fun e=>by rw[e];rfl) (fun e=>by cases hi with|none=>exact absurd rfl e|some _=>simp);obtain rfl:l=0:=by omega
 obtain rfl:u=0:=by omega
 obtain rfl:m=0:=by omega
 have hb:=nS (P:=P) (isS:=true) (len:=0) (cap:=0) (m:=0) w hlo hhi hmx.mx (fun _=>rfl) hmh';refine fm h hd (v:=.slice none 0 0) ?_ (r:=.nilS) rfl hK;simp only[execOp,ho,hev,Instr.sliceAt,Instr.slice,aw,ok.run_und,av,hb,oke.run_size,aA,bL,mM]
end
section
variable {E:Env}{nt:Nat}{H:ak}{U:Nat->Nat × Nat}{tm:Nat->SV}{bx:Nat->Option Bx}{a:Act}{w:World}
variable {P:Program}{T:TypeId->Option TY}{Q:Exit->Act->World->Prop}{o:Oper}{g:Nat}{K:SV->Eff->Prop}
def R3(hT:cu P T)(h:St E nt H U tm bx a w)(hd:∀d,o.dst=some d->d<nt){x:Operand}{ts:Array TypeId}(ho:o.op=.call { callee:=.builtin .len,args := #[x],argTypes:=ts }){t:TypeId}(hts:ts[0]?=some t){ty:TY}(ht:T t=some ty)(hsh:ty.sh=.string)
 {s:List UInt8} (hx:aS tm x=.iv (.str s)) (hK:K (.iv (.int .i64 s.length)) {}):o.wp P a w (Post E nt tm bx o.dst K) Q:=by
 obtain⟨i,d,z,ok⟩:=aT (hT t ty ht);have hd':=ok.sh;rw[hsh] at hd';obtain rfl:=sI hd';have hv:=bb h.sim rfl x;rw[hx] at hv;obtain⟨bs,hev,hbs⟩:=jU hv;have hsz:bs.size=s.length:=by rw[<-hbs,fC];rfl
 refine fm h hd (v:=.int .i64 s.length) ?_ (r:=.iv (.int .i64 s.length)) (VR.int _ _) hK;have hrun:(Builtin.len_ ts o.type #[.string bs]).run P w=.ok (.int .i64 s.length) w:=by
  simp only[Builtin.len_,hts,sr,oG,aw,ok.run_und,av,aA,goInt,hsz]
 simp only[execOp,ho,resolve,invoke,builtin,aw,aA,av,jM,aZ,eP,hev,hrun]
def vg(hT:cu P T)(h:St E nt H U tm bx a w)(hd:∀d,o.dst=some d->d<nt){x:Operand}{ts:Array TypeId}(ho:o.op=.call { callee:=.builtin .len,args := #[x],argTypes:=ts }){t:TypeId}(hts:ts[0]?=some t){ty:TY}(ht:T t=some ty){e:TypeId}(hsh:ty.sh=.slice e)
 {ad:Option Addr} {n cap:Nat} (hx:a.eval x=.slice ad n cap) {rd:List Nat} (hK:K (.iv (.int .i64 n)) { rd:=rd }):o.wp P a w (Post E nt tm bx o.dst K) Q:=by
 obtain⟨i,d,z,ok⟩:=aT (hT t ty ht);have hd':=ok.sh;rw[hsh] at hd';obtain rfl:=fG hd';refine fm h hd (v:=.int .i64 n) ?_ (r:=.iv (.int .i64 n)) (VR.int _ _) hK;have hrun:(Builtin.len_ ts o.type #[.slice ad n cap]).run P w=.ok (.int .i64 n) w:=by
  simp only[Builtin.len_,hts,sr,oG,aw,ok.run_und,av,aA,goInt]
 simp only[execOp,ho,resolve,invoke,builtin,aw,aA,av,jM,aZ,eP,hx,hrun]
def Wd(h:St E nt H U tm bx a w)(hd:∀d,o.dst=some d->d<nt){x y:Operand}{ts:Array TypeId}(ho:o.op=.call { callee:=.builtin .max,args := #[x,y],argTypes:=ts }){k k':IntKind}{p q:Int}(hx:aS tm x=.iv (.int k p))(hy:aS tm y=.iv (.int k' q))(hK:K (.iv (.int k (if q>p then q else p))) {}) :
 o.wp P a w (Post E nt tm bx o.dst K) Q:=by
 have hv:=bb h.sim rfl x;rw[hx] at hv;have e1:=VR.asInt hv;have hv2:=bb h.sim rfl y;rw[hy] at hv2;have e2:=VR.asInt hv2;refine fm h hd (v:=.int k (if q>p then q else p)) ?_ (r:=.iv (.int k (if q>p then q else p))) (VR.int _ _) hK;simp only[execOp,ho,resolve,invoke,builtin,aw,aA,av,jM,aZ,eP,e1,e2,run_max_int2]
def Wc(h:St E nt H U tm bx a w)(hd:∀d,o.dst=some d->d<nt){x y:Operand}{ts:Array TypeId}(ho:o.op=.call { callee:=.builtin .min,args := #[x,y],argTypes:=ts }){k k':IntKind}{p q:Int}(hx:aS tm x=.iv (.int k p))(hy:aS tm y=.iv (.int k' q))(hK:K (.iv (.int k (if q<p then q else p))) {}) :
 o.wp P a w (Post E nt tm bx o.dst K) Q:=by
 have hv:=bb h.sim rfl x;rw[hx] at hv;have e1:=VR.asInt hv;have hv2:=bb h.sim rfl y;rw[hy] at hv2;have e2:=VR.asInt hv2;refine fm h hd (v:=.int k (if q<p then q else p)) ?_ (r:=.iv (.int k (if q<p then q else p))) (VR.int _ _) hK;simp only[execOp,ho,resolve,invoke,builtin,aw,aA,av,jM,aZ,eP,e1,e2,run_min_int2]
def VR.asSl{v:Value}{es:List IV}(h:VR H v (.sl es)):(es=[]/\∃ad cap,v=.slice ad 0 cap)\/∃b off cap sz arr vs,v=.slice (some ⟨b,off,none⟩) es.length cap/\H b=some arr/\VRL H vs es/\(∀u∈vs,u.cells.size=sz)/\(arr.toList.drop off).take (vs.length*sz)=aX vs:=by
 cases h with
 |sl0 ad cap=>exact .inl ⟨rfl,ad,cap,rfl⟩
 |sl b off n cap sz arr vs _ hb hs hn hc hz ha=>subst hn;exact .inr ⟨b,off,cap,sz,arr,vs,rfl,hb,hs,hz,ha⟩
def yt{v:Value}{es:List IV}{sz:Nat}(hh:HeapHas w H)(h:VR H v (.sl es))(hz:∀y∈es,y.cells.length=sz/\y.isTup=false) :
 ∃(ad:Option Addr) (cap:Nat) (vs:List Value),v=.slice ad es.length cap/\VRL H vs es/\(∀u∈vs,u.cells.size=sz)/\(∀u∈vs,∀c∈u.cells.toList,c.oneCell'=true)/\(es≠[]->∃b off,ad=some ⟨b,off,none⟩/\∀j u,(aX vs)[j]?=some u->w.cell? ⟨b,off+j,none⟩=some u):=by
 rcases h.asSl with⟨rfl,ad,cap,rfl⟩|⟨b,off,cap,sz',arr,vs,rfl,hb,hs,hz',ha⟩
 . exact⟨ad,cap,[],rfl,.nil,by simp,by simp,fun h=>absurd rfl h⟩
 obtain⟨e,fr,hw⟩:=hh b arr hb;have hzz:∀u∈vs,u.cells.size=sz/\∀c∈u.cells.toList,c.oneCell'=true:=by
  intro u hu;obtain⟨i,hi,rfl⟩:=List.mem_iff_getElem.1 hu;have hl:=hs.length;obtain⟨u',e1,e2⟩:=hs.get i es[i] (bi (by omega));have e3:vs[i]=u':=(List.getElem?_eq_some_iff.1 e1).2;have:=hz es[i] (iw (by omega));rw[e3];exact⟨by rw[e2.size];exact this.1,e2.one this.2⟩
 refine⟨some ⟨b,off,none⟩,cap,vs,rfl,hs,fun u hu=>(hzz u hu).1,fun u hu=>(hzz u hu).2,fun _=>⟨b,off,rfl,fun j u hj=>?_⟩⟩;rw[qD w b _ arr e fr hw];rw[<-ha,dt] at hj;split at hj
 . simpa using hj
 simp at hj
def xP(P:Program)(w:World)(t ty e:TypeId)(i:TypeInfo)(ht:P.underlying t=some (.slice e))(hi:P.info? e=some i)(b:Option Addr)(n c:Nat)(hnc:n<=c)(ad:Option Addr)(cap:Nat) :
 (Builtin.append_ #[t,t] ty #[.slice b n c,.slice ad 0 cap]).run P w=.ok (.slice b n c) w:=by
 cases ad with
 |none=>cases b<;>simp[Builtin.append_,dq ht,sizeOf,typeInfo,hi,Builtin.lenOf,Builtin.firstCells,hnc,storeCells]
 |some a=>cases b<;>simp[Builtin.append_,dq ht,sizeOf,typeInfo,hi,Builtin.lenOf,Builtin.firstCells,loadCells,loadCellsFrom,hnc,storeCells]
def Sim.adopt{E:Env}{tmps:Array Value}(h:Sim E H U tm bx tmps w){g:Nat}(hg:bx g=none){b:Bx}{k:Nat×Nat}(hk:∀g' b',bx g'=some b'->b'.alive=true->(U g').1≠k.1)(hrow:∀g' s R,bx g'=some (.bld s)->RowAt s w (U g').1 R->k.1≠R)(hbr:BR E.own w H k b)(hnb:∀s,b≠ .bld s:=by(intro _ e;cases e)) :
 Sim E H (az U g k) tm (az bx g (some b)) tmps w:=by
 have hne:∀{g' b'},bx g'=some b'->g'≠g:=fun{g' b'} e e'=>by subst e';rw[hg] at e;simp at e
 refine⟨h.has,h.below,h.lo,h.ext,fun t=>(h.slot t).mono (HLe.refl _) (fun g' b' hg'=>⟨b',?_,shape.refl b',aI _ _ _ (hne hg')⟩),fun g' b' hg'=>?_,fun g1 g2 b1 b2 h1 h2 a1 a2 he=>?_,fun p' k' hk'=>?_,h.marks,fun g1 s g2 b2 R e1 e2 ha2 hR=>KJ h.hid hrow hnb e1 e2 ha2 hR⟩
 . rw[aI _ _ _ (hne hg')];exact hg'
 . by_cases e:g'=g
   . subst e;rw[a6] at hg';simp at hg';subst hg';rw[a6];exact hbr
   rw[aI _ _ _ e] at hg';rw[aI _ _ _ e];exact h.box g' b' hg'
 .
  by_cases e1:g1=g
  . by_cases e2:g2=g
    . rw[e1,e2]
    rw[aI _ _ _ e2] at h2;rw[e1,a6,aI _ _ _ e2] at he;exact absurd he.symm (hk g2 b2 h2 a2)
  by_cases e2:g2=g
  . rw[aI _ _ _ e1] at h1;rw[e2,a6,aI _ _ _ e1] at he;exact absurd he (hk g1 b1 h1 a1)
  rw[aI _ _ _ e1] at h1;rw[aI _ _ _ e2] at h2;rw[aI _ _ _ e1,aI _ _ _ e2] at he;exact h.inj g1 g2 b1 b2 h1 h2 a1 a2 he
 obtain⟨p1,p2,p3⟩:=h.pin p' k' hk';have hne:p'≠g:=fun e=>p2 (by rw[e];exact hg);rw[aI _ _ _ hne,aI _ _ _ hne];exact⟨p1,p2,p3⟩
def va{s x:Operand}{ts:Array TypeId}(ho:o.op=.call { callee:=.builtin .append,args := #[s,x],argTypes:=ts }){v p q:Value}{w':World}(hs:a.eval s=p)(hx:a.eval x=q)(hr:(Builtin.append_ ts o.type #[p,q]).run P w=.ok v w'):(execOp a.eval o).run P w=.ok (.value v) w':=by
 simp only[execOp,ho,resolve,invoke,builtin,aw,aA,av,jM,aZ,eP,hs,hx,hr]
def uV(z:Array Value)(n:Nat):(Builtin.zeroCells z n).size=n*z.size:=by simp[Builtin.zeroCells]
def yI{w:World}{b off:Nat}{l:List Value}(h:∀j u,l[j]?=some u->w.cell? ⟨b,off+j,none⟩=some u):∀j u,l[j]?=some u->w.cell? ((⟨b,off,none⟩:Addr).add j)=some u:=fun j u hj=>by rw[eW];exact h j u hj
def Gt(hT:cu P T)(h:St E nt H U tm bx a w)(hd:∀d,o.dst=some d->d<nt){s x:Operand}{t:TypeId}(ho:o.op=.call { callee:=.builtin .append,args := #[s,x],argTypes := #[t,t] }){ty:TY}(ht:T t=some ty){e:TypeId}(hsh:ty.sh=.slice e){te:TY}(hte:T e=some te)(hp:0<te.size)(hzs:te.zero.cells.length=te.size)
 {news:List IV} {f:List Nat} (hx:dL bx (aS tm x)=some (.sl news,f)) (hs:aS tm s=.nilS) {c:Bool} (hg:c=false->bx g=none) (hc:news.isEmpty=c)
 (hK:match c with
   |true=>K .nilS { rd:=f,fz:=f }
   |false=>(∀y∈news,y.cells.length=te.size/\y.isTup=false)/\news.length*te.bytes<=140737488355328/\news.length<=maxLen/\K (.ref g 0 news.length true) { rd:=f,fz:=f,wr:=[(g,.arr e te.size news false)],bump:=1 }) :
 o.wp P a w (Post E nt tm bx o.dst K) Q:=by
 obtain⟨i,d,z,ok⟩:=aT (hT t ty ht);obtain⟨ie,de,ze,oke⟩:=aT (hT e te hte);have hd':=ok.sh;rw[hsh] at hd';obtain rfl:=fG hd';have hv:=bb h.sim rfl s;rw[hs] at hv;have hev:a.eval s=.slice none 0 0:=hv;obtain⟨H',hle,S',Vz9'⟩:=nb h.sim (bb h.sim rfl x) hx;cases c with
 |true=>
  have hn:news=[]:=by simpa using hc
  subst hn;rcases Vz9'.asSl with⟨_,ad,cap,hxe⟩|⟨b,off,cap,sz,arr,vs,hxe,_⟩
  . exact fI (va ho hev hxe (xP P w t _ e ie ok.und oke.info none 0 0 (ah _) ad cap)) (Post.mk h.defers h.size S' hd (r:=.nilS) rfl rfl hK)
  exact fI (va ho hev hxe (xP P w t _ e ie ok.und oke.info none 0 0 (ah _) _ cap)) (Post.mk h.defers h.size S' hd (r:=.nilS) rfl rfl hK)
 |false=>
  obtain⟨hz,hb,hm,hK⟩:=hK;have hne:news≠[]:=by intro e;rw[e] at hc;simp at hc
  obtain⟨ad,cap,vs,hxe,hvs,hsz,hone,hcells⟩:=yt S'.has Vz9' hz;obtain⟨b,off,rfl,hcell⟩:=hcells hne;have hl:=hvs.length;have hfl:=jn hsz;have h0:0<news.length:=by cases news<;>simp_all
  have hr:=run_append_nil (P:=P) w t o.type e ie ze ok.und oke.info oke.zero ⟨b,off,none⟩ news.length cap (aX vs) (by rw[hfl,oke.size,hl]) (yI hcell) h0 (by unfold maxLen at hm;omega) (by rw[oke.bytes];omega);generalize hcap:grownCap w news.length 0 e=C at hr;have hge:news.length<=C:=by rw[<-hcap];exact xh _ _ _ _
  have hcm:C<=maxLen:=by rw[<-hcap];exact NU _ _ _ _ hm
  have hzc:ze.cells.size=te.size:=by rw[(oke.vr H).size,hzs]
  have hS:=(S'.sm (w':=w.drew) rfl rfl rfl rfl).newBlock (qQ f bx g (hg rfl)) (b:=.arr e te.size news false) (cap:=C) (arr:=(aX vs).toArray++Builtin.zeroCells ze.cells (C-news.length)) (e:=e) (fun w' hw hn hlo=>
   ⟨hlo,_,vs,hw,hn,hvs,hsz,qZ hone,by
    rw[qG];simp only;rw[jJ (by rw[hfl];exact ah _),ay (by rw[hfl];exact ah _)],by
    simp only[xi,lD,hfl,uV,hzc,hl,<-bQ];congr 1;omega,hge,hcm,hp⟩)
  refine fI (va ho hev hxe hr) (Post.mk h.defers h.size hS hd (r:=.ref g 0 news.length true) ?_ rfl hK);show SR _ _ _ _ _;simp only[SR,a6];exact⟨C,by simp,hge,by omega,by omega,fun _=>⟨trivial,rfl⟩⟩
def OX(hT:cu P T)(h:St E nt H U tm bx a w)(hd:∀d,o.dst=some d->d<nt){s x:Operand}{t:TypeId}(ho:o.op=.call { callee:=.builtin .append,args := #[s,x],argTypes := #[t,t] }){ty:TY}(ht:T t=some ty){e:TypeId}(hsh:ty.sh=.slice e){te:TY}(hte:T e=some te)(hzs:te.zero.cells.length=te.size)
 {news:List IV} {f:List Nat} (hx:dL bx (aS tm x)=some (.sl news,f)) {g' n:Nat} (hs:aS tm s=.ref g' 0 n true) (hg:bx g=none) {e':TypeId} {sz:Nat} {es:List IV} (hb':bx g'=some (.arr e' sz es false)) (hf:g'∉f) (hsz':sz=te.size) (he':e'=e) (hn:n=es.length)
 (hz:∀y∈news,y.cells.length=te.size/\y.isTup=false) (hb:(n+news.length)*te.bytes<=140737488355328) (hm:n+news.length<=maxLen)
 (hK:K (.ref g 0 (n+news.length) true) { rd:=f,fz:=f,wr:=[(g',.dead),(g,.arr e te.size (es++news) false)],bump:=1 }) :
 o.wp P a w (Post E nt tm bx o.dst K) Q:=by
 subst hsz' he' hn;obtain⟨i,d,z,ok⟩:=aT (hT t ty ht);obtain⟨ie,de,ze,oke⟩:=aT (hT e' te hte);have hd':=ok.sh;rw[hsh] at hd';obtain rfl:=fG hd';have hv:=bb h.sim rfl s;rw[hs] at hv;simp only[SR,hb',nN,a8] at hv;obtain⟨cap0,hev,q1,q2,q3,q4⟩:=hv;obtain⟨_,rfl⟩:=q4 trivial;obtain⟨H',hle,S',Vz9'⟩:=nb h.sim (bb h.sim rfl x) hx;have hbx:bT bx f g'=some (.arr e' te.size es false):=by rw[sL f bx g' hf];exact hb'
 have hgn:g≠g':=fun e=>by rw[e,hb'] at hg;simp at hg
 obtain⟨p1,arr,us,p2,p3,p4,p5,p6,p7,p8,p9,p10,p11⟩:=S'.box g' _ hbx;have p3':H' (U g').1=none:=by simpa using p3
 obtain⟨ad,cap,vs,hxe,hvs,hsz,hone,hcells⟩:=yt S'.has Vz9' hz;have hl:=hvs.length;have hul:=p4.length;have hfl:=jn hsz;have hful:=jn p5;have hsize2:∀v∈us++vs,v.cells.size=te.size:=fun v hv=>(List.mem_append.1 hv).elim (p5 v) (hsz v);have hone2:∀c∈aX (us++vs),c.oneCell'=true:=by
  rw[sM];intro c hc;rcases List.mem_append.1 hc with hc|hc
  . exact p6 c hc
  exact qZ hone c hc
 have hel:(es++news).length=es.length+news.length:=by simp
 have hsrfin:∀(k:Nat) (C:Nat) (U':Nat->Nat×Nat),es.length+news.length<=C->SR H' (az U' g (k,C)) (az (az (bT bx f) g' (some .dead)) g (some (.arr e' te.size (es++news) false))) (.slice (some ⟨k,0,none⟩) (es.length+news.length) C) (.ref g 0 (es.length+news.length) true):=by
  intro k C U' hC;show SR _ _ _ _ _;simp only[SR,a6];exact⟨C,by simp,hC,by rw[hel];omega,by omega,fun _=>⟨trivial,rfl⟩⟩
 by_cases hroom:es.length+news.length<=(U g').2
 .
  -- there is room
  have hasz:(es.length+news.length)*te.size<=arr.size:=by rw[p8];exact cL _ hroom
  have hfit:es.length*ie.size+(aX vs).length<=arr.size:=by rw[oke.size,hfl,hl,<-bQ];exact hasz
  have hr:∃arr',(Builtin.append_ #[t,t] o.type #[.slice (some ⟨(U g').1,0,none⟩) es.length (U g').2,a.eval x]).run P w=.ok (.slice (some ⟨(U g').1,0,none⟩) (es.length+news.length) (U g').2) (w.setRow (U g').1 arr')/\arr'.size=arr.size/\arr'.toList.take ((es.length+news.length)*te.size)=aX (us++vs):=by
   by_cases hne:news=[]
   . subst hne;rw[hxe];refine⟨arr,?_,rfl,?_⟩
     . have:=xP P w t o.type e' ie ok.und oke.info (some ⟨(U g').1,0,none⟩) es.length (U g').2 q1 ad cap;simp only[oF,fF];rw[setRow_self w _ arr e' (0,0) p2];exact this
     have:vs=[]:=ss (by simpa using hl);subst this;simp only[oF,fF,eS];rw[<-hul];exact p7
   obtain⟨b,off,rfl,hcell⟩:=hcells hne;rw[hxe];refine⟨_,run_append_room (P:=P) w t o.type e' ie ok.und oke.info (U g').1 es.length (U g').2 arr p2 ⟨b,off,none⟩ news.length cap (aX vs) (by rw[hfl,oke.size,hl]) (yI hcell) (qZ hone) hroom hfit,?_,?_⟩
   . simp only[lD,bg,bG,nO,fC];omega
   rw[oke.size,<-hul];have e1:arr.toList.take (us.length*te.size)=aX us:=p7;simp only[e1];rw[dI,NQ,ay (by rw[hful];exact cL _ (by omega)),hful,sM];congr 1;rw[<-uI,show us.length+news.length-us.length=news.length by omega,jJ (by rw[hfl,hl];exact ah _),ay (by rw[hfl,hl];exact ah _)]
  obtain⟨arr',hr,hsa,hta⟩:=hr;have hS:=S'.write hbx rfl (b':=.dead) trivial (w':=w.setRow (U g').1 arr') (by simp) (fun k hk=>nM _ _ _ _ hk) rfl rfl rfl p3' trivial;have hS2:=hS.adopt (g:=g) (b:=.arr e' te.size (es++news) false) (k:=((U g').1,(U g').2)) (by rw[aI _ _ _ hgn];exact qQ f bx g hg)
   (fun g1 b1 h1 a1 he=>by
     by_cases e1:g1=g'
     . subst e1;rw[a6] at h1;simp at h1;subst h1;simp[Bx.alive] at a1
     rw[aI _ _ _ e1] at h1;exact e1 (S'.inj g1 g' b1 _ h1 hbx a1 rfl he))
   (fun g1 s R h1 hR=>by
     by_cases e1:g1=g'
     . subst e1;rw[a6] at h1;cases h1
     rw[aI _ _ _ e1] at h1;exact S'.hid g1 s g' _ R h1 hbx rfl (hR.sm (nM _ _ _ _ (fun e2=>e1 (S'.inj g1 g' _ _ h1 hbx rfl rfl e2)))))
   ⟨p1,arr',us++vs,uL _ _ _ _ _ _ p2,by simpa using p3',p4.append hvs,hsize2,hone2,by rw[bg,hul,hl];exact hta,by rw[hsa];exact p8,by rw[hel];exact hroom,p10,p11⟩
  exact fI (va ho hev rfl hr) (Post.mk h.defers h.size hS2 hd (r:=.ref g 0 (es.length+news.length) true) (hsrfin _ _ _ hroom) rfl hK)
 -- it grows
 have hne:news≠[]:=by intro e;subst e;simp at hroom;omega
 obtain⟨b,off,rfl,hcell⟩:=hcells hne;have holds:∀j v,(aX us)[j]?=some v->w.cell? ((⟨(U g').1,0,none⟩:Addr).add j)=some v:=fun j v hj=>by
  rw[eW,a8,qD w _ _ arr e' (0,0) p2];rw[<-p7,dt] at hj;split at hj
  . simpa using hj
  simp at hj
 have hr:=run_append_grow (P:=P) w t o.type e' ie ze ok.und oke.info oke.zero ⟨(U g').1,0,none⟩ es.length (U g').2 (aX us) (by rw[hful,oke.size,hul]) holds ⟨b,off,none⟩ news.length cap (aX vs) (by rw[hfl,oke.size,hl]) (yI hcell) (by omega) (by unfold maxLen at hm;omega)
  (by rw[oke.bytes];exact growslice_fits (by omega) hb)
 rw[<-hxe] at hr;generalize hcap:grownCap w (es.length+news.length) (U g').2 e'=C at hr;have hge:es.length+news.length<=C:=by rw[<-hcap];exact xh _ _ _ _
 have hcm:C<=maxLen:=by rw[<-hcap];exact NU _ _ _ _ hm
 have hzc:ze.cells.size=te.size:=by rw[(oke.vr H).size,hzs]
 have hS:=S'.write hbx rfl (b':=.dead) trivial (w':=w) rfl (fun k hk=>rfl) rfl rfl rfl p3' trivial;have hS2:=(hS.sm (w':=w.drew) rfl rfl rfl rfl).newBlock (g:=g) (by rw[aI _ _ _ hgn];exact qQ f bx g hg) (b:=.arr e' te.size (es++news) false) (cap:=C) (arr:=(aX us).toArray++(aX vs).toArray++Builtin.zeroCells ze.cells (C-(es.length+news.length))) (e:=e') (fun w' hw hn hlo=>
  ⟨hlo,_,us++vs,hw,by simpa using hn,p4.append hvs,hsize2,hone2,by
   rw[qG,qG];simp only;rw[<-sM,jJ (by rw[jn hsize2];exact ah _),ay (by rw[jn hsize2];exact ah _)],by
   simp only[xi,lD,hfl,hful,uV,hzc,hl,hul,<-bQ];congr 1;omega,by rw[hel];exact hge,hcm,p11⟩)
 exact fI (va ho hev rfl hr) (Post.mk h.defers h.size hS2 hd (r:=.ref g 0 (es.length+news.length) true) (hsrfin _ _ _ hge) rfl hK)
end
section
variable {E:Env}{nt:Nat}{H:ak}{U:Nat->Nat × Nat}{tm:Nat->SV}{bx:Nat->Option Bx}{a:Act}{w:World}
variable {P:Program}{T:TypeId->Option TY}{Q:Exit->Act->World->Prop}{o:Oper}{g:Nat}{K:SV->Eff->Prop}
def Rf{s x:Operand}{ts:Array TypeId}(ho:o.op=.call { callee:=.builtin .copy,args := #[s,x],argTypes:=ts }){v p q:Value}{w':World}(hs:a.eval s=p)(hx:a.eval x=q)(hr:(Builtin.copy_ ts o.type #[p,q]).run P w=.ok v w'):(execOp a.eval o).run P w=.ok (.value v) w':=by
 simp only[execOp,ho,resolve,invoke,builtin,aw,aA,av,jM,aZ,eP,hs,hx,hr]
def ok_copy(hT:cu P T)(h:St E nt H U tm bx a w)(hd:∀d,o.dst=some d->d<nt){s x:Operand}{t t':TypeId}(ho:o.op=.call { callee:=.builtin .copy,args := #[s,x],argTypes := #[t,t'] }){ty:TY}(ht:T t=some ty){e:TypeId}(hsh:ty.sh=.slice e){te:TY}(hte:T e=some te)(h1:te.size=1)
 {news:List IV} {f:List Nat} (hx:dL bx (aS tm x)=some (.sl news,f)) {g' off n:Nat} {fl:Bool} (hs:aS tm s=.ref g' off n fl) {e':TypeId} {sz:Nat} {es:List IV} (hb':bx g'=some (.arr e' sz es false)) (hf:g'∉f) (hsz':sz=te.size)
 (hz:∀y∈news,y.cells.length=te.size/\y.isTup=false) (hon:off+n<=es.length) {m:Nat} (hm:Nat.min news.length n=m)
 (hK:K (.iv (.int .i64 m)) { rd:=f,fz:=f,wr:=[(g',.arr e' sz (splice es off (news.take m)) false)] }):o.wp P a w (Post E nt tm bx o.dst K) Q:=by
 subst hsz';obtain⟨i,d,z,ok⟩:=aT (hT t ty ht);obtain⟨ie,de,ze,oke⟩:=aT (hT e te hte);have hd':=ok.sh;rw[hsh] at hd';obtain rfl:=fG hd';have hv:=bb h.sim rfl s;rw[hs] at hv;simp only[SR,hb'] at hv;obtain⟨cap0,hev,q1,q2,q3,q4⟩:=hv;rw[h1,eB] at hev;obtain⟨H',hle,S',Vz9'⟩:=nb h.sim (bb h.sim rfl x) hx;have hbx:bT bx f g'=some (.arr e' te.size es false):=by rw[sL f bx g' hf];exact hb'
 obtain⟨p1,arr,us,p2,p3,p4,p5,p6,p7,p8,p9,p10,p11⟩:=S'.box g' _ hbx;have p3':H' (U g').1=none:=by simpa using p3
 obtain⟨ad,cap,vs,hxe,hvs,hsz,hone,hcells⟩:=yt S'.has Vz9' hz;have hl:=hvs.length;have hul:=p4.length;rw[h1] at hsz p5 p7 p8;have hfl:=jn hsz;have hful:=jn p5;have hs1:(P.info? e).map (·.size)=some 1:=by rw[oke.info];simp[oke.size,h1]
 have hmle:m<=news.length:=by rw[<-hm];exact Nat.min_le_left _ _
 have hmn:m<=n:=by rw[<-hm];exact Nat.min_le_right _ _
 have hcsl:((aX vs).take m).length=m:=by simp[hfl,hl];omega
 have hcut:(aX vs).take m=aX (vs.take m):=by have:=qW m hsz;simpa using this
 have hr:(Builtin.copy_ #[t,t'] o.type #[.slice (some ⟨(U g').1,off,none⟩) n cap0,a.eval x]).run P w=.ok (goInt m) (w.setRow (U g').1 (splice arr.toList off ((aX vs).take m)).toArray):=by
  by_cases hne:news=[]
  .
   subst hne;have hm0:m=0:=by simp at hmle;omega
   subst hm0;rw[hxe];have:(Builtin.copy_ #[t,t'] o.type #[.slice (some ⟨(U g').1,off,none⟩) n cap0,.slice ad ([]:List IV).length cap]).run P w=.ok (goInt 0) w:=by
    cases ad with
    |none=>simp[Builtin.copy_,dq ok.und,Builtin.lenOf,Builtin.firstCells,sizeOf,typeInfo,oke.info,storeCells]
    |some b=>simp[Builtin.copy_,dq ok.und,Builtin.lenOf,Builtin.firstCells,sizeOf,typeInfo,oke.info,storeCells,loadCells,loadCellsFrom]
   rw[this];have e1:splice arr.toList off ((aX vs).take 0)=arr.toList:=by simp[splice]
   rw[e1,Array.toArray_toList,setRow_self w _ arr e' (0,0) p2];rfl
  obtain⟨b,o2,rfl,hcell⟩:=hcells hne;rw[hxe];have:=run_copy_row (P:=P) w t t' o.type e (U g').1 off n cap0 ⟨b,o2,none⟩ news.length cap arr e' ((aX vs).take m) ok.und hs1 p2 (by rw[hcsl,hm])
   (yI fun j u hj=>hcell j u (by rw[dt] at hj;split at hj;exact hj;simp at hj)) (by rw[hcsl,p8];omega) (fun c hc=>qZ hone c (dY hc))
  rw[hcsl] at this;simpa[splice,hcsl] using this
 have hlen2:off+(vs.take m).length<=us.length:=by simp;omega
 have hS:=S'.write hbx rfl (b':=.arr e' te.size (splice es off (news.take m)) false) ⟨rfl,jm (by simp;omega)⟩ (w':=w.setRow (U g').1 (splice arr.toList off ((aX vs).take m)).toArray) (by simp) (fun k hk=>nM _ _ _ _ hk) rfl rfl rfl p3'
  ⟨p1,_,splice us off (vs.take m),uL _ _ _ _ _ _ p2,by simpa using p3',p4.splice (hvs.take m) off,(by
   intro v hv;unfold splice at hv;simp only[qB] at hv;rw[h1];rcases hv with(hv|hv)|hv
   . exact p5 v (dY hv)
   . exact hsz v (dY hv)
   . exact p5 v (jK hv)),qZ (by
   intro v hv c hc;unfold splice at hv;simp only[qB] at hv;rcases hv with(hv|hv)|hv
   . exact p6 c (yx (dY hv) hc)
   . exact hone v (dY hv) c hc
   . exact p6 c (yx (jK hv) hc)),(by
   rw[jm hlen2,h1,eB];have e2:=qW off p5;have e3:=qX (off+(vs.take m).length) p5;simp only[eB] at e2 e3 p7;have e4:aX (splice us off (vs.take m))=splice (aX us) off ((aX vs).take m):=by
    unfold splice;rw[sM,sM,<-e2,<-e3,hcut,jn (fun v hv=>hsz v (dY hv)),eB]
   rw[e4,<-p7];have hasz:us.length<=arr.toList.length:=by simp;omega
   have:=Gz (A:=arr.toList) (Yz9:=(aX vs).take m) (m:=0) (off:=off) (sz:=us.length) (N:=us.length) (by rw[hcsl];omega) (by omega) hasz;rw[a8,bW,cB,Nat.min_self] at this;rw[List.toList_toArray,this];exact G0 (by rw[jm (by rw[hcsl];simp;omega)])),(by
   simp only[lD];rw[jm (by rw[hcsl];simp;omega),h1];simpa using p8),(by rw[jm (by simp;omega)];exact p9),p10,p11⟩
 refine fI (Rf ho hev rfl hr) (Post.mk h.defers h.size hS hd (r:=.iv (.int .i64 m)) (VR.int _ _) rfl hK)
end
section
variable {E:Env}{nt:Nat}{H:ak}{U:Nat->Nat × Nat}{tm:Nat->SV}{bx:Nat->Option Bx}{a:Act}{w:World}
variable {P:Program}{T:TypeId->Option TY}{Φ:Ctr}{I:World->Prop}{Q:Exit->Act->World->Prop}{o:Oper}{g:Nat}{K:SV->Eff->Prop}
def O4(hT:cu P T)(h:St E nt H U tm bx a w)(hd:∀d,o.dst=some d->d<nt){b:Builtin}{args:Array Operand}{ts:Array TypeId}(hop:o.op=.call { callee:=.builtin b,args:=args,argTypes:=ts })
 (ho:nW T b ts.toList args.toList (aS tm) bx g K):o.wp P a w (Post E nt tm bx o.dst K) Q:=by
 have two:∀{α:Type} {l:Array α} {x y:α},l.toList=[x,y]->l = #[x,y]:=fun h=>fc h;have one:∀{α:Type} {l:Array α} {x:α},l.toList=[x]->l = #[x]:=fun h=>fc h;unfold nW at ho;split at ho
 .
  -- len
  split at ho
  .
   rename_i x hargs;have e1:=one hargs;subst e1;split at ho
   .
    rename_i n t hn hts;have e2:ts[0]?=some t:=by rw[<-uK,hts];rfl
    split at ho
    .
     rename_i ty ht;split at ho
     . rename_i s hsh hx;obtain⟨m,e,hK⟩:=ho;rw[hx] at hn;simp only[wg,ai] at hn;subst hn;subst e;exact R3 hT h hd hop e2 ht hsh hx hK
     . rename_i e0 es hsh hx;obtain⟨m,e,hK⟩:=ho;rw[hx] at hn;simp only[wg,ai] at hn;subst hn;subst e;have hv:=bb h.sim rfl x;rw[hx] at hv;rcases VR.asSl hv with⟨rfl,ad,cap,hxe⟩|⟨b,off,cap,sz,arr,vs,hxe,_⟩
       . exact vg hT h hd hop e2 ht hsh hxe (rd:=[]) hK
       exact vg hT h hd hop e2 ht hsh hxe (rd:=[]) hK
     . rename_i e0 hsh hx;have hv:=bb h.sim rfl x;rw[hx] at hv;exact vg hT h hd hop e2 ht hsh (n:=0) hv (rd:=[]) ho
     . rename_i e0 g' off n' fl hsh hx;split at ho
       . rename_i e' sz es fz hb;obtain⟨m,e,hK⟩:=ho;rw[hx] at hn;simp only[wg,ai] at hn;subst hn;subst e;have hv:=bb h.sim rfl x;rw[hx] at hv;simp only[SR,hb] at hv;obtain⟨cap,hxe,_⟩:=hv;exact vg hT h hd hop e2 ht hsh hxe hK
       exact ho.elim
     . rename_i e0 n' hsh hx;obtain⟨m,e,hK⟩:=ho;rw[hx] at hn;simp only[wg,ai] at hn;subst hn;subst e;have hv:=bb h.sim rfl x;rw[hx] at hv;obtain⟨ad,cap,hxe⟩:=hv;exact vg hT h hd hop e2 ht hsh hxe (rd:=[]) hK
     exact ho.elim
    exact ho.elim
   exact ho.elim
  exact ho.elim
 .
  -- max
  split at ho
  . rename_i x y hargs;have e1:=two hargs;subst e1;split at ho
    . rename_i k p k' q hx hy;obtain⟨n,e,hK⟩:=ho;subst e;exact Wd h hd hop hx hy hK
    exact ho.elim
  exact ho.elim
 .
  -- min
  split at ho
  . rename_i x y hargs;have e1:=two hargs;subst e1;split at ho
    . rename_i k p k' q hx hy;obtain⟨n,e,hK⟩:=ho;subst e;exact Wc h hd hop hx hy hK
    exact ho.elim
  exact ho.elim
 .
  -- append
  split at ho
  .
   rename_i s x t t' hargs hts;have e1:=two hargs;subst e1;have e2:=two hts;subst e2;cases htt:Nat.beq t t' with
   |false=>rw[htt] at ho;exact ho.elim
   |true=>
    rw[htt] at ho;have:=aB htt;subst this;simp only[al] at ho;split at ho
    .
     rename_i ty ht;split at ho
     .
      rename_i e hsh;split at ho
      .
       rename_i te hte;cases hp:Nat.blt 0 te.size with
       |false=>rw[hp] at ho;exact ho.elim
       |true=>
        rw[hp] at ho;have hp':0<te.size:=kz (by simpa[Nat.blt] using hp);simp only[al] at ho;cases hzs:Nat.beq te.zero.cells.length te.size with
        |false=>rw[hzs] at ho;exact ho.elim
        |true=>
         rw[hzs] at ho;have hzs':=aB hzs;simp only[al] at ho;split at ho
         .
          rename_i news f hx;split at ho
          .
           rename_i hs;obtain⟨c,hc,hK⟩:=ho;cases c with
           |true=>exact Gt (g:=g) hT h hd hop ht hsh hte hp' hzs' hx hs (c:=true) (fun e=>by simp at e) hc hK
           |false=>
            simp only at hK;split at hK
            . rename_i hg;exact Gt (g:=g) hT h hd hop ht hsh hte hp' hzs' hx hs (c:=false) (fun _=>hg) hc hK
            exact hK.elim
          . rename_i g' n hs;split at ho
            . rename_i e' sz es hb' hg;obtain⟨h1,h2,h3,h4,h5,h6,h7,hK⟩:=ho;exact OX hT h hd hop ht hsh hte hzs' hx hs hg hb' h1 h2 h3 h4 h5 h6 h7 hK
            exact ho.elim
          exact ho.elim
         exact ho.elim
      exact ho.elim
     exact ho.elim
    exact ho.elim
  exact ho.elim
 .
  -- copy
  split at ho
  .
   rename_i d x t t' hargs hts;have e1:=two hargs;subst e1;have e2:=two hts;subst e2;split at ho
   .
    rename_i ty ht;split at ho
    .
     rename_i e hsh;split at ho
     .
      rename_i te hte;cases hp:Nat.beq te.size 1 with
      |false=>rw[hp] at ho;exact ho.elim
      |true=>
       rw[hp] at ho;have h1:=aB hp;simp only[al] at ho;split at ho
       .
        rename_i news f hx;split at ho
        . rename_i g' off n fl hs;split at ho
          . rename_i e' sz es hb';obtain⟨q1,q2,q3,q4,m,q5,hK⟩:=ho;exact ok_copy hT h hd hop ht hsh hte h1 hx hs hb' q1 q2 q3 q4 q5 hK
          exact ho.elim
        exact ho.elim
       exact ho.elim
     exact ho.elim
    exact ho.elim
   exact ho.elim
  exact ho.elim
 exact ho.elim
def mD(h:St E nt H U tm bx a w){v:Option Operand}{d:Nat}{K:Nat->Prop}(hb:fB (v.map (aS tm)) d K):∃m,Bd (v.map a.eval) d m/\K m :=
 Bd.of (fun x=>bb h.sim rfl x) hb
def V9(hT:cu P T)(hΦ:CtrOk P I Φ)(hIs:∀w',BelowO E.own w w'->I w')(h:St E nt H U tm bx a w)(hd:∀d,o.dst=some d->d<nt)(ho:mv T Φ o (aS tm) bx g K):o.wp P a w (Post E nt tm bx o.dst K) Q:=by
 unfold mv at ho;split at ho
 . rename_i x hop;refine ok_move h hd (.inl hop) ?_;split at ho<;>rename_i hx<;>rw[hx]<;>exact ho
 . rename_i x hop;refine ok_move h hd (.inr hop) ?_;split at ho<;>rename_i hx<;>rw[hx]<;>exact ho
 . rename_i c x y hop;split at ho
   . rename_i b hc;obtain⟨r,h1,h2,hK⟩:=ho;exact ok_pick h hd hop hc h1 h2 hK
   exact ho.elim
 . rename_i t hop;split at ho
   . rename_i ty ht hg;exact ok_alloc hT h hd hop ht hg ho
   exact ho.elim
 .
  rename_i t x hop;split at ho
  . rename_i y f hx hg;cases hy:y.isTup with
    |true=>rw[hy] at ho;exact ho.elim
    |false=>rw[hy] at ho;exact ok_box h hd hop hx hg hy ho
  exact ho.elim
 .
  rename_i t parts hop;split at ho
  .
   rename_i ty ht;split at ho
   . rename_i hsh;split at ho
     . rename_i cs f hf;exact ok_build hT h hd hop ht hsh hf ho
     exact ho.elim
   .
    rename_i n e hsh;split at ho
    . rename_i te hte;split at ho
      . rename_i cs f hf;exact QX hT h hd hop ht hsh hte hf ho
      exact ho.elim
    exact ho.elim
   exact ho.elim
  exact ho.elim
 .
  rename_i t len parts hop;split at ho
  .
   rename_i ty ht hg;split at ho
   .
    rename_i e hsh;split at ho
    .
     rename_i te hte;cases hb:(Nat.blt 0 te.size&&Nat.ble (len*te.size) 16777216&&Nat.beq te.zero.cells.length te.size) with
     |false=>rw[hb] at ho;exact ho.elim
     |true=>
      rw[hb] at ho;simp only[aH] at hb;obtain⟨⟨b1,b2⟩,b3⟩:=hb;simp only[al] at ho;split at ho
      . rename_i es f hf;exact ok_buildSlice hT h hd hop ht hsh hte (kz (by simpa[Nat.blt] using b1)) (bl b2) (aB b3) hf hg ho
      exact ho.elim
    exact ho.elim
   exact ho.elim
  exact ho.elim
 .
  rename_i t x hop;split at ho
  .
   rename_i ty ht;split at ho
   .
    rename_i g' off hx;split at ho
    . rename_i y hb;split at ho
      . rename_i r hl;exact Pr hT h hd hop ht hx hb hl ho
      exact ho.elim
    .
     rename_i v0 cs j e sz es hb;cases hc:(Nat.beq off j&&Nat.beq ty.size 1 && !ty.sh.agg) with
     |false=>rw[hc] at ho;exact ho.elim
     |true=>
      rw[hc] at ho;simp only[aH,gz] at hc;obtain rfl:=aB hc.1.1;exact Ps hT h hd hop ht hx hb (aB hc.1.2) hc.2 (by cases v0<;>exact ho)
    exact ho.elim
   . rename_i y off hx;split at ho
     . rename_i r hl;exact QU hT h hd hop ht hx hl ho
     exact ho.elim
   .
    rename_i g' j off hx;split at ho
    . rename_i e sz es fz hb;obtain⟨y,hj,ho⟩:=ho;split at ho
      . rename_i r hl;exact QV hT h hd hop ht hx hb hj hl ho
      exact ho.elim
    exact ho.elim
   exact ho.elim
  exact ho.elim
 .
  rename_i t x y hop;split at ho
  .
   rename_i ty z f ht hy;cases hb:(Nat.beq z.cells.length ty.size && !z.isTup) with
   |false=>rw[hb] at ho;exact ho.elim
   |true=>
    rw[hb] at ho;simp only[aH,gz] at hb;have b1:=aB hb.1;simp only[al] at ho;split at ho
    .
     rename_i g' off hx;split at ho
     . rename_i u hbx;split at ho
       . rename_i u' hs;exact O5 hT h hd hop ht hy b1 hb.2 hx hbx hs ho
       exact ho.elim
     exact ho.elim
    .
     rename_i g' j off hx;split at ho
     . rename_i e sz es hbx;obtain⟨hf,u,hj,ho⟩:=ho;split at ho
       . rename_i u' hs;exact PW hT h hd hop ht hy b1 hb.2 hx hbx hf hj hs ho
       exact ho.elim
     exact ho.elim
    exact ho.elim
  exact ho.elim
 .
  rename_i op t x y t' hop;split at ho
  . rename_i k p k' q hx hy;obtain⟨rfl,ho⟩:=ho;obtain⟨v,r,hr,hv,hK⟩:=Ih (P:=P) (H:=H) (t:=t) w ho;have v1:=bb h.sim rfl x;rw[hx] at v1;have v2:=bb h.sim rfl y;rw[hy] at v2;exact ok_binOp h hd hop (VR.asInt v1) (VR.asInt v2) (PC P w op t x y k k p q) hr hv hK
  . rename_i p q hx hy;have v1:=bb h.sim rfl x;rw[hx] at v1;have v2:=bb h.sim rfl y;rw[hy] at v2;obtain⟨s1,e1,rfl⟩:=jU v1;obtain⟨s2,e2,rfl⟩:=jU v2;obtain⟨v,r,hr,hv,hK⟩:=HS (P:=P) (H:=H) (t:=t) w ho;exact ok_binOp h hd hop e1 e2 (PB P w op t x y s1 s2) hr hv hK
  .
   rename_i p q hx hy;split at ho
   . rename_i ty ht;split at ho
     . rename_i hsh;obtain⟨i,d,z,ok⟩:=aT (hT t ty ht);have hd':=ok.sh;rw[hsh] at hd';obtain rfl:=Qv hd';have v1:=bb h.sim rfl x;rw[hx] at v1;have v2:=bb h.sim rfl y;rw[hy] at v2;obtain⟨v,r,hr,hv,hK⟩:=Qf (P:=P) (H:=H) w ok.und ho;exact ok_binOp h hd hop (oV v1) (oV v2) (Pa P w op t x y p q) hr hv hK
     exact ho.elim
   exact ho.elim
  exact ho.elim
 .
  rename_i op t x hop;split at ho
  . rename_i p hx;obtain⟨c,e,hK⟩:=ho;subst e;have v1:=bb h.sim rfl x;rw[hx] at v1;refine fm h hd (v:=.bool !p) ?_ (r:=.iv (.bool !p)) (VR.bool _) hK;simp only[execOp,hop,oV v1,Op.unary,aw,aA,av]
  . rename_i k p hx;obtain⟨c,e,hK⟩:=ho;subst e;have v1:=bb h.sim rfl x;rw[hx] at v1;refine fm h hd (v:=.int k (k.wrap (0-p))) ?_ (r:=.iv (.int k (k.wrap (0-p)))) (VR.int _ _) hK;simp only[execOp,hop,VR.asInt v1,Op.unary,Op.intArith,aw,aA,av]
  exact ho.elim
 .
  rename_i s d x hop;split at ho
  .
   rename_i ts td hs htd;split at ho
   . rename_i k0 k k' p h1 h2 hx;obtain⟨n,e,hK⟩:=ho;subst e;exact ok_convert hT h hd hop hs htd h1 h2 hx hK
   . rename_i l h1 h2 hx;exact O8 hT h hd hop hs htd h1 h2 hx ho
   exact ho.elim
  exact ho.elim
 .
  rename_i t l c hop;split at ho
  .
   rename_i ty ht hg;split at ho
   .
    rename_i e hsh;split at ho
    .
     rename_i te kl p kc q hte hl hc;cases hb:(Nat.blt 0 te.size&&Nat.beq te.zero.cells.length te.size) with
     |false=>rw[hb] at ho;exact ho.elim
     |true=>
      rw[hb] at ho;simp only[aH] at hb;simp only[al] at ho;obtain⟨rfl,m,rfl,h1,h2,hK⟩:=ho;exact ok_makeSlice hT h hd hop ht hsh hte hl hc (kz (by simpa[Nat.blt] using hb.1)) (aB hb.2) h1 h2 hg hK
    exact ho.elim
   exact ho.elim
  exact ho.elim
 .
  rename_i t x lo hi mx hop;split at ho
  .
   rename_i ty ht;split at ho
   . rename_i s hsh hx;split at ho
     . obtain⟨u,hu,ho⟩:=mD h ho;obtain⟨l,hl,h1,h2,hK⟩:=mD h ho;exact O6 hT h hd hop ht hsh hx hl hu h1 h2 hK
     exact ho.elim
   . rename_i e es hsh hx;split at ho
     . rename_i te hte;obtain⟨u,hu,ho⟩:=mD h ho;obtain⟨m,hm,ho⟩:=mD h ho;obtain⟨l,hl,h1,h2,h3,h4,h5,hK⟩:=mD h ho;exact PZ hT h hd hop ht hsh hte hx hl hu hm h1 h2 h3 h4 h5 hK
     exact ho.elim
   . rename_i e hsh hx;split at ho
     . rename_i te hte;obtain⟨u,hu,ho⟩:=mD h ho;obtain⟨m,hm,ho⟩:=mD h ho;obtain⟨l,hl,h1,h2,h3,h4,hK⟩:=mD h ho;exact PY hT h hd hop ht hsh hte hx hl hu hm h1 h2 h3 h4 hK
     exact ho.elim
   . rename_i e g' off n fl hsh hx;split at ho
     . rename_i te e' sz es fz hte hb;obtain⟨hsz,ho⟩:=ho;obtain⟨u,hu,ho⟩:=mD h ho;obtain⟨m,hm,ho⟩:=mD h ho;obtain⟨l,hl,h1,h2,h3,h4,c,hc,hK⟩:=mD h ho;exact PX hT h hd hop ht hsh hte hx hb hsz hl hu hm h1 h2 h3 h4 hc (by cases c<;>exact hK)
     exact ho.elim
   exact ho.elim
  exact ho.elim
 .
  rename_i t x j hop;split at ho
  .
   rename_i ty ht;split at ho
   .
    rename_i fo ag sz hsh hf;cases hb:Nat.blt 0 sz with
    |false=>rw[hb] at ho;exact ho.elim
    |true=>
     rw[hb] at ho;have hsz:0<sz:=kz (by simpa[Nat.blt] using hb);simp only[al] at ho;have hv:=bb h.sim rfl x;split at ho
     . rename_i g' off hx;rw[hx] at hv;exact ok_fieldAddr hT h hd hop ht hsh hf hsz hv.2 (r:=.ptr g' (off+fo)) ⟨hv.1,rfl⟩ ho
     . rename_i y off hx;rw[hx] at hv;obtain⟨b,base,u,arr,e1,e2,e3,e4⟩:=hv;exact ok_fieldAddr hT h hd hop ht hsh hf hsz e1 (r:=.iptr y (off+fo)) ⟨b,base,u,arr,by rw[mG],e2,e3,e4⟩ ho
     . rename_i g' i off hx;rw[hx] at hv;split at ho
       . rename_i e sz es fz hbx;simp only[SR,hbx] at hv;exact ok_fieldAddr hT h hd hop ht hsh hf hsz hv.1 (r:=.eptr g' i (off+fo)) (by simp only[SR,hbx];exact⟨by rw[mG],hv.2⟩) (rd:=[g']) ho
       exact ho.elim
     exact ho.elim
   exact ho.elim
  exact ho.elim
 .
  rename_i s x j hop;split at ho
  .
   rename_i ty ht;split at ho
   . rename_i fo ag sz cs hsh hf hx;split at ho
     . rename_i r hl;exact ok_field hT h hd hop ht hsh hf hx hl ho
     exact ho.elim
   exact ho.elim
  exact ho.elim
 .
  rename_i t x ix hop;split at ho
  .
   rename_i ty ht;split at ho
   . rename_i e es k p hsh hx hi;split at ho
     . rename_i te hte;obtain⟨j,y,rfl,hj,hy,hK⟩:=ho;exact OP hT h hd hop ht hsh hte hx hi hj hy hK
     exact ho.elim
   . rename_i e g' off n fl k p hsh hx hi;split at ho
     . rename_i te e' sz es fz hte hb;obtain⟨hsz,j,rfl,hj,hK⟩:=ho;exact OO hT h hd hop ht hsh hte hx hb hsz hi hj hK
     exact ho.elim
   . rename_i n e g' off k p hsh hx hi;split at ho
     . rename_i te hte;obtain⟨j,rfl,hj,hK⟩:=ho;exact OQ hT h hd hop ht hsh hte hx hi hj hK
     exact ho.elim
   exact ho.elim
  exact ho.elim
 .
  rename_i t x ix hop;split at ho
  . rename_i ty ht;split at ho
    . rename_i s k p hsh hx hi;obtain⟨j,b,rfl,hj,n,rfl,hK⟩:=ho;exact ok_index hT h hd hop ht hsh hx hi hj hK
    exact ho.elim
  exact ho.elim
 .
  rename_i x j hop;split at ho
  . rename_i vs hx;split at ho
    . rename_i y hj;exact ok_extract h hd hop hx hj ho
    exact ho.elim
  exact ho.elim
 .
  rename_i fn first captured hop
  split at ho
  . rename_i f gs hfirst hgs;split at ho
    . exact ok_makeFunc h hd hop hfirst hgs (.inl ⟨rfl,rfl⟩) ho
    exact ok_makeFunc h hd hop hfirst hgs (.inr rfl) ho
  exact ho.elim
 . rename_i b args ts hop;exact O4 hT h hd hop ho
 .
  rename_i f args ts hop;split at ho
  .
   rename_i fn hf;split at ho
   . split at ho
     . rename_i xs fs hxs;obtain⟨f',zs,hm,hfr,hK⟩:=ho;exact Ua (hΦ.mkr _ _ _ _ hm) (hIs w (BelowO.refl _ _)) h hd hop hf hxs hfr hK
     exact ho.elim
   split at ho
   . split at ho
     . rename_i xs fs hxs;obtain⟨r,hr,hK⟩:=ho;exact Uc (hΦ.pu _ _ _ hr) (hIs w (BelowO.refl _ _)) h hd hop hf hxs hK
     exact ho.elim
   split at ho
   .
    rename_i x rest hargs;have e3:args=(x::rest).toArray:=fc (by simpa using hargs);subst e3;split at ho
    . rename_i g' off n fl hx;split at ho
      . rename_i e sz es xs fs hb hxs;obtain⟨hn,es',r,hr,hl,hK⟩:=ho;exact Wb (hΦ.mt _ _ _ _ _ _ _ _ _ hr) hIs h hd hop hf hx hb hxs hn hl hK
      exact ho.elim
    exact ho.elim
   exact ho.elim
  exact ho.elim
 exact ho.elim
end
def eqF(b b':Option Bx):Prop:=b=b'\/∃e sz es f f',b=some (.arr e sz es f)/\b'=some (.arr e sz es f')
def eqF.refl(b:Option Bx):eqF b b:=.inl rfl
def eqF.symm{b b':Option Bx}(h:eqF b b'):eqF b' b:=by
 rcases h with rfl|⟨e,sz,es,f,f',h1,h2⟩
 . exact .inl rfl
 exact .inr ⟨e,sz,es,f',f,h2,h1⟩
def eqF.trans{a b c:Option Bx}(h:eqF a b)(k:eqF b c):eqF a c:=by
 rcases h with rfl|⟨e,sz,es,f,f',h1,h2⟩
 . exact k
 rcases k with rfl|⟨e2,sz2,es2,f2,f2',k1,k2⟩
 . exact .inr ⟨e,sz,es,f,f',h1,h2⟩
 rw[h2] at k1;simp only[ai,Bx.arr.injEq] at k1;obtain⟨rfl,rfl,rfl,_⟩:=k1;exact .inr ⟨_,_,_,_,_,h1,k2⟩
def eqF.var{b b':Option Bx}(h:eqF b b'){x:IV}(e:b=some (.var x)):b'=some (.var x):=by
 rcases h with rfl|⟨_,_,_,_,_,h1,_⟩
 . exact e
 rw[h1] at e;simp at e
def eqF.bld{b b':Option Bx}(h:eqF b b'){x:Ow}(e:b=some (.bld x)):b'=some (.bld x):=by
 rcases h with rfl|⟨_,_,_,_,_,h1,_⟩
 . exact e
 rw[h1] at e;simp at e
def eqF.arr{b b':Option Bx}(h:eqF b b'){e:TypeId}{sz:Nat}{es:List IV}{f:Bool}(hb:b=some (.arr e sz es f)):∃f',b'=some (.arr e sz es f'):=by
 rcases h with rfl|⟨e2,sz2,es2,f2,f2',h1,h2⟩
 . exact⟨f,hb⟩
 rw[h1] at hb;simp only[ai,Bx.arr.injEq] at hb;obtain⟨rfl,rfl,rfl,_⟩:=hb;exact⟨f2',h2⟩
def Is(R:SV)(F:Eff):SV->Eff->Prop:=fun r e=>r=R/\e=F
section
variable {bx bx':Nat->Option Bx}{V V':Operand->SV}
def mY{s:SV}{x:IV}{f:List Nat}(h:dL bx s=some (x,f))(hb:∀id∈f,eqF (bx id) (bx' id)):dL bx' s=some (x,f):=by
 cases s with
 |ref g off n fl=>
  simp only[dL] at h ⊢;split at h
  . rename_i e sz es fz hg;simp only[ai,aC] at h;obtain⟨rfl,rfl⟩:=h;obtain⟨f',h'⟩:=(hb g (by simp)).arr hg;rw[h']
  simp at h
 |_=>exact h
def yd:∀{os:List Operand} {xs:List IV} {fs:List Nat},gK bx V os=some (xs,fs)->(∀x∈os,V' x=V x)->(∀id∈fs,eqF (bx id) (bx' id))->gK bx' V' os=some (xs,fs)
 | [],xs,fs,h,_,_=>h
 |o::os,xs,fs,h,hr,hb=>by
  simp only[gK] at h ⊢;split at h
  . rename_i x f h1;split at h
    . rename_i ys gs h2;simp only[ai,aC] at h;obtain⟨rfl,rfl⟩:=h;rw[hr o (by simp),mY h1 (fun id hid=>hb id (by simp[hid])),yd h2 (fun x hx=>hr x (by simp[hx])) (fun id hid=>hb id (by simp[hid]))]
    simp at h
  simp at h
def BH{fields:List (Nat×Bool×Nat)}:∀{ps:List (Nat×Operand)} {cs r:List IV} {fs:List Nat},jt fields bx V cs ps=some (r,fs)->(∀p∈ps,V' p.2=V p.2)->(∀id∈fs,eqF (bx id) (bx' id))->jt fields bx' V' cs ps=some (r,fs)
 | [],cs,r,fs,h,_,_=>h
 | (j,o)::ps,cs,r,fs,h,hr,hb=>by
   simp only[jt] at h ⊢;split at h
   .
    rename_i off ag sz y f h1 h2;rw[h1];cases hc:(Nat.beq y.cells.length sz&&Nat.ble (off+sz) cs.length && !y.isTup) with
    |false=>rw[hc] at h;simp at h
    |true=>
     rw[hc] at h;simp only[al] at h;split at h
     . rename_i r' gs h3;simp only[ai,aC] at h;obtain⟨rfl,rfl⟩:=h;rw[hr (j,o) (by simp),mY h2 (fun id hid=>hb id (by simp[hid]))];simp only[hc,al];rw[BH h3 (fun p hp=>hr p (by simp[hp])) (fun id hid=>hb id (by simp[hid]))]
     simp at h
   simp at h
def HB{sz:Nat}:∀{ps:List (Nat×Operand)} {es r:List IV} {fs:List Nat},kS sz bx V es ps=some (r,fs)->(∀p∈ps,V' p.2=V p.2)->(∀id∈fs,eqF (bx id) (bx' id))->kS sz bx' V' es ps=some (r,fs)
 | [],es,r,fs,h,_,_=>h
 | (j,o)::ps,es,r,fs,h,hr,hb=>by
   simp only[kS] at h ⊢;split at h
   .
    rename_i y f h2;cases hc:(Nat.beq y.cells.length sz&&Nat.blt j es.length && !y.isTup) with
    |false=>rw[hc] at h;simp at h
    |true=>
     rw[hc] at h;simp only[al] at h;split at h
     . rename_i r' gs h3;simp only[ai,aC] at h;obtain⟨rfl,rfl⟩:=h;rw[hr (j,o) (by simp),mY h2 (fun id hid=>hb id (by simp[hid]))];simp only[hc,al];rw[HB h3 (fun p hp=>hr p (by simp[hp])) (fun id hid=>hb id (by simp[hid]))]
     simp at h
   simp at h
def lK{v:Option Operand}{d:Nat}{K K':Nat->Prop}(h:fB (v.map V) d K)(hr:∀x,v=some x->V' x=V x)(hk:∀m,K m->K' m):fB (v.map V') d K':=by
 cases v with
 |none=>exact hk _ h
 |some x=>
  simp only[fE] at h ⊢;rw[hr x rfl];unfold fB at h ⊢;split at h
  . rename_i e;simp at e
  . rename_i k n e;obtain⟨m,e2,hK⟩:=h;simp only[ai] at e;exact⟨m,e2,hk m hK⟩
  exact h.elim
def CZ{v:Option SV}{d:Nat}{K:Nat->Prop}(h:fB v d K):∃m,K m:=by
 unfold fB at h;split at h
 . exact⟨_,h⟩
 . obtain⟨m,_,hK⟩:=h;exact⟨m,hK⟩
 exact h.elim
variable {T:TypeId->Option TY}{Φ:Ctr}{o:Oper}{g:Nat}{R:SV}{F:Eff}
def OM{b:Builtin}{ats:List TypeId}{args:List Operand}(h:nW T b ats args V bx g (Is R F))(hr:∀x∈args,V' x=V x)(hb:∀id∈F.rd,eqF (bx id) (bx' id))(hw:∀p∈F.wr,bx' p.1=bx p.1) :
 nW T b ats args V' bx' g (Is R F):=by
 unfold nW at h ⊢;split at h
 .
  split at h
  .
   rename_i x;rw[hr x (by simp)];split at h
   .
    rename_i n t hn
    try rw[hn]
    split at h
    .
     rename_i ty ht
     try rw[ht]
     split at h
     . rename_i s hsh hx
       (try rw[hsh,hx]);exact h
     . rename_i e0 es hsh hx
       (try rw[hsh,hx]);exact h
     . rename_i e0 hsh hx
       (try rw[hsh,hx]);exact h
     .
      rename_i e0 g' off n' fl hsh hx
      try rw[hsh,hx]
      split at h
      . rename_i e' sz es fz hbx;obtain⟨m,e,h1,rfl⟩:=h;obtain⟨f',h'⟩:=(hb g' (by simp)).arr hbx
        try rw[h']
        exact⟨m,e,h1,rfl⟩
      exact h.elim
     . rename_i e0 n' hsh hx
       (try rw[hsh,hx]);exact h
     exact h.elim
    exact h.elim
   exact h.elim
  exact h.elim
 . split at h
   . rename_i x y;rw[hr x (by simp),hr y (by simp)];exact h
   exact h.elim
 . split at h
   . rename_i x y;rw[hr x (by simp),hr y (by simp)];exact h
   exact h.elim
 .
  split at h
  .
   rename_i s x t t';rw[hr s (by simp),hr x (by simp)];cases htt:Nat.beq t t' with
   |false=>rw[htt] at h;exact h.elim
   |true=>
    rw[htt] at h;simp only[al] at h ⊢;split at h
    .
     rename_i ty ht
     try rw[ht]
     split at h
     .
      rename_i e hsh
      try rw[hsh]
      split at h
      .
       rename_i te hte
       try rw[hte]
       cases hp:Nat.blt 0 te.size with
       |false=>rw[hp] at h;exact h.elim
       |true=>
        rw[hp] at h;simp only[al] at h;cases hzs:Nat.beq te.zero.cells.length te.size with
        |false=>rw[hzs] at h;exact h.elim
        |true=>
         rw[hzs] at h;simp only[al] at h;split at h
         .
          rename_i news f hx;split at h
          .
           rename_i hs;obtain⟨c,hc,hK⟩:=h;cases c with
           |true=>
            obtain⟨h1,rfl⟩:=hK;simp only[al];rw[mY hx (fun id hid=>hb id hid)];(try rw[hs]);exact⟨true,hc,h1,rfl⟩
           |false=>
            simp only at hK;split at hK
            . rename_i hg;obtain⟨a1,a2,a3,h1,rfl⟩:=hK;simp only[al];rw[mY hx (fun id hid=>hb id hid)];(try rw[hs]);refine⟨false,hc,?_⟩;simp only[(hw (g,_) (List.mem_singleton.2 rfl)).trans hg];exact⟨a1,a2,a3,h1,rfl⟩
            exact hK.elim
          . rename_i g' n hs;split at h
            . rename_i e' sz es hb' hg;obtain⟨h1,h2,h3,h4,h5,h6,h7,h8,rfl⟩:=h;simp only[al];rw[mY hx (fun id hid=>hb id hid)];(try rw[hs]);simp only[(hw (g',.dead) (qH ..)).trans hb',(hw (g,_) (dC _ (List.mem_singleton.2 rfl))).trans hg];exact⟨h1,h2,h3,h4,h5,h6,h7,h8,rfl⟩
            exact h.elim
          exact h.elim
         exact h.elim
      exact h.elim
     exact h.elim
    exact h.elim
  exact h.elim
 .
  split at h
  .
   rename_i d x t t';rw[hr d (by simp),hr x (by simp)];split at h
   .
    rename_i ty ht
    try rw[ht]
    split at h
    .
     rename_i e hsh
     try rw[hsh]
     split at h
     .
      rename_i te hte
      try rw[hte]
      cases hp:Nat.beq te.size 1 with
      |false=>rw[hp] at h;exact h.elim
      |true=>
       rw[hp] at h;simp only[al] at h ⊢;split at h
       .
        rename_i news f hx;split at h
        . rename_i g' off n fl hs;split at h
          . rename_i e' sz es hb';obtain⟨q1,q2,q3,q4,m,q5,h1,rfl⟩:=h;rw[mY hx (fun id hid=>hb id hid)];(try rw[hs]);rw[(hw (g',_) (List.mem_singleton.2 rfl)).trans hb'];exact⟨q1,q2,q3,q4,m,q5,h1,rfl⟩
          exact h.elim
        exact h.elim
       exact h.elim
     exact h.elim
    exact h.elim
   exact h.elim
  exact h.elim
 exact h.elim
def Pq{os:List Operand}{gs:List Nat}(h:n3 V os=some gs)(hr:∀x∈os,V' x=V x):n3 V' os=some gs:=by
 rw[<-h];clear h;induction os with
 |nil=>rfl
 |cons o os ih=>simp only[n3,hr o (by simp),ih (fun x hx=>hr x (by simp[hx]))]
def P6{zs:List IV}:∀{g:Nat},(∀p∈pJ (dR g zs.length) zs,bx' p.1=bx p.1)->iG bx (dR g zs.length)=true->iG bx' (dR g zs.length)=true:=by
 induction zs with
 |nil=>intro g _ _;rfl
 |cons z zs ih=>
  intro g hw h;simp only[aY,dR,pJ,iG] at hw h ⊢;have h0:=hw (g,.var z) (by simp);simp only at h0;rw[h0];split at h
  . exact ih (fun p hp=>hw p (by simp[hp])) h
  cases h
def RY(h:mv T Φ o V bx g (Is R F))(hr:∀x∈o.op.operands,V' x=V x)(hb:∀id∈F.rd,eqF (bx id) (bx' id))(hw:∀p∈F.wr,bx' p.1=bx p.1):mv T Φ o V' bx' g (Is R F):=by
 unfold mv at h ⊢;split at h
 . rename_i x hop;rw[hr x (by rw[hop];simp[Op.operands])];exact h
 . rename_i x hop;rw[hr x (by rw[hop];simp[Op.operands])];exact h
 . rename_i c x y hop;rw[hr c (by rw[hop];simp[Op.operands]),hr x (by rw[hop];simp[Op.operands]),hr y (by rw[hop];simp[Op.operands])];exact h
 . rename_i t hop;split at h
   . rename_i ty ht hg;obtain⟨h1,rfl⟩:=h;simp only[ht,(hw (g,_) (List.mem_singleton.2 rfl)).trans hg];exact⟨h1,rfl⟩
   exact h.elim
 .
  rename_i t x hop;rw[hr x (by rw[hop];simp[Op.operands])];split at h
  .
   rename_i y f hx hg;cases hy:y.isTup with
   |true=>rw[hy] at h;exact h.elim
   |false=>
    rw[hy] at h;obtain⟨h1,rfl⟩:=h;simp only[mY hx (fun id hid=>hb id hid),(hw (g,_) (List.mem_singleton.2 rfl)).trans hg,hy];exact⟨h1,rfl⟩
  exact h.elim
 .
  rename_i t parts hop;split at h
  .
   rename_i ty ht;split at h
   . rename_i hsh;split at h
     . rename_i cs f hf;obtain⟨h1,rfl⟩:=h;simp only[BH hf (V':=V') (bx':=bx') (fun p hp=>hr p.2 (by rw[hop];simp only[Op.operands,NV,xj];exact⟨p,hp,rfl⟩)) (fun id hid=>hb id hid)];exact⟨h1,rfl⟩
     exact h.elim
   .
    rename_i n e hsh;split at h
    . rename_i te hte;split at h
      . rename_i cs f hf;obtain⟨h1,rfl⟩:=h;simp only[hte,BH hf (V':=V') (bx':=bx') (fun p hp=>hr p.2 (by rw[hop];simp only[Op.operands,NV,xj];exact⟨p,hp,rfl⟩)) (fun id hid=>hb id hid)];exact⟨h1,rfl⟩
      exact h.elim
    exact h.elim
   exact h.elim
  exact h.elim
 .
  rename_i t len parts hop;split at h
  .
   rename_i ty ht hg;split at h
   .
    rename_i e hsh;split at h
    .
     rename_i te hte;cases hbb:(Nat.blt 0 te.size&&Nat.ble (len*te.size) 16777216&&Nat.beq te.zero.cells.length te.size) with
     |false=>rw[hbb] at h;exact h.elim
     |true=>
      rw[hbb] at h;simp only[al] at h;split at h
      . rename_i es f hf;obtain⟨h1,rfl⟩:=h;simp only[ht,(hw (g,_) (List.mem_singleton.2 rfl)).trans hg,hsh,hte,hbb,al,HB hf (V':=V') (bx':=bx') (fun p hp=>hr p.2 (by rw[hop];simp only[Op.operands,NV,xj];exact⟨p,hp,rfl⟩)) (fun id hid=>hb id hid)];exact⟨h1,rfl⟩
      exact h.elim
    exact h.elim
   exact h.elim
  exact h.elim
 .
  rename_i t x hop;rw[hr x (by rw[hop];simp[Op.operands])];split at h
  .
   rename_i ty ht;split at h
   .
    rename_i g' off hx;split at h
    . rename_i y hbx;split at h
      . rename_i r hl;obtain⟨h1,rfl⟩:=h;simp only[(hb g' (List.mem_singleton.2 rfl)).var hbx,hl];exact⟨h1,rfl⟩
      exact h.elim
    .
     rename_i v0 cs j e sz es hbx;cases hc:(Nat.beq off j&&Nat.beq ty.size 1 && !ty.sh.agg) with
     |false=>rw[hc] at h;exact h.elim
     |true=>
      rw[hc] at h;have hF:g'∈F.rd:=by cases v0<;>(obtain⟨_,rfl⟩:=h;exact List.mem_singleton.2 rfl)
      simp only[(hb g' hF).bld hbx,hc,al];exact h
    exact h.elim
   . exact h
   .
    rename_i g' j off hx;split at h
    . rename_i e sz es fz hbx;obtain⟨y,hj,h⟩:=h;split at h
      . rename_i r hl;obtain⟨h1,rfl⟩:=h;obtain⟨f',h'⟩:=(hb g' (List.mem_singleton.2 rfl)).arr hbx;simp only[h'];refine⟨y,hj,?_⟩;simp only[hl];exact⟨h1,rfl⟩
      exact h.elim
    exact h.elim
   exact h.elim
  exact h.elim
 .
  rename_i t x y hop;rw[hr x (by rw[hop];simp[Op.operands]),hr y (by rw[hop];simp[Op.operands])];split at h
  .
   rename_i ty z f ht hy;cases hbb:(Nat.beq z.cells.length ty.size && !z.isTup) with
   |false=>rw[hbb] at h;exact h.elim
   |true=>
    rw[hbb] at h;simp only[al] at h;split at h
    .
     rename_i g' off hx;split at h
     . rename_i u hbx;split at h
       . rename_i u' hs;obtain⟨h1,rfl⟩:=h;simp only[ht,mY hy (fun id hid=>hb id (dC _ hid)),hbb,al,(hb g' (qH ..)).var hbx,hs];exact⟨h1,rfl⟩
       exact h.elim
     exact h.elim
    .
     rename_i g' j off hx;split at h
     . rename_i e sz es hbx;obtain⟨hf,u,hj,h⟩:=h;split at h
       . rename_i u' hs;obtain⟨h1,rfl⟩:=h;simp only[ht,mY hy (fun id hid=>hb id (dC _ hid)),hbb,al,(hw (g',_) (List.mem_singleton.2 rfl)).trans hbx];refine⟨hf,u,hj,?_⟩;simp only[hs];exact⟨h1,rfl⟩
       exact h.elim
     exact h.elim
    exact h.elim
  exact h.elim
 . rename_i op t x y t' hop;rw[hr x (by rw[hop];simp[Op.operands]),hr y (by rw[hop];simp[Op.operands])];exact h
 . rename_i op t x hop;rw[hr x (by rw[hop];simp[Op.operands])];exact h
 . rename_i s d x hop;rw[hr x (by rw[hop];simp[Op.operands])];exact h
 .
  rename_i t l c hop;rw[hr l (by rw[hop];simp[Op.operands]),hr c (by rw[hop];simp[Op.operands])];split at h
  .
   rename_i ty ht hg;split at h
   .
    rename_i e hsh;split at h
    .
     rename_i te kl p kc q hte hl hc;cases hbb:(Nat.blt 0 te.size&&Nat.beq te.zero.cells.length te.size) with
     |false=>rw[hbb] at h;exact h.elim
     |true=>
      rw[hbb] at h;simp only[al] at h;obtain⟨e1,m,e2,h1,h2,h3,rfl⟩:=h;simp only[ht,(hw (g,_) (List.mem_singleton.2 rfl)).trans hg,hsh,hte,hl,hc,hbb,al];exact⟨e1,m,e2,h1,h2,h3,rfl⟩
    exact h.elim
   exact h.elim
  exact h.elim
 .
  rename_i t x lo hi mx hop;have hrx:=hr x (by rw[hop];simp[Op.operands]);have hrlo:∀y,lo=some y->V' y=V y:=fun y e=>hr y (by rw[hop];simp[Op.operands,e]);have hrhi:∀y,hi=some y->V' y=V y:=fun y e=>hr y (by rw[hop];simp[Op.operands,e]);have hrmx:∀y,mx=some y->V' y=V y:=fun y e=>hr y (by rw[hop];simp[Op.operands,e]);rw[hrx];split at h
  .
   rename_i ty ht;split at h
   . rename_i s hsh hx;split at h
     . exact lK h hrhi fun u hu=>lK hu hrlo fun l hl=>hl
     exact h.elim
   . rename_i e es hsh hx;split at h
     . exact lK h hrhi fun u hu=>lK hu hrmx fun m hm=>lK hm hrlo fun l hl=>hl
     exact h.elim
   . rename_i e hsh hx;split at h
     . exact lK h hrhi fun u hu=>lK hu hrmx fun m hm=>lK hm hrlo fun l hl=>hl
     exact h.elim
   .
    rename_i e g' off n fl hsh hx;split at h
    . rename_i te e' sz es fz hte hbx;obtain⟨hsz,h⟩:=h;have hF:g'∈F.rd:=by
       obtain⟨u,h⟩:=CZ h;obtain⟨m,h⟩:=CZ h;obtain⟨l,_,_,_,_,c,_,h⟩:=CZ h;cases c<;>(obtain⟨_,rfl⟩:=h;exact List.mem_singleton.2 rfl)
      obtain⟨f',h'⟩:=(hb g' hF).arr hbx;simp only[hsh,hx,hte,h'];exact⟨hsz,lK h hrhi fun u hu=>lK hu hrmx fun m hm=>lK hm hrlo fun l hl=>hl⟩
    exact h.elim
   exact h.elim
  exact h.elim
 .
  rename_i t x j hop;rw[hr x (by rw[hop];simp[Op.operands])];split at h
  .
   rename_i ty ht;split at h
   .
    rename_i fo ag sz hsh hf;cases hbb:Nat.blt 0 sz with
    |false=>rw[hbb] at h;exact h.elim
    |true=>
     rw[hbb] at h;simp only[al] at h;split at h
     . rename_i g' off hx;simp only[hsh,hf,hbb,al,hx];exact h
     . rename_i y off hx;simp only[hsh,hf,hbb,al,hx];exact h
     . rename_i g' i off hx;split at h
       . rename_i e sz' es fz hbx;obtain⟨h1,rfl⟩:=h;obtain⟨f',h'⟩:=(hb g' (List.mem_singleton.2 rfl)).arr hbx;simp only[hsh,hf,hbb,al,hx,h'];exact⟨h1,rfl⟩
       exact h.elim
     exact h.elim
   exact h.elim
  exact h.elim
 . rename_i s x j hop;rw[hr x (by rw[hop];simp[Op.operands])];exact h
 .
  rename_i t x ix hop;rw[hr x (by rw[hop];simp[Op.operands]),hr ix (by rw[hop];simp[Op.operands])];split at h
  .
   rename_i ty ht;split at h
   . exact h
   . rename_i e g' off n fl k p hsh hx hi;split at h
     . rename_i te e' sz es fz hte hbx;obtain⟨hsz,j,e1,hj,h1,rfl⟩:=h;obtain⟨f',h'⟩:=(hb g' (List.mem_singleton.2 rfl)).arr hbx;simp only[hsh,hx,hi,hte,h'];exact⟨hsz,j,e1,hj,h1,rfl⟩
     exact h.elim
   . exact h
   exact h.elim
  exact h.elim
 . rename_i t x ix hop;rw[hr x (by rw[hop];simp[Op.operands]),hr ix (by rw[hop];simp[Op.operands])];exact h
 . rename_i x j hop;rw[hr x (by rw[hop];simp[Op.operands])];exact h
 .
  rename_i fn first captured hop
  split at h
  . rename_i f gs hfirst hgs;simp only[hfirst,Pq hgs (V':=V') (fun x hx=>hr x (by rw[hop];simp only[Op.operands,Array.mem_append];exact .inr (by simpa using hx)))];exact h
  exact h.elim
 . rename_i b args ts hop;exact OM h (fun x hx=>hr x (by rw[hop];simp[Op.operands,Call.operands];simpa using hx)) hb hw
 .
  rename_i f args ts hop;rw[hr f (by rw[hop];simp[Op.operands,Call.operands])];split at h
  .
   rename_i fn hf;split at h
   . split at h
     . rename_i xs fs hxs;obtain⟨f',zs,hm,hfr,h1,rfl⟩:=h;simp only[yd hxs (V':=V') (bx':=bx') (fun x hx=>hr x (by rw[hop];simp[Op.operands,Call.operands];exact .inr (by simpa using hx))) (fun id hid=>hb id hid)];exact⟨f',zs,hm,P6 (fun p hp=>hw p hp) hfr,h1,rfl⟩
     exact h.elim
   split at h
   . split at h
     . rename_i xs fs hxs;obtain⟨r,hr',h1,rfl⟩:=h;simp only[yd hxs (V':=V') (bx':=bx') (fun x hx=>hr x (by rw[hop];simp[Op.operands,Call.operands];exact .inr (by simpa using hx))) (fun id hid=>hb id hid)];exact⟨r,hr',h1,rfl⟩
     exact h.elim
   split at h
   .
    rename_i x rest hargs;have e3:args=(x::rest).toArray:=fc (by simpa using hargs);subst e3;rw[hr x (by rw[hop];simp[Op.operands,Call.operands])];split at h
    . rename_i g' off n fl hx;split at h
      . rename_i e sz es xs fs hbx hxs;obtain⟨hn,es',r,hr',hl,h1,rfl⟩:=h;simp only[(hw (g',_) (List.mem_singleton.2 rfl)).trans hbx,yd hxs (V':=V') (bx':=bx') (fun x hx=>hr x (by rw[hop];simp[Op.operands,Call.operands];exact .inr (.inr hx))) (fun id hid=>hb id (dC _ hid))];exact⟨hn,es',r,hr',hl,h1,rfl⟩
      exact h.elim
    exact h.elim
   exact h.elim
  exact h.elim
 exact h.elim
end
section
variable {bx:Nat->Option Bx}{V:Operand->SV}{T:TypeId->Option TY}{Φ:Ctr}{o:Oper}{g:Nat}{K:SV->Eff->Prop}
def Px{op:BinOp}{k:IntKind}{p q:Int}{J:IV->Prop}(h:nh op k p q J):∃r,J r/\∀J':IV->Prop,J' r->nh op k p q J':=by
 cases op<;>simp only[nh] at h ⊢ <;> first
  |exact h.elim
  | (obtain⟨h0,n,e,hJ⟩:=h;exact⟨_,hJ,fun J' hj=>⟨h0,n,e,hj⟩⟩)
  | (obtain⟨n,e,hJ⟩:=h;exact⟨_,hJ,fun J' hj=>⟨n,e,hj⟩⟩)
def Pj{op:BinOp}{p q:List UInt8}{J:IV->Prop}(h:nc op p q J):∃r,J r/\∀J':IV->Prop,J' r->nc op p q J':=by
 cases op<;>simp only[nc] at h ⊢ <;> first
  |exact h.elim
  | (obtain⟨n,e,hJ⟩:=h;exact⟨_,hJ,fun J' hj=>⟨n,e,hj⟩⟩)
  | (obtain⟨h0,hJ⟩:=h;exact⟨_,hJ,fun J' hj=>⟨h0,hj⟩⟩)
def Pf{op:BinOp}{p q:Bool}{J:IV->Prop}(h:tz op p q J):∃r,J r/\∀J':IV->Prop,J' r->tz op p q J':=by
 cases op<;>simp only[tz] at h ⊢ <;> first
  |exact h.elim
  | (obtain⟨n,e,hJ⟩:=h;exact⟨_,hJ,fun J' hj=>⟨n,e,hj⟩⟩)
def lL{v:Option SV}{d:Nat}{K:Nat->Prop}(h:fB v d K):∃m,K m/\∀K':Nat->Prop,K' m->fB v d K':=by
 unfold fB at h ⊢;split at h
 . exact⟨_,h,fun K' hk=>hk⟩
 . obtain⟨m,e,hK⟩:=h;exact⟨m,hK,fun K' hk=>⟨m,e,hk⟩⟩
 exact h.elim
def ON{b:Builtin}{ats:List TypeId}{args:List Operand}(h:nW T b ats args V bx g K):∃r e,nW T b ats args V bx g (Is r e)/\K r e:=by
 unfold nW at h ⊢;split at h
 .
  split at h
  .
   split at h
   .
    split at h
    .
     split at h
     . obtain⟨m,e,hK⟩:=h;exact⟨_,_,⟨m,e,rfl,rfl⟩,hK⟩
     . obtain⟨m,e,hK⟩:=h;exact⟨_,_,⟨m,e,rfl,rfl⟩,hK⟩
     . exact⟨_,_,⟨rfl,rfl⟩,h⟩
     . split at h
       . obtain⟨m,e,hK⟩:=h;exact⟨_,_,⟨m,e,rfl,rfl⟩,hK⟩
       exact h.elim
     . obtain⟨m,e,hK⟩:=h;exact⟨_,_,⟨m,e,rfl,rfl⟩,hK⟩
     exact h.elim
    exact h.elim
   exact h.elim
  exact h.elim
 .
  split at h
  . split at h
    . obtain⟨m,e,hK⟩:=h;exact⟨_,_,⟨m,e,rfl,rfl⟩,hK⟩
    exact h.elim
  exact h.elim
 .
  split at h
  . split at h
    . obtain⟨m,e,hK⟩:=h;exact⟨_,_,⟨m,e,rfl,rfl⟩,hK⟩
    exact h.elim
  exact h.elim
 .
  split at h
  .
   rename_i s x t t';cases htt:Nat.beq t t' with
   |false=>rw[htt] at h;exact h.elim
   |true=>
    rw[htt] at h;simp only[al] at h ⊢;split at h
    .
     split at h
     .
      split at h
      .
       rename_i te hte;cases hp:Nat.blt 0 te.size with
       |false=>rw[hp] at h;exact h.elim
       |true=>
        rw[hp] at h;simp only[al] at h;cases hzs:Nat.beq te.zero.cells.length te.size with
        |false=>rw[hzs] at h;exact h.elim
        |true=>
         rw[hzs] at h;simp only[hp,hzs,al] at h ⊢;split at h
         .
          split at h
          .
           obtain⟨c,hc,hK⟩:=h;cases c with
           |true=>exact⟨_,_,⟨true,hc,rfl,rfl⟩,hK⟩
           |false=>
            simp only at hK;split at hK
            . rename_i hg;obtain⟨a1,a2,a3,hK⟩:=hK;refine⟨_,_,⟨false,hc,?_⟩,hK⟩;simp only[hg];exact⟨a1,a2,a3,rfl,rfl⟩
            exact hK.elim
          . split at h
            . obtain⟨h1,h2,h3,h4,h5,h6,h7,hK⟩:=h;exact⟨_,_,⟨h1,h2,h3,h4,h5,h6,h7,rfl,rfl⟩,hK⟩
            exact h.elim
          exact h.elim
         exact h.elim
      exact h.elim
     exact h.elim
    exact h.elim
  exact h.elim
 .
  split at h
  .
   split at h
   .
    split at h
    .
     split at h
     .
      rename_i te hte;cases hp:Nat.beq te.size 1 with
      |false=>rw[hp] at h;exact h.elim
      |true=>
       rw[hp] at h;simp only[hp,al] at h ⊢;split at h
       .
        split at h
        . split at h
          . obtain⟨q1,q2,q3,q4,m,q5,hK⟩:=h;exact⟨_,_,⟨q1,q2,q3,q4,m,q5,rfl,rfl⟩,hK⟩
          exact h.elim
        exact h.elim
       exact h.elim
     exact h.elim
    exact h.elim
   exact h.elim
  exact h.elim
 exact h.elim
def CE(h:mv T Φ o V bx g K):∃r e,mv T Φ o V bx g (Is r e)/\K r e:=by
 unfold mv at h ⊢;split at h
 . split at h<;>exact⟨_,_,⟨rfl,rfl⟩,h⟩
 . split at h<;>exact⟨_,_,⟨rfl,rfl⟩,h⟩
 . split at h
   . obtain⟨r,h1,h2,hK⟩:=h;exact⟨_,_,⟨r,h1,h2,rfl,rfl⟩,hK⟩
   exact h.elim
 . split at h
   . exact⟨_,_,⟨rfl,rfl⟩,h⟩
   exact h.elim
 .
  split at h
  . rename_i y f hx hg;cases hy:y.isTup with
    |true=>rw[hy] at h;exact h.elim
    |false=>rw[hy] at h;exact⟨_,_,⟨rfl,rfl⟩,h⟩
  exact h.elim
 .
  split at h
  .
   split at h
   . split at h
     . exact⟨_,_,⟨rfl,rfl⟩,h⟩
     exact h.elim
   .
    split at h
    . split at h
      . exact⟨_,_,⟨rfl,rfl⟩,h⟩
      exact h.elim
    exact h.elim
   exact h.elim
  exact h.elim
 .
  rename_i t len parts hop;split at h
  .
   split at h
   .
    split at h
    .
     rename_i te hte;cases hbb:(Nat.blt 0 te.size&&Nat.ble (len*te.size) 16777216&&Nat.beq te.zero.cells.length te.size) with
     |false=>rw[hbb] at h;exact h.elim
     |true=>
      rw[hbb] at h;simp only[hbb,al] at h ⊢;split at h
      . exact⟨_,_,⟨rfl,rfl⟩,h⟩
      exact h.elim
    exact h.elim
   exact h.elim
  exact h.elim
 .
  split at h
  .
   rename_i ty ht;split at h
   .
    split at h
    . split at h
      . exact⟨_,_,⟨rfl,rfl⟩,h⟩
      exact h.elim
    .
     rename_i off hx _ v0 cs j e sz es hbx;cases hc:(Nat.beq off j&&Nat.beq ty.size 1 && !ty.sh.agg) with
     |false=>rw[hc] at h;exact h.elim
     |true=>
      rw[hc] at h;simp only[hc,al] at h ⊢;cases v0<;>exact⟨_,_,⟨rfl,rfl⟩,h⟩
    exact h.elim
   . split at h
     . exact⟨_,_,⟨rfl,rfl⟩,h⟩
     exact h.elim
   .
    split at h
    . obtain⟨y,hj,h⟩:=h;split at h
      . rename_i r hl;refine⟨_,_,⟨y,hj,?_⟩,h⟩;simp only[hl];exact⟨rfl,rfl⟩
      exact h.elim
    exact h.elim
   exact h.elim
  exact h.elim
 .
  split at h
  .
   rename_i ty z f ht hy;cases hbb:(Nat.beq z.cells.length ty.size && !z.isTup) with
   |false=>rw[hbb] at h;exact h.elim
   |true=>
    rw[hbb] at h;simp only[hbb,al] at h ⊢;split at h
    .
     split at h
     . split at h
       . exact⟨_,_,⟨rfl,rfl⟩,h⟩
       exact h.elim
     exact h.elim
    .
     split at h
     . obtain⟨hf,u,hj,h⟩:=h;split at h
       . rename_i u' hs;refine⟨_,_,⟨hf,u,hj,?_⟩,h⟩;simp only[hs];exact⟨rfl,rfl⟩
       exact h.elim
     exact h.elim
    exact h.elim
  exact h.elim
 .
  split at h
  . obtain⟨e,h⟩:=h;obtain⟨r,hJ,hall⟩:=Px h;exact⟨_,_,⟨e,hall _ ⟨rfl,rfl⟩⟩,hJ⟩
  . obtain⟨r,hJ,hall⟩:=Pj h;exact⟨_,_,hall _ ⟨rfl,rfl⟩,hJ⟩
  .
   split at h
   . split at h
     . obtain⟨r,hJ,hall⟩:=Pf h;exact⟨_,_,hall _ ⟨rfl,rfl⟩,hJ⟩
     exact h.elim
   exact h.elim
  exact h.elim
 .
  split at h
  . obtain⟨c,e,hK⟩:=h;exact⟨_,_,⟨c,e,rfl,rfl⟩,hK⟩
  . obtain⟨c,e,hK⟩:=h;exact⟨_,_,⟨c,e,rfl,rfl⟩,hK⟩
  exact h.elim
 .
  split at h
  .
   split at h
   . obtain⟨c,e,hK⟩:=h;exact⟨_,_,⟨c,e,rfl,rfl⟩,hK⟩
   . exact⟨_,_,⟨rfl,rfl⟩,h⟩
   exact h.elim
  exact h.elim
 .
  split at h
  .
   split at h
   .
    split at h
    .
     rename_i te kl p kc q hte hl hc;cases hbb:(Nat.blt 0 te.size&&Nat.beq te.zero.cells.length te.size) with
     |false=>rw[hbb] at h;exact h.elim
     |true=>
      rw[hbb] at h;simp only[hbb,al] at h ⊢;obtain⟨e1,m,e2,h1,h2,hK⟩:=h;exact⟨_,_,⟨e1,m,e2,h1,h2,rfl,rfl⟩,hK⟩
    exact h.elim
   exact h.elim
  exact h.elim
 .
  split at h
  .
   split at h
   . split at h
     . obtain⟨u,h,q1⟩:=lL h;obtain⟨l,⟨h1,h2,hK⟩,q2⟩:=lL h;exact⟨_,_,q1 _ (q2 _ ⟨h1,h2,rfl,rfl⟩),hK⟩
     exact h.elim
   . split at h
     . obtain⟨u,h,q1⟩:=lL h;obtain⟨m,h,q2⟩:=lL h;obtain⟨l,⟨h1,h2,h3,h4,h5,hK⟩,q3⟩:=lL h;exact⟨_,_,q1 _ (q2 _ (q3 _ ⟨h1,h2,h3,h4,h5,rfl,rfl⟩)),hK⟩
     exact h.elim
   . split at h
     . obtain⟨u,h,q1⟩:=lL h;obtain⟨m,h,q2⟩:=lL h;obtain⟨l,⟨h1,h2,h3,h4,hK⟩,q3⟩:=lL h;exact⟨_,_,q1 _ (q2 _ (q3 _ ⟨h1,h2,h3,h4,rfl,rfl⟩)),hK⟩
     exact h.elim
   .
    split at h
    . obtain⟨hsz,h⟩:=h;obtain⟨u,h,q1⟩:=lL h;obtain⟨m,h,q2⟩:=lL h;obtain⟨l,⟨h1,h2,h3,h4,c,hc,hK⟩,q3⟩:=lL h;cases c with
      |true=>exact⟨_,_,⟨hsz,q1 _ (q2 _ (q3 _ ⟨h1,h2,h3,h4,true,hc,rfl,rfl⟩))⟩,hK⟩
      |false=>exact⟨_,_,⟨hsz,q1 _ (q2 _ (q3 _ ⟨h1,h2,h3,h4,false,hc,rfl,rfl⟩))⟩,hK⟩
    exact h.elim
   exact h.elim
  exact h.elim
 .
  split at h
  .
   split at h
   .
    rename_i fo ag sz hsh hf;cases hbb:Nat.blt 0 sz with
    |false=>rw[hbb] at h;exact h.elim
    |true=>
     rw[hbb] at h;simp only[hbb,al] at h ⊢;split at h
     . exact⟨_,_,⟨rfl,rfl⟩,h⟩
     . exact⟨_,_,⟨rfl,rfl⟩,h⟩
     . split at h
       . exact⟨_,_,⟨rfl,rfl⟩,h⟩
       exact h.elim
     exact h.elim
   exact h.elim
  exact h.elim
 .
  split at h
  .
   split at h
   . split at h
     . exact⟨_,_,⟨rfl,rfl⟩,h⟩
     exact h.elim
   exact h.elim
  exact h.elim
 .
  split at h
  .
   split at h
   . split at h
     . obtain⟨j,y,h1,h2,h3,hK⟩:=h;exact⟨_,_,⟨j,y,h1,h2,h3,rfl,rfl⟩,hK⟩
     exact h.elim
   . split at h
     . obtain⟨hsz,j,h1,h2,hK⟩:=h;exact⟨_,_,⟨hsz,j,h1,h2,rfl,rfl⟩,hK⟩
     exact h.elim
   . split at h
     . obtain⟨j,h1,h2,hK⟩:=h;exact⟨_,_,⟨j,h1,h2,rfl,rfl⟩,hK⟩
     exact h.elim
   exact h.elim
  exact h.elim
 .
  split at h
  . split at h
    . obtain⟨j,b,h1,h2,n,h3,hK⟩:=h;exact⟨_,_,⟨j,b,h1,h2,n,h3,rfl,rfl⟩,hK⟩
    exact h.elim
  exact h.elim
 .
  split at h
  . split at h
    . exact⟨_,_,⟨rfl,rfl⟩,h⟩
    exact h.elim
  exact h.elim
 . split at h
   . split at h<;>exact⟨_,_,⟨rfl,rfl⟩,h⟩
   exact h.elim
 . exact ON h
 .
  split at h
  .
   split at h
   . split at h
     . obtain⟨f',zs,hm,hfr,hK⟩:=h;exact⟨_,_,⟨f',zs,hm,hfr,rfl,rfl⟩,hK⟩
     exact h.elim
   split at h
   . split at h
     . obtain⟨r,hr,hK⟩:=h;exact⟨_,_,⟨r,hr,rfl,rfl⟩,hK⟩
     exact h.elim
   split at h
   .
    split at h
    . split at h
      . obtain⟨hn,es',r,hr,hl,hK⟩:=h;exact⟨_,_,⟨hn,es',r,hr,hl,rfl,rfl⟩,hK⟩
      exact h.elim
    exact h.elim
   exact h.elim
  exact h.elim
 exact h.elim
end
def d9(e:Eff)(id:Nat)(b:Option Bx):Option Bx :=
 e.wr.foldl (fun b p=>bif Nat.beq id p.1 then some p.2 else b) (bif e.fz.any (Nat.beq id) then jF b else b)
def UE(b:Option Bx):jF (jF b)=jF b:=by
 cases b with
 |none=>rfl
 |some b=>cases b<;>rfl
def IC:∀(wr:List (Nat×Bx)) (bx:Nat->Option Bx) (id:Nat),g6 bx wr id=wr.foldl (fun b p=>bif Nat.beq id p.1 then some p.2 else b) (bx id)
 | [],_,_=>rfl
 | (g,b)::l,bx,id=>by rw[g6,IC l];rfl
def Jo:∀(fz:List Nat) (bx:Nat->Option Bx) (id:Nat),bT bx fz id=bif fz.any (Nat.beq id) then jF (bx id) else bx id
 | [],_,_=>rfl
 |g::l,bx,id=>by
  rw[bT,Jo l,List.any_cons];cases h:Nat.beq id g with
  |true=>
   have e:=aB h;subst e;rw[a6];cases l.any (Nat.beq id)<;>simp[UE]
  |false=>
   rw[aI _ _ _ (AX h)];simp
def Mi(bx:Nat->Option Bx)(e:Eff)(id:Nat):g6 (bT bx e.fz) e.wr id=d9 e id (bx id):=by
 rw[IC,Jo,d9]
def Ds(b:Option Bx):eqF (jF b) b:=by
 cases b with
 |none=>exact .inl rfl
 |some b=>cases b with
  |var x=>exact .inl rfl
  |arr e sz es f=>exact .inr ⟨e,sz,es,true,f,rfl,rfl⟩
  |bld s=>exact .inl rfl
  |arrN=>exact .inl rfl
  |dead=>exact .inl rfl
def SM{b b':Option Bx}(e:Eff)(id:Nat)(h:eqF b b'):eqF (d9 e id b) (d9 e id b'):=by
 unfold d9;have h0:eqF (bif e.fz.any (Nat.beq id) then jF b else b) (bif e.fz.any (Nat.beq id) then jF b' else b'):=by
  cases e.fz.any (Nat.beq id)
  . exact h
  exact((Ds b).trans h).trans (Ds b').symm
 generalize (bif e.fz.any (Nat.beq id) then jF b else b)=x at h0 ⊢;generalize (bif e.fz.any (Nat.beq id) then jF b' else b')=y at h0 ⊢;revert x y;induction e.wr with
 |nil=>exact fun x y h=>h
 |cons p l ih=>
  intro x y h;simp only[iV];apply ih;cases Nat.beq id p.1
  . exact h
  exact eqF.refl _
def pT(e:Eff)(id:Nat):Prop:=∀p∈e.wr,p.1≠id
def wO(e:Eff)(id:Nat):Prop:=pT e id/\¬id∈e.fz
def Hy{id:Nat}:∀{wr:List (Nat×Bx)},(∀p∈wr,p.1≠id)->∀b:Option Bx,wr.foldl (fun b p=>bif Nat.beq id p.1 then some p.2 else b) b=b
 | [],_,_=>rfl
 |p::l,h,b=>by
  have h1:Nat.beq id p.1=false:=by
   cases hb:Nat.beq id p.1
   . rfl
   exact absurd (aB hb).symm (h p (by simp))
  rw[iV,h1];exact Hy (fun q hq=>h q (by simp[hq])) b
def DI{id:Nat}{l:List Nat}:l.any (Nat.beq id)=true↔id∈l:=by
 rw[List.any_eq_true];exact⟨fun⟨x,h1,h2⟩=>by rw[aB h2];exact h1,fun h=>⟨id,h,bD id⟩⟩
def s7{e:Eff}{id:Nat}(h:pT e id)(b:Option Bx):d9 e id b=bif e.fz.any (Nat.beq id) then jF b else b:=by
 rw[d9,Hy h]
def Gx{e:Eff}{id:Nat}(h:pT e id)(b:Option Bx):eqF (d9 e id b) b:=by
 rw[s7 h];cases e.fz.any (Nat.beq id)
 . exact eqF.refl _
 exact Ds b
def vx{e:Eff}{id:Nat}(h:wO e id)(b:Option Bx):d9 e id b=b:=by
 rw[s7 h.1];cases hb:e.fz.any (Nat.beq id)
 . rfl
 exact absurd (DI.1 hb) h.2
def mb(x y:Eff):Bool:=x.wr.any fun p=>y.rd.any (Nat.beq p.1)||(y.fz.any (Nat.beq p.1)||y.wr.any fun q=>Nat.beq p.1 q.1)
def x8{x y:Eff}(h:mb x y=false){p:Nat×Bx}(hp:p∈x.wr):wO y p.1/\¬p.1∈y.rd:=by
 simp only[mb,AY,iW,not_or,Bool.not_eq_true] at h;obtain⟨h1,h2,h3⟩:=h p hp;refine⟨⟨fun q hq e=>?_,fun hm=>?_⟩,fun hm=>?_⟩
 . have:=h3 q hq;rw[<-e,bD] at this;cases this
 . have:=h2 _ hm;rw[bD] at this;cases this
 have:=h1 _ hm;rw[bD] at this;cases this
def Q2{x y:Eff}(h:mb x y=false){id:Nat}(hid:id∈y.rd\/¬wO y id):pT x id:=fun p hp e=>by
 subst e;exact hid.elim (x8 h hp).2 (fun k=>k (x8 h hp).1)
def Hl{x y:Eff}(h:mb x y=false){id:Nat}(hid:¬pT x id):wO y id/\¬id∈y.rd:=by
 have h0:∃p∈x.wr,p.1=id:=by
  apply ia;intro hn;exact hid fun p hp e=>hn ⟨p,hp,e⟩
 obtain⟨p,hp,rfl⟩:=h0;exact x8 h hp
def Rq{x y:Eff}(h1:mb x y=false)(h2:mb y x=false)(id:Nat)(b:Option Bx):d9 x id (d9 y id b)=d9 y id (d9 x id b):=by
 by_cases hx:pT x id
 . by_cases hy:pT y id
   . rw[s7 hx,s7 hx,s7 hy,s7 hy];cases x.fz.any (Nat.beq id)<;>cases y.fz.any (Nat.beq id)<;>rfl
   have:=(Hl h2 hy).1;rw[vx this,vx this]
 have:=(Hl h1 hx).1;rw[vx this,vx this]
structure Lg where
 r:SV
 e:Eff
instance : Inhabited Lg := ⟨⟨.und, {}⟩⟩
def ef(D:Nat->Option Nat)(L:Nat->Lg)(S:Nat->Bool)(t:Nat):List Nat->SV->SV
 | [],x=>x
 |i::l,x=>ef D L S t l (if S i=true/\D i=some t then(L i).r else x)
def cK(L:Nat->Lg)(S:Nat->Bool)(id:Nat):List Nat->Option Bx->Option Bx
 | [],b=>b
 |i::l,b=>cK L S id l (if S i=true then d9 (L i).e id b else b)
section
variable {D:Nat->Option Nat}{L:Nat->Lg}{S S':Nat->Bool}
def vl{t:Nat}:∀{l:List Nat} {x:SV},(∀i∈l,D i=some t->S i=S' i)->ef D L S t l x=ef D L S' t l x
 | [],_,_=>rfl
 |i::l,x,h=>by
  rw[ef,ef];have e:(if S i=true/\D i=some t then(L i).r else x)=(if S' i=true/\D i=some t then(L i).r else x):=by
   by_cases hd:D i=some t
   . rw[h i (by simp) hd]
   simp[hd]
  rw[e];exact vl (fun j hj=>h j (by simp[hj]))
def vw{id:Nat}:∀{l:List Nat} {x:Option Bx},(∀i∈l,S i≠S' i->wO (L i).e id)->cK L S id l x=cK L S' id l x
 | [],_,_=>rfl
 |i::l,x,h=>by
  rw[cK,cK];have e:(if S i=true then d9 (L i).e id x else x)=(if S' i=true then d9 (L i).e id x else x):=by
   by_cases hd:S i=S' i
   . rw[hd]
   rw[vx (h i (by simp) hd)];simp
  rw[e];exact vw (fun j hj=>h j (by simp[hj]))
def Lh{id:Nat}:∀{l:List Nat} {x y:Option Bx},(∀i∈l,S i≠S' i->pT (L i).e id)->eqF x y->eqF (cK L S id l x) (cK L S' id l y)
 | [],_,_,_,h=>h
 |i::l,x,y,h,hxy=>by
  rw[cK,cK];refine Lh (fun j hj=>h j (by simp[hj])) ?_;by_cases hd:S i=S' i
  . rw[hd];by_cases hs:S' i=true
    . simp only[hs,bL];exact SM _ _ hxy
    simp only[hs];exact hxy
  have hn:=h i (by simp) hd;by_cases hs:S i=true
  . have hs':¬S' i=true:=fun e=>hd (by rw[hs,e]);simp only[hs,hs',bL];exact(Gx hn x).trans hxy
  by_cases hs':S' i=true
  . simp only[hs,hs',bL];exact hxy.trans (Gx hn y).symm
  simp only[hs,hs'];exact hxy
def CY{id:Nat}(A:Option Bx->Option Bx):∀{l:List Nat} {x:Option Bx},(∀j∈l,S j=true->∀b,d9 (L j).e id (A b)=A (d9 (L j).e id b))->cK L S id l (A x)=A (cK L S id l x)
 | [],_,_=>rfl
 |j::l,x,h=>by
  rw[cK,cK];by_cases hs:S j=true
  . simp only[hs,bL];rw[h j (by simp) hs];exact CY A (fun k hk=>h k (by simp[hk]))
  simp only[hs];exact CY A (fun k hk=>h k (by simp[hk]))
def DH{id i:Nat}(hS:∀j,S' j=(S j||Nat.beq j i))(hi:S i=false):∀{l:List Nat} {x:Option Bx},l.Pairwise (· < ·)->i∈l->
 (∀j∈l,i<j->S j=true->∀b,d9 (L j).e id (d9 (L i).e id b)=d9 (L i).e id (d9 (L j).e id b))->cK L S' id l x=d9 (L i).e id (cK L S id l x)
 | [],_,_,h,_=>by simp at h
 |j::l,x,hp,hm,h=>by
  rw[cK,cK];have hp':=List.pairwise_cons.1 hp;by_cases hji:j=i
  .
   subst hji;have h1:S' j=true:=by rw[hS,bD];simp
   simp only[h1,hi,bL];have e:cK L S' id l (d9 (L j).e id x)=cK L S id l (d9 (L j).e id x):=vw fun k hk hne=>by
    have:=hp'.1 k hk;refine absurd ?_ hne;rw[hS];have:Nat.beq k j=false:=by
     cases hb:Nat.beq k j
     . rfl
     have:=aB hb;omega
    rw[this];simp
   rw[e];simpa using CY (d9 (L j).e id) (fun k hk hs b=>h k (by simp[hk]) (hp'.1 k hk) hs b)
  have hm':i∈l:=by
   rcases List.mem_cons.1 hm with e|e
   . exact absurd e.symm hji
   exact e
  have h1:S' j=S j:=by
   rw[hS];have:Nat.beq j i=false:=by
    cases hb:Nat.beq j i
    . rfl
    exact absurd (aB hb) hji
   rw[this];simp
  rw[h1];exact DH hS hi hp'.2 hm' (fun k hk=>h k (by simp[hk]))
def J2{t i:Nat}(hS:∀j,S' j=(S j||Nat.beq j i)):∀{l:List Nat} {x:SV},i∈l->(∀j∈l,D i=some t->D j=some t->j=i)->
 ef D L S' t l x=if D i=some t then(L i).r else ef D L S t l x:=by
 intro l x hm hu;by_cases hd:D i=some t
 .
  simp only[hd,bL];have key:∀(l:List Nat) (x:SV),(∀j∈l,D j=some t->j=i)->(x=(L i).r\/i∈l)->ef D L S' t l x=(L i).r:=by
   intro l;induction l with
   |nil=>intro x _ h;simpa[ef] using h
   |cons j l ih=>
    intro x hu h;rw[ef];refine ih _ (fun k hk=>hu k (by simp[hk])) ?_;by_cases hji:j=i
    . subst hji;left;have:S' j=true:=by rw[hS,bD];simp
      simp[this,hd]
    have hdj:¬D j=some t:=fun e=>hji (hu j (by simp) e);rcases h with h|h
    . left;simp[hdj,h]
    right;rcases List.mem_cons.1 h with e|e
    . exact absurd e.symm hji
    exact e
  exact key l x (fun j hj e=>hu j hj hd e) (.inr hm)
 simp only[hd];exact vl fun j hj hdj=>by
  rw[hS];have:Nat.beq j i=false:=by
   cases hb:Nat.beq j i
   . rfl
   have:=aB hb;subst this;exact absurd hdj hd
  rw[this];simp
end
end Go.Proofs.Fl
