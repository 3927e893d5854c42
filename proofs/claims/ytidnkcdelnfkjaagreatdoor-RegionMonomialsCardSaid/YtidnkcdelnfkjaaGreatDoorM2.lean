/-
  RegionMonomials: the monomials are the document's, or the error is, for every input; no condition.
-/
import Derived.Test.YtidnkcdelnfkjaaGreatDoorM1
import Derived.RangeFuncOwn
import Derived.OrdersIn
import Derived.TacticsIn
namespace Go.Proofs.En
open Go.RowKit Go.Proofs.Fl
section
variable {X:EX}{E:EEnv}{nt:Nat}{H H':Heap}{β β':Bm}{tm:Nat→ES}{h h':Hp}{a:Act}{w w':World}{o:Oper}
theorem repE_length(zs:List EV):∀n,(repE zs n).length=n*zs.length
 |0=>by simp[repE]
 |n+1=>by simp[repE,repE_length zs n,Nat.add_mul];omega
theorem repE_ok{z:Value}{zs:List EV}(hz:CRL X.Z H β z.cells.toList zs):∀n,CRL X.Z H β (flat (List.replicate n z)) (repE zs n)
 |0=>trivial
 |n+1=>by
  rw[List.replicate_succ,flat_cons]
  exact hz.append (repE_ok hz n)
theorem fillC_length{Z:QS}{places:Nat→Option (Nat×Nat)}:∀(parts:List (Nat×ES)) {cs r:List EV},fillC Z places cs parts=some r→r.length=cs.length
 | [],cs,r,he=>by simp only[fillC,Option.some.injEq] at he;rw[he]
 | (j,x)::rest,cs,r,he=>by
   cases x with
   |w y =>
    unfold fillC at he
    split at he
    · rename_i off sz hp
      cases hb:(Nat.beq (y.cells Z).length sz&&Nat.ble (off+sz) cs.length) with
      |false=>rw[hb] at he;cases he
      |true =>
       rw[hb] at he
       simp only[cond_true] at he
       simp only[Bool.and_eq_true] at hb
       have c1:=Nat.eq_of_beq_eq_true hb.1
       have c2:=Nat.le_of_ble_eq_true hb.2
       rw[fillC_length rest he,splice_length (by omega)]
    · cases he
   |_=>unfold fillC at he;cases he
theorem ok_buildSlice(hS:ESt X E nt H β tm h a w){t:TypeId}{len:Nat}{parts:Array (Nat×Operand)}(ho:o.op=.buildSlice t len parts){g:Nat}{r:ES}{ws:Wr}(he:eBuildSlice X.T X.ze X.Z h g t len (parts.toList.map fun p=>(p.1,evE tm p.2))=some (r,ws)):OpOk X E H β h a w o r ws:=by
 unfold eBuildSlice at he
 split at he
 · rename_i ty ht
   obtain⟨i,d,z,ok⟩:=tyOf_ok (X.hT t ty ht)
   have hd':=ok.sh
   split at he
   · rename_i e hsh
     rw[hsh] at hd'
     obtain rfl:=shOf_slice hd'
     split at he
     · rename_i te zs hte hz
       obtain⟨ie,de,zee,oke⟩:=tyOf_ok (X.hT e te hte)
       obtain⟨ze,hz1,hz2,hz3,i',hz4,hz5⟩:=EX.run_zero hz
       cases hb:(Nat.blt 0 te.size&&Nat.ble (len*te.size) 16777216&&Nat.beq zs.length te.size) with
       |false=>rw[hb] at he;cases he
       |true =>
        rw[hb] at he
        simp only[cond_true] at he
        simp only[Bool.and_eq_true] at hb
        obtain⟨⟨b1,b2⟩,b3⟩:=hb
        have hp:0<te.size:=Nat.lt_of_succ_le (by simpa[Nat.blt] using b1)
        have hl:=Nat.le_of_ble_eq_true b2
        have hzl:=Nat.eq_of_beq_eq_true b3
        have hzc:ze.cells.size=te.size:=by omega
        split at he
        · rename_i cs hf
          have hmf:=made_flat hzc hp len
          obtain⟨cells',e1,e2⟩:=fillC_ok (fun x=>ev_okE hS x) (cells:=madeCells ze.cells (len*te.size)) (by rw[hmf];exact repE_ok (hz2 H β) len) hf
          have hcl:=e2.length
          simp only[Array.length_toList] at hcl
          have hsz:cells'.size=len*te.size:=by
           rw[hcl,fillC_length _ hf,repE_length,hzl]
          obtain⟨β',b1,b2,b3,b4,rfl⟩:=newM_ok hS he (arr:=cells') (by rw[List.take_of_length_le (by simp[hcl])];exact e2) (by omega)
          refine⟨.slice (some ⟨w.heap.size,0,none⟩) len len,_,β',.inl ?_,b1,b3,b4,⟨_,len,b2,rfl,Nat.le_refl _,rfl⟩⟩
          have hnl:¬(len*te.size>2^24):=by omega
          have e1':Instr.fill (fun i=>some (i*te.size,te.size)) (madeCells ze.cells (len*te.size)) (parts.map fun(i,x)=>(i,a.eval x)).toList=some cells':=by simpa using e1
          simp only[execOp,ho,Instr.buildSlice,Sem.run_bind,ok.run_und,Result.andThen_ok,oke.run_size,hnl,if_false]
          by_cases h0:len*te.size=0
          · have em:madeCells ze.cells (len*te.size)=(Array.range (len*te.size)).map (fun x=>(#[]:Array Value)[x%(#[]:Array Value).size]!):=by
             simp[h0,madeCells,Array.range_zero']
            rw[em] at e1'
            simp only[if_pos h0,Sem.run_bind,Sem.run_pure,Result.andThen_ok,e1',newRow,run_newObj]
            rfl
          · have em:madeCells ze.cells (len*te.size)=(Array.range (len*te.size)).map (fun x=>ze.cells[x%ze.cells.size]!):=rfl
            rw[em] at e1'
            simp only[if_neg h0,Sem.run_bind,Sem.run_pure,Result.andThen_ok,hz1,e1',newRow,run_newObj]
            rfl
        · cases he
     · cases he
   · cases he
 · cases he
theorem ok_makeSlice(hS:ESt X E nt H β tm h a w){t:TypeId}{l c:Operand}(ho:o.op=.makeSlice t l c){g:Nat}{r:ES}{ws:Wr}(he:eMakeSlice X.T X.ze h g t (evE tm l) (evE tm c)=some (r,ws)):OpOk X E H β h a w o r ws:=by
 have hl:=ev_okE hS l
 have hc:=ev_okE hS c
 unfold eMakeSlice at he
 split at he
 · rename_i ty k1 m k2 m' ht hle hce
   rw[hle] at hl
   rw[hce] at hc
   obtain⟨i,d,z,ok⟩:=tyOf_ok (X.hT t ty ht)
   have hd':=ok.sh
   split at he
   · rename_i e hsh
     rw[hsh] at hd'
     obtain rfl:=shOf_slice hd'
     split at he
     · rename_i te zs hte hz
       obtain⟨ie,de,zee,oke⟩:=tyOf_ok (X.hT e te hte)
       obtain⟨ze,hz1,hz2,hz3,i',hz4,hz5⟩:=EX.run_zero hz
       cases hb:(Nat.beq m m'&&Nat.blt 0 te.size&&Nat.beq zs.length te.size&&Nat.ble (te.bytes*m) 281474976710656&&Nat.ble m 1000000) with
       |false=>rw[hb] at he;cases he
       |true =>
        rw[hb] at he
        simp only[cond_true] at he
        simp only[Bool.and_eq_true] at hb
        obtain⟨⟨⟨⟨b0,b1⟩,b3⟩,b4⟩,b5⟩:=hb
        have em:=Nat.eq_of_beq_eq_true b0
        subst em
        have hp:0<te.size:=Nat.lt_of_succ_le (by simpa[Nat.blt] using b1)
        have hzl:=Nat.eq_of_beq_eq_true b3
        have h4:=Nat.le_of_ble_eq_true b4
        have h5:=Nat.le_of_ble_eq_true b5
        have hzc:ze.cells.size=te.size:=by omega
        have hmf:=made_flat hzc hp m
        have hms:(madeCells ze.cells (m*te.size)).size=m*te.size:=by simp[size_madeCells]
        obtain⟨β',b1,b2,b3,b4,rfl⟩:=newM_ok hS he (arr:=madeCells ze.cells (m*te.size)) (by rw[List.take_of_length_le (by rw[Array.length_toList,hms,repE_length,hzl];exact Nat.le_refl _),hmf];exact repE_ok (hz2 H β) m) (by rw[hms,repE_length,hzl];exact Nat.le_refl _)
        have hb':((ie.bytes:Nat):Int)*(m:Int)≤281474976710656:=by
         rw[oke.bytes]
         have:((te.bytes*m:Nat):Int)≤281474976710656:=by omega
         rwa[Int.natCast_mul] at this
        have ez:i'=ie:=by have:=oke.info;rw[hz4] at this;simpa using this
        subst ez
        have hr:=run_make (P:=X.P) w t e i' ze ok.und hz4 hz5 k1 k2 (m:Int) (m:Int) (by omega) (Int.le_refl _) hb' (by omega)
        simp only[Int.toNat_natCast,oke.size] at hr
        refine⟨.slice (some ⟨w.heap.size,0,none⟩) m m,_,β',.inl ?_,b1,b3,b4,⟨_,m,b2,rfl,Nat.le_refl _,rfl⟩⟩
        have e1:=hl.int
        have e2:=hc.int
        simp only[Int.ofNat_eq_natCast] at e1 e2
        simp only[execOp,ho,e1,e2,Sem.run_bind,hr,Result.andThen_ok,Sem.run_pure]
     · cases he
   · cases he
 · cases he
theorem verE_mem{u p:Nat}:∀{vs:List (Nat×Nat)},verE u vs=some p→(u,p)∈vs
 | [],h=>by simp[verE] at h
 | (v,q)::l,h=>by
   unfold verE at h
   cases hb:Nat.beq v u with
   |true =>
    rw[hb] at h
    simp only[cond_true,Option.some.injEq] at h
    rw[Nat.eq_of_beq_eq_true hb,h];simp
   |false=>rw[hb] at h;exact List.mem_cons_of_mem _ (verE_mem h)
theorem rdO_ok(hS:ESim X.Z E H β h w){g u off n:Nat}{cs:List EV}(he:rdO (h g) u off n=some cs) :
 ∃k arr e,β g u=some k∧w.heap[k.1]?=some (.cells arr e (0,0))∧off+n≤arr.size∧CRL X.Z H β ((arr.toList.drop off).take n) cs∧arr.size=k.2∧cs.length=n:=by
 unfold rdO at he
 split at he
 · rename_i e cs0 fz vs cnt hg
   split at he
   · rename_i p hv
     cases hb:Nat.ble (off+n) p with
     |false=>rw[hb] at he;cases he
     |true =>
      rw[hb] at he
      simp only[cond_true,Option.some.injEq] at he;subst he
      have hle:=Nat.le_of_ble_eq_true hb
      obtain⟨_,k,arr,h1,h2,h3,h4,h5,h6,h7,h8⟩:=(hS.obj g _ hg).2 u p (verE_mem hv)
      refine⟨k,arr,e,h1,h4,by omega,?_,h5,by simp;omega⟩
      have:=(h8.drop off).take n
      rw[List.drop_take,List.drop_take,List.take_take,List.take_take,Nat.min_eq_left (by omega)] at this
      exact this
   · cases he
 · cases he
theorem mkV_ok{ag:Bool}{cs:List EV}{r:EW}(he:mkV X.Z ag cs=some r){vs:List Value}(hv:CRL X.Z H β vs cs):(ag=true∧WR X.Z H β (.agg vs.toArray) r)∨(ag=false∧∃v,vs=[v]∧WR X.Z H β v r):=by
 unfold mkV at he
 split at he
 · simp only[Option.some.injEq] at he;subst he
   exact .inl ⟨rfl,mkAgg_ok hv⟩
 · split at he
   · simp only[Option.some.injEq] at he;subst he
     cases vs with
     |nil=>exact hv.elim
     |cons v vs=>cases vs with
      |nil=>exact .inr ⟨rfl,v,rfl,hv.1⟩
      |cons=>exact hv.2.elim
   · cases he
theorem ok_load(hS:ESt X E nt H β tm h a w){t:TypeId}{x:Operand}(ho:o.op=.load t x){r:ES}{ws:Wr}(he:eLoad X.T X.Z h t (evE tm x)=some (r,ws)):OpOk X E H β h a w o r ws:=by
 have hx:=ev_okE hS x
 unfold eLoad at he
 split at he
 · rename_i ty g u off ht hxe
   rw[hxe] at hx
   obtain⟨k,hk,hx⟩:=hx
   obtain⟨i,d,z,ok⟩:=tyOf_ok (X.hT t ty ht)
   split at he
   · rename_i cs hrd
     rw[forceL_eq] at he
     obtain⟨k',arr,e,h1,h2,h3,h4,h5,h6⟩:=rdO_ok hS.sim hrd
     rw[hk] at h1;cases h1
     split at he
     · rename_i y hv
       simp only[Option.some.injEq,Prod.mk.injEq] at he
       obtain⟨rfl,rfl⟩:=he
       have hcell:∀j c,((arr.toList.drop off).take ty.size)[j]?=some c→w.cell? ⟨k.1,off+j,none⟩=some c:=fun j c hc=>by
        rw[cell_of_row w _ _ arr e (0,0) h2]
        rw[List.getElem?_take] at hc
        split at hc
        · simpa using hc
        · simp at hc
       rcases mkV_ok hv h4 with⟨q1,q2⟩|⟨q1,v,q2,q3⟩
       · refine OpOk.pure hS (v:=.agg ((arr.toList.drop off).take ty.size).toArray) ?_ q2
         have hl:=run_loadCells_list (P:=X.P) w ⟨k.1,off,none⟩ ((arr.toList.drop off).take ty.size) (fun j c hc=>by rw[add_mk];exact hcell j c hc)
         have hlen:((arr.toList.drop off).take ty.size).length=ty.size:=by simp;omega
         rw[hlen] at hl
         have hr:(loadVar t ⟨k.1,off,none⟩).run X.P w=.ok (.agg ((arr.toList.drop off).take ty.size).toArray) w:=by
          simp only[loadVar,Sem.run_bind,ok.run_agg,q1,Result.andThen_ok,if_true,ok.run_size,hl,Sem.run_pure]
         simp only[execOp,ho,hx,Instr.loadAt,Instr.sureAddr,Sem.run_bind,Sem.run_pure,Result.andThen_ok,hr]
       · refine OpOk.pure hS (v:=v) ?_ q3
         have h0:=hcell 0 v (by rw[q2];rfl)
         rw[Nat.add_zero] at h0
         have hr:(loadVar t ⟨k.1,off,none⟩).run X.P w=.ok v w:=by
          simp only[loadVar,Sem.run_bind,ok.run_agg,q1,Result.andThen_ok,Bool.false_eq_true,if_false,run_load,h0]
         simp only[execOp,ho,hx,Instr.loadAt,Instr.sureAddr,Sem.run_bind,Sem.run_pure,Result.andThen_ok,hr]
     · cases he
   · cases he
 · rename_i ty y off ht hxe
   rw[hxe] at hx
   obtain⟨b,base,v,arr,hxv,hb,h4,h6⟩:=hx
   obtain⟨i,d,z,ok⟩:=tyOf_ok (X.hT t ty ht)
   obtain⟨e,fr,h5⟩:=hS.sim.has b arr hb
   split at he
   · rename_i r0 hl
     cases hrt:r0.isTup with
     |true=>rw[hrt] at he;cases he
     |false =>
      rw[hrt] at he
      simp only[cond_false,Option.some.injEq,Prod.mk.injEq] at he
      obtain⟨rfl,rfl⟩:=he
      obtain⟨u,hr,hu⟩:=run_loadVar ok h5 h4 h6 hl
      refine OpOk.pure hS (v:=u) ?_ (dS_ok hu hrt)
      simp only[execOp,ho,hxv,Instr.loadAt,Instr.sureAddr,Sem.run_bind,Sem.run_pure,Result.andThen_ok,hr]
   · cases he
 · cases he
theorem clipE_mem{u off:Nat}{vs:List (Nat×Nat)}{v q:Nat}(h:(v,q)∈clipE u off vs):(v=u∧(v,q)∈vs)∨(v≠u∧∃q',(v,q')∈vs∧q≤q'∧q≤off):=by
 unfold clipE at h
 obtain⟨p,hp,e⟩:=List.mem_map.1 h
 cases hb:Nat.beq p.1 u with
 |true =>
  rw[hb] at e
  simp only[cond_true] at e
  subst e
  exact .inl ⟨Nat.eq_of_beq_eq_true hb,hp⟩
 |false =>
  rw[hb] at e
  simp only[cond_false,Prod.mk.injEq] at e
  obtain⟨e1,e2⟩:=e
  have e2':q=min p.2 off:=e2.symm
  refine .inr ⟨fun e'=>?_,p.2,by rw[←e1];exact hp,by omega,by omega⟩
  rw[e1,e',Nat.beq_refl] at hb;cases hb
theorem splice_take{α:Type}{A Y:List α}{off p:Nat}(h:p≤off)(h2:off≤A.length):(splice A off Y).take p=A.take p:=by
 unfold splice
 rw[List.append_assoc,List.take_append_of_le_length (by simp;omega),List.take_take,Nat.min_eq_left h]
theorem splice_takeE{α:Type}{A Y:List α}{off p:Nat}(h:off+Y.length≤p)(h2:p≤A.length):(splice A off Y).take p=splice (A.take p) off Y:=by
 apply List.ext_getElem?
 intro k
 rw[List.getElem?_take]
 by_cases hk:k<p
 · rw[if_pos hk,splice_get (by omega),splice_get (by simp;omega),List.getElem?_take,if_pos hk]
 · rw[if_neg hk,splice_get (by simp;omega),if_neg (by omega),List.getElem?_take,if_neg hk]
theorem wrO_ok(hS:ESim X.Z E H β h w){g u off:Nat}{new:List EV}{o':EO}(he:wrO (h g) u off new=some o'){us:List Value}(hu:CRL X.Z H β us new) :
 ∃k arr e,β g u=some k∧w.heap[k.1]?=some (.cells arr e (0,0))∧off+us.length≤arr.size∧arr.size=k.2∧ESim X.Z E H β (upd h g (some o')) (w.setRow k.1 (splice arr.toList off us).toArray)∧MarkSame w (w.setRow k.1 (splice arr.toList off us).toArray):=by
 unfold wrO at he
 split at he
 · rename_i e cs vs cnt hg
   split at he
   · rename_i p hv
     cases hb:Nat.ble (off+new.length) p with
     |false=>rw[hb] at he;cases he
     |true =>
      rw[hb,forceL_eq] at he
      simp only[cond_true,Option.some.injEq] at he;subst he
      have hle:=Nat.le_of_ble_eq_true hb
      have hO:=hS.obj g _ hg
      obtain⟨_,k,arr,h1,h2,h3,h4,h5,h6,h7,h8⟩:=hO.2 u p (verE_mem hv)
      have h3:H k.1=none:=hO.1 rfl u k h1
      have hul:=hu.length
      have hsz:(splice arr.toList off us).toArray.size=arr.size:=by
       simp only[List.size_toArray]
       rw[splice_length (by simp;omega),Array.length_toList]
      have hrow:=setRow_heap w k.1 arr (splice arr.toList off us).toArray e (0,0) h4
      refine⟨k,arr,e,h1,h4,by omega,h5,?_,MarkSame.row h4⟩
      refine hS.turn (by rw[hg];simp) rfl rfl rfl (by simp) (fun k' _ hk'=>setRow_other _ _ _ _ (fun e'=>hk' u k h1 e'.symm)) (fun u' s' hs'=>hO.1 rfl u' s' hs') (BLe.refl _) (fun _ _ _=>rfl) (fun u' k' hk'=>?_) ⟨fun _=>hO.1 rfl,fun v q hvq=>?_⟩
      · obtain⟨hlt,hown,o2,ho2,hc2⟩:=hS.domN hg (by simp) u' k' hk'
        rw[hg] at ho2;cases ho2
        exact⟨hc2,by simpa using hlt,hown,.inl ⟨u',k',hk',rfl⟩⟩
      · rcases clipE_mem hvq with⟨rfl,hm⟩|⟨hne,q',hm,hq1,hq2⟩
        · obtain⟨c1,k',arr',d1,d2,d3,d4,d5,d6,d7,d8⟩:=hO.2 v q hm
          rw[h1] at d1;cases d1
          rw[h4] at d4;cases d4
          refine⟨c1,k,_,h1,h2,by simpa using h3,hrow,by rw[hsz];exact h5,by rw[splice_length (by omega)];exact d6,by rw[hsz];exact d7,?_⟩
          rcases Nat.lt_or_ge q (off+new.length) with hlt|hge
          · -- the prefix ends inside: cut both
            have e1:(splice arr.toList off us).take q=((splice arr.toList off us).take (off+new.length)).take q:=by rw[List.take_take,Nat.min_eq_left (by omega)]
            have e2:(splice cs off new).take q=((splice cs off new).take (off+new.length)).take q:=by rw[List.take_take,Nat.min_eq_left (by omega)]
            show CRL X.Z H β ((splice arr.toList off us).take q) _
            have hl1:off+us.length≤off+new.length:=by omega
            have hl2:off+new.length≤arr.toList.length:=by simp;omega
            rw[e1,e2,splice_takeE hl1 hl2,splice_takeE (Nat.le_refl _) (by omega)]
            refine CRL.take q (CRL.splice ?_ hu off)
            have:=h8.take (off+new.length)
            rwa[List.take_take,List.take_take,Nat.min_eq_left hle] at this
          · show CRL X.Z H β ((splice arr.toList off us).take q) _
            rw[splice_takeE (by omega) (by simp;omega),splice_takeE (by omega) (by omega)]
            exact d8.splice hu off
        · obtain⟨c1,k',arr',d1,d2,d3,d4,d5,d6,d7,d8⟩:=hO.2 v q' hm
          have hd8:CRL X.Z H β (arr'.toList.take q) ((splice cs off new).take q):=by
           rw[splice_take hq2 (by omega)]
           have:=d8.take q
           rwa[List.take_take,List.take_take,Nat.min_eq_left hq1] at this
          by_cases hk:k'.1=k.1
          · rw[hk,h4] at d4;cases d4
            refine⟨c1,k',_,d1,d2,by rw[hk];simpa using h3,by rw[hk];exact hrow,by rw[hsz];exact d5,by rw[splice_length (by omega)];omega,by rw[hsz];omega,?_⟩
            show CRL X.Z H β ((splice arr.toList off us).take q) _
            rw[splice_take hq2 (by simp;omega)]
            exact hd8
          · refine⟨c1,k',arr',d1,d2,d3,(setRow_other _ _ _ _ hk).trans d4,d5,by rw[splice_length (by omega)];omega,by omega,hd8⟩
   · cases he
 · cases he
end
end Go.Proofs.En
namespace Go.Proofs.Fl
open Go.RowKit
section
variable {E:Env}{nt:Nat}{H:Heap}{β:Nat→Nat×Nat}{tm:Nat→SV}{bx:Nat→Option Bx}{a:Act}{w:World}
variable {P:Program}{T:TypeId→Option TY}{Q:Exit→Act→World→Prop}{o:Oper}{g:Nat}{K:SV→Eff→Prop}
theorem exec_copy{s x:Operand}{ts:Array TypeId}(ho:o.op=.call { callee:=.builtin .copy,args := #[s,x],argTypes:=ts }){v p q:Value}{w':World}(hs:a.eval s=p)(hx:a.eval x=q)(hr:(Builtin.copy_ ts o.type #[p,q]).run P w=.ok v w'):(execOp a.eval o).run P w=.ok (.value v) w':=by
 simp only[execOp,ho,resolve,invoke,builtin,Sem.run_bind,Sem.run_pure,Result.andThen_ok,List.map_toArray,List.map_cons,List.map_nil,hs,hx,hr]
theorem ok_copy(hT:TabOk P T)(h:St E nt H β tm bx a w)(hd:∀d,o.dst=some d→d<nt){s x:Operand}{t t':TypeId}(ho:o.op=.call { callee:=.builtin .copy,args := #[s,x],argTypes := #[t,t'] }){ty:TY}(ht:T t=some ty){e:TypeId}(hsh:ty.sh=.slice e){te:TY}(hte:T e=some te)(h1:te.size=1)
 {news:List IV} {f:List Nat} (hx:toI bx (evS tm x)=some (.sl news,f)) {g' off n:Nat} {fl:Bool} (hs:evS tm s=.ref g' off n fl) {e':TypeId} {sz:Nat} {es:List IV} (hb':bx g'=some (.arr e' sz es false)) (hf:g'∉f) (hsz':sz=te.size)
 (hz:∀y∈news,y.cells.length=te.size∧y.isTup=false) (hon:off+n≤es.length) {m:Nat} (hm:Nat.min news.length n=m)
 (hK:K (.iv (.int .i64 m)) { rd:=f,fz:=f,wr:=[(g',.arr e' sz (splice es off (news.take m)) false)] }):o.wp P a w (Post E nt tm bx o.dst K) Q:=by
 subst hsz'
 obtain⟨i,d,z,ok⟩:=tyOf_ok (hT t ty ht)
 obtain⟨ie,de,ze,oke⟩:=tyOf_ok (hT e te hte)
 have hd':=ok.sh
 rw[hsh] at hd'
 obtain rfl:=shOf_slice hd'
 have hv:=ev_ok h.sim rfl s
 rw[hs] at hv
 simp only[SR,hb'] at hv
 obtain⟨cap0,hev,q1,q2,q3,q4⟩:=hv
 rw[h1,Nat.mul_one] at hev
 obtain⟨H',hle,S',V'⟩:=toI_ok h.sim (ev_ok h.sim rfl x) hx
 have hbx:fzAll bx f g'=some (.arr e' te.size es false):=by rw[fzAll_other f bx g' hf];exact hb'
 obtain⟨p1,arr,us,p2,p3,p4,p5,p6,p7,p8,p9,p10,p11⟩:=S'.box g' _ hbx
 have p3':H' (β g').1=none:=by simpa using p3
 obtain⟨ad,cap,vs,hxe,hvs,hsz,hone,hcells⟩:=sl_cells S'.has V' hz
 have hl:=hvs.length
 have hul:=p4.length
 rw[h1] at hsz p5 p7 p8
 have hfl:=flat_length hsz
 have hful:=flat_length p5
 have hs1:(P.info? e).map (·.size)=some 1:=by rw[oke.info];simp[oke.size,h1]
 have hmle:m≤news.length:=by rw[←hm];exact Nat.min_le_left _ _
 have hmn:m≤n:=by rw[←hm];exact Nat.min_le_right _ _
 have hcsl:((flat vs).take m).length=m:=by simp[hfl,hl];omega
 have hcut:(flat vs).take m=flat (vs.take m):=by have:=flat_take m hsz;simpa using this
 have hr:(Builtin.copy_ #[t,t'] o.type #[.slice (some ⟨(β g').1,off,none⟩) n cap0,a.eval x]).run P w=.ok (goInt m) (w.setRow (β g').1 (splice arr.toList off ((flat vs).take m)).toArray):=by
  by_cases hne:news=[]
  · subst hne
    have hm0:m=0:=by simp at hmle;omega
    subst hm0
    rw[hxe]
    have:(Builtin.copy_ #[t,t'] o.type #[.slice (some ⟨(β g').1,off,none⟩) n cap0,.slice ad ([]:List IV).length cap]).run P w=.ok (goInt 0) w:=by
     cases ad with
     |none=>simp[Builtin.copy_,run_underlying ok.und,Builtin.lenOf,Builtin.firstCells,sizeOf,typeInfo,oke.info,storeCells]
     |some b=>simp[Builtin.copy_,run_underlying ok.und,Builtin.lenOf,Builtin.firstCells,sizeOf,typeInfo,oke.info,storeCells,loadCells,loadCellsFrom]
    rw[this]
    have e1:splice arr.toList off ((flat vs).take 0)=arr.toList:=by simp[splice]
    rw[e1,Array.toArray_toList,setRow_self w _ arr e' (0,0) p2]
    rfl
  · obtain⟨b,o2,rfl,hcell⟩:=hcells hne
    rw[hxe]
    have:=run_copy_row (P:=P) w t t' o.type e (β g').1 off n cap0 ⟨b,o2,none⟩ news.length cap arr e' ((flat vs).take m) ok.und hs1 p2 (by rw[hcsl,hm])
     (cells_at fun j u hj=>hcell j u (by rw[List.getElem?_take] at hj;split at hj;exact hj;simp at hj)) (by rw[hcsl,p8];omega) (fun c hc=>flat_one hone c (List.mem_of_mem_take hc))
    rw[hcsl] at this
    simpa[splice,hcsl] using this
 have hlen2:off+(vs.take m).length≤us.length:=by simp;omega
 have hS:=S'.write hbx rfl (b':=.arr e' te.size (splice es off (news.take m)) false) ⟨rfl,splice_length (by simp;omega)⟩ (w':=w.setRow (β g').1 (splice arr.toList off ((flat vs).take m)).toArray) (by simp) (fun k hk=>setRow_other _ _ _ _ hk) rfl rfl rfl p3'
  ⟨p1,_,splice us off (vs.take m),setRow_heap _ _ _ _ _ _ p2,by simpa using p3',p4.splice (hvs.take m) off,(by
   intro v hv
   unfold splice at hv
   simp only[List.mem_append] at hv
   rw[h1]
   rcases hv with(hv|hv)|hv
   · exact p5 v (List.mem_of_mem_take hv)
   · exact hsz v (List.mem_of_mem_take hv)
   · exact p5 v (List.mem_of_mem_drop hv)),flat_one (by
   intro v hv c hc
   unfold splice at hv
   simp only[List.mem_append] at hv
   rcases hv with(hv|hv)|hv
   · exact p6 c (mem_flat (List.mem_of_mem_take hv) hc)
   · exact hone v (List.mem_of_mem_take hv) c hc
   · exact p6 c (mem_flat (List.mem_of_mem_drop hv) hc)),(by
   rw[splice_length hlen2,h1,Nat.mul_one]
   have e2:=flat_take off p5
   have e3:=flat_drop (off+(vs.take m).length) p5
   simp only[Nat.mul_one] at e2 e3 p7
   have e4:flat (splice us off (vs.take m))=splice (flat us) off ((flat vs).take m):=by
    unfold splice
    rw[flat_append,flat_append,←e2,←e3,hcut,flat_length (fun v hv=>hsz v (List.mem_of_mem_take hv)),Nat.mul_one]
   rw[e4,←p7]
   have hasz:us.length≤arr.toList.length:=by simp;omega
   have:=splice_inner (A:=arr.toList) (Y:=(flat vs).take m) (m:=0) (off:=off) (sz:=us.length) (N:=us.length) (by rw[hcsl];omega) (by omega) hasz
   rw[Nat.zero_add,List.drop_zero,List.take_take,Nat.min_self] at this
   rw[List.toList_toArray,this]
   exact splice_all (by rw[splice_length (by rw[hcsl];simp;omega)])),(by
   simp only[List.size_toArray];rw[splice_length (by rw[hcsl];simp;omega),h1];simpa using p8),(by rw[splice_length (by simp;omega)];exact p9),p10,p11⟩
 refine wp_val (exec_copy ho hev rfl hr) (Post.mk h.defers h.size hS hd (r:=.iv (.int .i64 m)) (VR.int _ _) rfl hK)
end
section
variable {E:Env}{nt:Nat}{H:Heap}{β:Nat→Nat×Nat}{tm:Nat→SV}{bx:Nat→Option Bx}{a:Act}{w:World}
variable {P:Program}{T:TypeId→Option TY}{Φ:Ctr}{I:World→Prop}{Q:Exit→Act→World→Prop}{o:Oper}{g:Nat}{K:SV→Eff→Prop}
theorem opBuiltin_ok(hT:TabOk P T)(h:St E nt H β tm bx a w)(hd:∀d,o.dst=some d→d<nt){b:Builtin}{args:Array Operand}{ts:Array TypeId}(hop:o.op=.call { callee:=.builtin b,args:=args,argTypes:=ts })
 (ho:opBuiltin T b ts.toList args.toList (evS tm) bx g K):o.wp P a w (Post E nt tm bx o.dst K) Q:=by
 have two:∀{α:Type} {l:Array α} {x y:α},l.toList=[x,y]→l = #[x,y]:=fun h=>Array.ext' h
 have one:∀{α:Type} {l:Array α} {x:α},l.toList=[x]→l = #[x]:=fun h=>Array.ext' h
 unfold opBuiltin at ho
 split at ho
 · -- len
   split at ho
   · rename_i x hargs
     have e1:=one hargs
     subst e1
     split at ho
     · rename_i n t hn hts
       have e2:ts[0]?=some t:=by rw[←Array.getElem?_toList,hts];rfl
       split at ho
       · rename_i ty ht
         split at ho
         · rename_i s hsh hx
           obtain⟨m,e,hK⟩:=ho
           rw[hx] at hn;simp only[lenOfS,Option.some.injEq] at hn;subst hn;subst e
           exact ok_len_s hT h hd hop e2 ht hsh hx hK
         · rename_i e0 es hsh hx
           obtain⟨m,e,hK⟩:=ho
           rw[hx] at hn;simp only[lenOfS,Option.some.injEq] at hn;subst hn;subst e
           have hv:=ev_ok h.sim rfl x
           rw[hx] at hv
           rcases VR.asSl hv with⟨rfl,ad,cap,hxe⟩|⟨b,off,cap,sz,arr,vs,hxe,_⟩
           · exact ok_len_any hT h hd hop e2 ht hsh hxe (rd:=[]) hK
           · exact ok_len_any hT h hd hop e2 ht hsh hxe (rd:=[]) hK
         · rename_i e0 hsh hx
           have hv:=ev_ok h.sim rfl x
           rw[hx] at hv
           exact ok_len_any hT h hd hop e2 ht hsh (n:=0) hv (rd:=[]) ho
         · rename_i e0 g' off n' fl hsh hx
           split at ho
           · rename_i e' sz es fz hb
             obtain⟨m,e,hK⟩:=ho
             rw[hx] at hn;simp only[lenOfS,Option.some.injEq] at hn;subst hn;subst e
             have hv:=ev_ok h.sim rfl x
             rw[hx] at hv
             simp only[SR,hb] at hv
             obtain⟨cap,hxe,_⟩:=hv
             exact ok_len_any hT h hd hop e2 ht hsh hxe hK
           · exact ho.elim
         · rename_i e0 n' hsh hx
           obtain⟨m,e,hK⟩:=ho
           rw[hx] at hn;simp only[lenOfS,Option.some.injEq] at hn;subst hn;subst e
           have hv:=ev_ok h.sim rfl x
           rw[hx] at hv
           obtain⟨ad,cap,hxe⟩:=hv
           exact ok_len_any hT h hd hop e2 ht hsh hxe (rd:=[]) hK
         · exact ho.elim
       · exact ho.elim
     · exact ho.elim
   · exact ho.elim
 · -- max
   split at ho
   · rename_i x y hargs
     have e1:=two hargs
     subst e1
     split at ho
     · rename_i k p k' q hx hy
       obtain⟨n,e,hK⟩:=ho;subst e
       exact ok_max h hd hop hx hy hK
     · exact ho.elim
   · exact ho.elim
 · -- min
   split at ho
   · rename_i x y hargs
     have e1:=two hargs
     subst e1
     split at ho
     · rename_i k p k' q hx hy
       obtain⟨n,e,hK⟩:=ho;subst e
       exact ok_min h hd hop hx hy hK
     · exact ho.elim
   · exact ho.elim
 · -- append
   split at ho
   · rename_i s x t t' hargs hts
     have e1:=two hargs
     subst e1
     have e2:=two hts
     subst e2
     cases htt:Nat.beq t t' with
     |false=>rw[htt] at ho;exact ho.elim
     |true =>
      rw[htt] at ho
      have:=Nat.eq_of_beq_eq_true htt
      subst this
      simp only[cond_true] at ho
      split at ho
      · rename_i ty ht
        split at ho
        · rename_i e hsh
          split at ho
          · rename_i te hte
            cases hp:Nat.blt 0 te.size with
            |false=>rw[hp] at ho;exact ho.elim
            |true =>
             rw[hp] at ho
             have hp':0<te.size:=Nat.lt_of_succ_le (by simpa[Nat.blt] using hp)
             simp only[cond_true] at ho
             cases hzs:Nat.beq te.zero.cells.length te.size with
             |false=>rw[hzs] at ho;exact ho.elim
             |true =>
              rw[hzs] at ho
              have hzs':=Nat.eq_of_beq_eq_true hzs
              simp only[cond_true] at ho
              split at ho
              · rename_i news f hx
                split at ho
                · rename_i hs
                  obtain⟨c,hc,hK⟩:=ho
                  cases c with
                  |true=>exact ok_append_nil (g:=g) hT h hd hop ht hsh hte hp' hzs' hx hs (c:=true) (fun e=>by simp at e) hc hK
                  |false =>
                   simp only at hK
                   split at hK
                   · rename_i hg
                     exact ok_append_nil (g:=g) hT h hd hop ht hsh hte hp' hzs' hx hs (c:=false) (fun _=>hg) hc hK
                   · exact hK.elim
                · rename_i g' n hs
                  split at ho
                  · rename_i e' sz es hb' hg
                    obtain⟨h1,h2,h3,h4,h5,h6,h7,hK⟩:=ho
                    exact ok_append_ref hT h hd hop ht hsh hte hzs' hx hs hg hb' h1 h2 h3 h4 h5 h6 h7 hK
                  · exact ho.elim
                · exact ho.elim
              · exact ho.elim
          · exact ho.elim
        · exact ho.elim
      · exact ho.elim
   · exact ho.elim
 · -- copy
   split at ho
   · rename_i d x t t' hargs hts
     have e1:=two hargs
     subst e1
     have e2:=two hts
     subst e2
     split at ho
     · rename_i ty ht
       split at ho
       · rename_i e hsh
         split at ho
         · rename_i te hte
           cases hp:Nat.beq te.size 1 with
           |false=>rw[hp] at ho;exact ho.elim
           |true =>
            rw[hp] at ho
            have h1:=Nat.eq_of_beq_eq_true hp
            simp only[cond_true] at ho
            split at ho
            · rename_i news f hx
              split at ho
              · rename_i g' off n fl hs
                split at ho
                · rename_i e' sz es hb'
                  obtain⟨q1,q2,q3,q4,m,q5,hK⟩:=ho
                  exact ok_copy hT h hd hop ht hsh hte h1 hx hs hb' q1 q2 q3 q4 q5 hK
                · exact ho.elim
              · exact ho.elim
            · exact ho.elim
         · exact ho.elim
       · exact ho.elim
     · exact ho.elim
   · exact ho.elim
 · exact ho.elim
theorem bd3(h:St E nt H β tm bx a w){v:Option Operand}{d:Nat}{K:Nat→Prop}(hb:bnd (v.map (evS tm)) d K):∃m,Bd (v.map a.eval) d m∧K m :=
 Bd.of (fun x=>ev_ok h.sim rfl x) hb
theorem opP_ok(hT:TabOk P T)(hΦ:CtrOk P I Φ)(hIs:∀w',BelowO E.own w w'→I w')(h:St E nt H β tm bx a w)(hd:∀d,o.dst=some d→d<nt)(ho:opP T Φ o (evS tm) bx g K):o.wp P a w (Post E nt tm bx o.dst K) Q:=by
 unfold opP at ho
 split at ho
 · rename_i x hop
   refine ok_move h hd (.inl hop) ?_
   split at ho<;>rename_i hx<;>rw[hx]<;>exact ho
 · rename_i x hop
   refine ok_move h hd (.inr hop) ?_
   split at ho<;>rename_i hx<;>rw[hx]<;>exact ho
 · rename_i c x y hop
   split at ho
   · rename_i b hc
     obtain⟨r,h1,h2,hK⟩:=ho
     exact ok_pick h hd hop hc h1 h2 hK
   · exact ho.elim
 · rename_i t hop
   split at ho
   · rename_i ty ht hg
     exact ok_alloc hT h hd hop ht hg ho
   · exact ho.elim
 · rename_i t x hop
   split at ho
   · rename_i y f hx hg
     cases hy:y.isTup with
     |true=>rw[hy] at ho;exact ho.elim
     |false=>rw[hy] at ho;exact ok_box h hd hop hx hg hy ho
   · exact ho.elim
 · rename_i t parts hop
   split at ho
   · rename_i ty ht
     split at ho
     · rename_i hsh
       split at ho
       · rename_i cs f hf
         exact ok_build hT h hd hop ht hsh hf ho
       · exact ho.elim
     · rename_i n e hsh
       split at ho
       · rename_i te hte
         split at ho
         · rename_i cs f hf
           exact ok_buildA hT h hd hop ht hsh hte hf ho
         · exact ho.elim
       · exact ho.elim
     · exact ho.elim
   · exact ho.elim
 · rename_i t len parts hop
   split at ho
   · rename_i ty ht hg
     split at ho
     · rename_i e hsh
       split at ho
       · rename_i te hte
         cases hb:(Nat.blt 0 te.size&&Nat.ble (len*te.size) 16777216&&Nat.beq te.zero.cells.length te.size) with
         |false=>rw[hb] at ho;exact ho.elim
         |true =>
          rw[hb] at ho
          simp only[Bool.and_eq_true] at hb
          obtain⟨⟨b1,b2⟩,b3⟩:=hb
          simp only[cond_true] at ho
          split at ho
          · rename_i es f hf
            exact ok_buildSlice hT h hd hop ht hsh hte (Nat.lt_of_succ_le (by simpa[Nat.blt] using b1)) (Nat.le_of_ble_eq_true b2) (Nat.eq_of_beq_eq_true b3) hf hg ho
          · exact ho.elim
       · exact ho.elim
     · exact ho.elim
   · exact ho.elim
 · rename_i t x hop
   split at ho
   · rename_i ty ht
     split at ho
     · rename_i g' off hx
       split at ho
       · rename_i y hb
         split at ho
         · rename_i r hl
           exact ok_load_var hT h hd hop ht hx hb hl ho
         · exact ho.elim
       · rename_i v0 cs j e sz es hb
         cases hc:(Nat.beq off j&&Nat.beq ty.size 1 && !ty.sh.agg) with
         |false=>rw[hc] at ho;exact ho.elim
         |true =>
          rw[hc] at ho
          simp only[Bool.and_eq_true,Bool.not_eq_true'] at hc
          obtain rfl:=Nat.eq_of_beq_eq_true hc.1.1
          exact ok_load_row hT h hd hop ht hx hb (Nat.eq_of_beq_eq_true hc.1.2) hc.2 (by cases v0<;>exact ho)
       · exact ho.elim
     · rename_i y off hx
       split at ho
       · rename_i r hl
         exact ok_load_i hT h hd hop ht hx hl ho
       · exact ho.elim
     · rename_i g' j off hx
       split at ho
       · rename_i e sz es fz hb
         obtain⟨y,hj,ho⟩:=ho
         split at ho
         · rename_i r hl
           exact ok_load_e hT h hd hop ht hx hb hj hl ho
         · exact ho.elim
       · exact ho.elim
     · exact ho.elim
   · exact ho.elim
 · rename_i t x y hop
   split at ho
   · rename_i ty z f ht hy
     cases hb:(Nat.beq z.cells.length ty.size && !z.isTup) with
     |false=>rw[hb] at ho;exact ho.elim
     |true =>
      rw[hb] at ho
      simp only[Bool.and_eq_true,Bool.not_eq_true'] at hb
      have b1:=Nat.eq_of_beq_eq_true hb.1
      simp only[cond_true] at ho
      split at ho
      · rename_i g' off hx
        split at ho
        · rename_i u hbx
          split at ho
          · rename_i u' hs
            exact ok_store_var hT h hd hop ht hy b1 hb.2 hx hbx hs ho
          · exact ho.elim
        · exact ho.elim
      · rename_i g' j off hx
        split at ho
        · rename_i e sz es hbx
          obtain⟨hf,u,hj,ho⟩:=ho
          split at ho
          · rename_i u' hs
            exact ok_store_e hT h hd hop ht hy b1 hb.2 hx hbx hf hj hs ho
          · exact ho.elim
        · exact ho.elim
      · exact ho.elim
   · exact ho.elim
 · rename_i op t x y t' hop
   split at ho
   · rename_i k p k' q hx hy
     obtain⟨rfl,ho⟩:=ho
     obtain⟨v,r,hr,hv,hK⟩:=intRes_ok (P:=P) (H:=H) (t:=t) w ho
     have v1:=ev_ok h.sim rfl x
     rw[hx] at v1
     have v2:=ev_ok h.sim rfl y
     rw[hy] at v2
     exact ok_binOp h hd hop (VR.asInt v1) (VR.asInt v2) (eqGuard_int P w op t x y k k p q) hr hv hK
   · rename_i p q hx hy
     have v1:=ev_ok h.sim rfl x
     rw[hx] at v1
     have v2:=ev_ok h.sim rfl y
     rw[hy] at v2
     obtain⟨s1,e1,rfl⟩:=VR.asStr v1
     obtain⟨s2,e2,rfl⟩:=VR.asStr v2
     obtain⟨v,r,hr,hv,hK⟩:=strRes_ok (P:=P) (H:=H) (t:=t) w ho
     exact ok_binOp h hd hop e1 e2 (eqGuard_str P w op t x y s1 s2) hr hv hK
   · rename_i p q hx hy
     split at ho
     · rename_i ty ht
       split at ho
       · rename_i hsh
         obtain⟨i,d,z,ok⟩:=tyOf_ok (hT t ty ht)
         have hd':=ok.sh
         rw[hsh] at hd'
         obtain rfl:=shOf_bool hd'
         have v1:=ev_ok h.sim rfl x
         rw[hx] at v1
         have v2:=ev_ok h.sim rfl y
         rw[hy] at v2
         obtain⟨v,r,hr,hv,hK⟩:=boolRes_ok (P:=P) (H:=H) w ok.und ho
         exact ok_binOp h hd hop (VR.asBool v1) (VR.asBool v2) (eqGuard_bool P w op t x y p q) hr hv hK
       · exact ho.elim
     · exact ho.elim
   · exact ho.elim
 · rename_i op t x hop
   split at ho
   · rename_i p hx
     obtain⟨c,e,hK⟩:=ho
     subst e
     have v1:=ev_ok h.sim rfl x
     rw[hx] at v1
     refine ok_simple h hd (v:=.bool !p) ?_ (r:=.iv (.bool !p)) (VR.bool _) hK
     simp only[execOp,hop,VR.asBool v1,Op.unary,Sem.run_bind,Sem.run_pure,Result.andThen_ok]
   · rename_i k p hx
     obtain⟨c,e,hK⟩:=ho
     subst e
     have v1:=ev_ok h.sim rfl x
     rw[hx] at v1
     refine ok_simple h hd (v:=.int k (k.wrap (0-p))) ?_ (r:=.iv (.int k (k.wrap (0-p)))) (VR.int _ _) hK
     simp only[execOp,hop,VR.asInt v1,Op.unary,Op.intArith,Sem.run_bind,Sem.run_pure,Result.andThen_ok]
   · exact ho.elim
 · rename_i s d x hop
   split at ho
   · rename_i ts td hs htd
     split at ho
     · rename_i k0 k k' p h1 h2 hx
       obtain⟨n,e,hK⟩:=ho
       subst e
       exact ok_convert hT h hd hop hs htd h1 h2 hx hK
     · rename_i l h1 h2 hx
       exact ok_convert_s hT h hd hop hs htd h1 h2 hx ho
     · exact ho.elim
   · exact ho.elim
 · rename_i t l c hop
   split at ho
   · rename_i ty ht hg
     split at ho
     · rename_i e hsh
       split at ho
       · rename_i te kl p kc q hte hl hc
         cases hb:(Nat.blt 0 te.size&&Nat.beq te.zero.cells.length te.size) with
         |false=>rw[hb] at ho;exact ho.elim
         |true =>
          rw[hb] at ho
          simp only[Bool.and_eq_true] at hb
          simp only[cond_true] at ho
          obtain⟨rfl,m,rfl,h1,h2,hK⟩:=ho
          exact ok_makeSlice hT h hd hop ht hsh hte hl hc (Nat.lt_of_succ_le (by simpa[Nat.blt] using hb.1)) (Nat.eq_of_beq_eq_true hb.2) h1 h2 hg hK
       · exact ho.elim
     · exact ho.elim
   · exact ho.elim
 · rename_i t x lo hi mx hop
   split at ho
   · rename_i ty ht
     split at ho
     · rename_i s hsh hx
       split at ho
       · obtain⟨u,hu,ho⟩:=bd3 h ho
         obtain⟨l,hl,h1,h2,hK⟩:=bd3 h ho
         exact ok_slice_str hT h hd hop ht hsh hx hl hu h1 h2 hK
       · exact ho.elim
     · rename_i e es hsh hx
       split at ho
       · rename_i te hte
         obtain⟨u,hu,ho⟩:=bd3 h ho
         obtain⟨m,hm,ho⟩:=bd3 h ho
         obtain⟨l,hl,h1,h2,h3,h4,h5,hK⟩:=bd3 h ho
         exact ok_slice_i hT h hd hop ht hsh hte hx hl hu hm h1 h2 h3 h4 h5 hK
       · exact ho.elim
     · rename_i e hsh hx
       split at ho
       · rename_i te hte
         obtain⟨u,hu,ho⟩:=bd3 h ho
         obtain⟨m,hm,ho⟩:=bd3 h ho
         obtain⟨l,hl,h1,h2,h3,h4,hK⟩:=bd3 h ho
         exact ok_slice_n hT h hd hop ht hsh hte hx hl hu hm h1 h2 h3 h4 hK
       · exact ho.elim
     · rename_i e g' off n fl hsh hx
       split at ho
       · rename_i te e' sz es fz hte hb
         obtain⟨hsz,ho⟩:=ho
         obtain⟨u,hu,ho⟩:=bd3 h ho
         obtain⟨m,hm,ho⟩:=bd3 h ho
         obtain⟨l,hl,h1,h2,h3,h4,c,hc,hK⟩:=bd3 h ho
         exact ok_slice_r hT h hd hop ht hsh hte hx hb hsz hl hu hm h1 h2 h3 h4 hc (by cases c<;>exact hK)
       · exact ho.elim
     · exact ho.elim
   · exact ho.elim
 · rename_i t x j hop
   split at ho
   · rename_i ty ht
     split at ho
     · rename_i fo ag sz hsh hf
       cases hb:Nat.blt 0 sz with
       |false=>rw[hb] at ho;exact ho.elim
       |true =>
        rw[hb] at ho
        have hsz:0<sz:=Nat.lt_of_succ_le (by simpa[Nat.blt] using hb)
        simp only[cond_true] at ho
        have hv:=ev_ok h.sim rfl x
        split at ho
        · rename_i g' off hx
          rw[hx] at hv
          exact ok_fieldAddr hT h hd hop ht hsh hf hsz hv.2 (r:=.ptr g' (off+fo)) ⟨hv.1,rfl⟩ ho
        · rename_i y off hx
          rw[hx] at hv
          obtain⟨b,base,u,arr,e1,e2,e3,e4⟩:=hv
          exact ok_fieldAddr hT h hd hop ht hsh hf hsz e1 (r:=.iptr y (off+fo)) ⟨b,base,u,arr,by rw[Nat.add_assoc],e2,e3,e4⟩ ho
        · rename_i g' i off hx
          rw[hx] at hv
          split at ho
          · rename_i e sz es fz hbx
            simp only[SR,hbx] at hv
            exact ok_fieldAddr hT h hd hop ht hsh hf hsz hv.1 (r:=.eptr g' i (off+fo)) (by simp only[SR,hbx];exact⟨by rw[Nat.add_assoc],hv.2⟩) (rd:=[g']) ho
          · exact ho.elim
        · exact ho.elim
     · exact ho.elim
   · exact ho.elim
 · rename_i s x j hop
   split at ho
   · rename_i ty ht
     split at ho
     · rename_i fo ag sz cs hsh hf hx
       split at ho
       · rename_i r hl
         exact ok_field hT h hd hop ht hsh hf hx hl ho
       · exact ho.elim
     · exact ho.elim
   · exact ho.elim
 · rename_i t x ix hop
   split at ho
   · rename_i ty ht
     split at ho
     · rename_i e es k p hsh hx hi
       split at ho
       · rename_i te hte
         obtain⟨j,y,rfl,hj,hy,hK⟩:=ho
         exact ok_indexAddr_i hT h hd hop ht hsh hte hx hi hj hy hK
       · exact ho.elim
     · rename_i e g' off n fl k p hsh hx hi
       split at ho
       · rename_i te e' sz es fz hte hb
         obtain⟨hsz,j,rfl,hj,hK⟩:=ho
         exact ok_indexAddr_r hT h hd hop ht hsh hte hx hb hsz hi hj hK
       · exact ho.elim
     · rename_i n e g' off k p hsh hx hi
       split at ho
       · rename_i te hte
         obtain⟨j,rfl,hj,hK⟩:=ho
         exact ok_indexAddr_a hT h hd hop ht hsh hte hx hi hj hK
       · exact ho.elim
     · exact ho.elim
   · exact ho.elim
 · rename_i t x ix hop
   split at ho
   · rename_i ty ht
     split at ho
     · rename_i s k p hsh hx hi
       obtain⟨j,b,rfl,hj,n,rfl,hK⟩:=ho
       exact ok_index hT h hd hop ht hsh hx hi hj hK
     · exact ho.elim
   · exact ho.elim
 · rename_i x j hop
   split at ho
   · rename_i vs hx
     split at ho
     · rename_i y hj
       exact ok_extract h hd hop hx hj ho
     · exact ho.elim
   · exact ho.elim
 · rename_i fn first captured hop
   split at ho
   · rename_i f gs hfirst hgs
     split at ho
     · exact ok_makeFunc h hd hop hfirst hgs (.inl ⟨rfl,rfl⟩) ho
     · exact ok_makeFunc h hd hop hfirst hgs (.inr rfl) ho
   · exact ho.elim
 · rename_i b args ts hop
   exact opBuiltin_ok hT h hd hop ho
 · rename_i f args ts hop
   split at ho
   · rename_i fn hf
     split at ho
     · split at ho
       · rename_i xs fs hxs
         obtain⟨f',zs,hm,hfr,hK⟩:=ho
         exact ok_make (hΦ.mkr _ _ _ _ hm) (hIs w (BelowO.refl _ _)) h hd hop hf hxs hfr hK
       · exact ho.elim
     split at ho
     · split at ho
       · rename_i xs fs hxs
         obtain⟨r,hr,hK⟩:=ho
         exact ok_call (hΦ.pu _ _ _ hr) (hIs w (BelowO.refl _ _)) h hd hop hf hxs hK
       · exact ho.elim
     · split at ho
       · rename_i x rest hargs
         have e3:args=(x::rest).toArray:=Array.ext' (by simpa using hargs)
         subst e3
         split at ho
         · rename_i g' off n fl hx
           split at ho
           · rename_i e sz es xs fs hb hxs
             obtain⟨hn,es',r,hr,hl,hK⟩:=ho
             exact ok_mut (hΦ.mt _ _ _ _ _ _ _ _ _ hr) hIs h hd hop hf hx hb hxs hn hl hK
           · exact ho.elim
         · exact ho.elim
       · exact ho.elim
   · exact ho.elim
 · exact ho.elim
end
end Go.Proofs.Fl
namespace Go.Proofs.En
open Go.RowKit Go.Proofs.Fl
section
variable {X:EX}{E:EEnv}{nt:Nat}{H H':Heap}{β β':Bm}{tm:Nat→ES}{h h':Hp}{a:Act}{w w':World}{o:Oper}
theorem ok_store(hS:ESt X E nt H β tm h a w){t:TypeId}{x y:Operand}(ho:o.op=.store t x y){r:ES}{ws:Wr}(he:eStore X.T X.Z h t (evE tm x) (evE tm y)=some (r,ws)):OpOk X E H β h a w o r ws:=by
 have hx:=ev_okE hS x
 have hy:=ev_okE hS y
 unfold eStore at he
 split at he
 · rename_i ty g u off z ht hxe hye
   rw[hxe] at hx
   rw[hye] at hy
   obtain⟨k,hk,hx⟩:=hx
   have hy:WR X.Z H β (a.eval y) z:=hy
   obtain⟨i,d,zz,ok⟩:=tyOf_ok (X.hT t ty ht)
   cases hb:Nat.beq (z.cells X.Z).length ty.size with
   |false=>rw[hb] at he;cases he
   |true =>
    rw[hb] at he
    simp only[cond_true] at he
    have hsz:=Nat.eq_of_beq_eq_true hb
    split at he
    · rename_i o' hw
      simp only[Option.some.injEq,Prod.mk.injEq] at he
      obtain⟨rfl,rfl⟩:=he
      obtain⟨k',arr,e,h1,h2,h3,h4,h5,h6⟩:=wrO_ok hS.sim hw hy.cells
      rw[hk] at h1;cases h1
      have hrun:=run_storeVar (P:=X.P) ok (o:=off) h2 (u:=a.eval y) (by rw[hy.size,hsz]) (by simpa using h3) hy.cells.one
      refine⟨undef,_,β,.inr ⟨rfl,?_⟩,BLe.refl _,h5,h6,rfl⟩
      simp only[execOp,ho,hx,Instr.storeAt,Instr.sureAddr,Sem.run_bind,Sem.run_pure,Result.andThen_ok,hrun]
    · cases he
 · cases he
theorem ok_fieldAddr(hS:ESt X E nt H β tm h a w){t:TypeId}{x:Operand}{j:Nat}(ho:o.op=.fieldAddr t x j){r:ES}{ws:Wr}(he:eFieldAddr X.T t (evE tm x) j=some (r,ws)):OpOk X E H β h a w o r ws:=by
 have hx:=ev_okE hS x
 unfold eFieldAddr at he
 split at he
 · rename_i ty g u off ht hxe
   rw[hxe] at hx
   obtain⟨k,hk,hx⟩:=hx
   obtain⟨i,d,z,ok⟩:=tyOf_ok (X.hT t ty ht)
   split at he
   · rename_i fo ag sz hsh hf
     cases hb:Nat.blt 0 sz with
     |false=>rw[hb] at he;cases he
     |true =>
      rw[hb,forceN_eq] at he
      simp only[cond_true,Option.some.injEq,Prod.mk.injEq] at he
      obtain⟨rfl,rfl⟩:=he
      have hsz:0<sz:=Nat.lt_of_succ_le (by simpa[Nat.blt] using hb)
      have hd':=ok.sh
      rw[hsh] at hd'
      obtain⟨fs,rfl⟩:=shOf_struct hd'
      obtain⟨fd,fi,dd,e1,e2,e3,e4,e5,e6⟩:=fieldsOf_get (show fieldsOf X.P fs.toList=some ty.fields from ok.fields) hf
      refine OpOk.pure hS (v:=.pointer (some ⟨k.1,off+fo,none⟩)) ?_ ⟨k,hk,rfl⟩
      have e1':fs[j]?=some fd:=by simpa using e1
      have hs:(sizeOf fd.type).run X.P w=.ok fi.size w:=by simp[sizeOf,typeInfo,e3]
      have h0:¬fi.size=0:=by omega
      simp only[execOp,ho,hx,Instr.fieldAt,Sem.run_bind,ok.run_und,Result.andThen_ok,e1',Instr.sureAddr,Sem.run_pure,fieldPlace,hs,h0,if_false,add_mk,e2]
   · cases he
 · rename_i ty y off ht hxe
   rw[hxe] at hx
   obtain⟨b,base,v,arr,hxv,q1,q2,q3⟩:=hx
   obtain⟨i,d,z,ok⟩:=tyOf_ok (X.hT t ty ht)
   split at he
   · rename_i fo ag sz hsh hf
     cases hb:Nat.blt 0 sz with
     |false=>rw[hb] at he;cases he
     |true =>
      rw[hb,forceN_eq] at he
      simp only[cond_true,Option.some.injEq,Prod.mk.injEq] at he
      obtain⟨rfl,rfl⟩:=he
      have hsz:0<sz:=Nat.lt_of_succ_le (by simpa[Nat.blt] using hb)
      have hd':=ok.sh
      rw[hsh] at hd'
      obtain⟨fs,rfl⟩:=shOf_struct hd'
      obtain⟨fd,fi,dd,e1,e2,e3,e4,e5,e6⟩:=fieldsOf_get (show fieldsOf X.P fs.toList=some ty.fields from ok.fields) hf
      refine OpOk.pure hS (v:=.pointer (some ⟨b,base+off+fo,none⟩)) ?_ ⟨b,base,v,arr,by rw[Nat.add_assoc],q1,q2,q3⟩
      have e1':fs[j]?=some fd:=by simpa using e1
      have hs:(sizeOf fd.type).run X.P w=.ok fi.size w:=by simp[sizeOf,typeInfo,e3]
      have h0:¬fi.size=0:=by omega
      simp only[execOp,ho,hxv,Instr.fieldAt,Sem.run_bind,ok.run_und,Result.andThen_ok,e1',Instr.sureAddr,Sem.run_pure,fieldPlace,hs,h0,if_false,add_mk,e2]
   · cases he
 · cases he
theorem ok_indexAddr(hS:ESt X E nt H β tm h a w){t:TypeId}{x ix:Operand}(ho:o.op=.indexAddr t x ix){r:ES}{ws:Wr}(he:eIndexAddr X.T t (evE tm x) (evE tm ix)=some (r,ws)):OpOk X E H β h a w o r ws:=by
 have hx:=ev_okE hS x
 have hi:=ev_okE hS ix
 unfold eIndexAddr at he
 split at he
 · rename_i ty g u off n cap kk j ht hxe hie
   rw[hxe] at hx
   rw[hie] at hi
   obtain⟨k,c,hk,hx,_⟩:=hx
   have hi:=hi.int
   simp only[Int.ofNat_eq_natCast] at hi
   obtain⟨i,d,z,ok⟩:=tyOf_ok (X.hT t ty ht)
   have hd':=ok.sh
   split at he
   · rename_i e hsh
     rw[hsh] at hd'
     obtain rfl:=shOf_slice hd'
     split at he
     · rename_i te hte
       obtain⟨ie,de,ze,oke⟩:=tyOf_ok (X.hT e te hte)
       cases hb:Nat.blt j n with
       |false=>rw[hb] at he;cases he
       |true =>
        rw[hb,forceN_eq] at he
        simp only[cond_true,Option.some.injEq,Prod.mk.injEq] at he
        obtain⟨rfl,rfl⟩:=he
        have hlt:j<n:=Nat.lt_of_succ_le (by simpa[Nat.blt] using hb)
        refine OpOk.pure hS (v:=.pointer (some ⟨k.1,off+j*te.size,none⟩)) ?_ ⟨k,hk,rfl⟩
        have hcond:(0:Int)≤(j:Int)∧(j:Int)<(n:Int):=⟨by omega,by omega⟩
        simp only[execOp,ho,hx,hi,Instr.indexAt,asIntOf,Sem.run_bind,Sem.run_pure,Result.andThen_ok,ok.run_und,hcond,and_self,if_true,Int.toNat_natCast,oke.run_size,add_mk]
     · cases he
   · cases he
 · rename_i ty g u off kk j ht hxe hie
   rw[hxe] at hx
   rw[hie] at hi
   obtain⟨k,hk,hx⟩:=hx
   have hi:=hi.int
   simp only[Int.ofNat_eq_natCast] at hi
   obtain⟨i,d,z,ok⟩:=tyOf_ok (X.hT t ty ht)
   have hd':=ok.sh
   split at he
   · rename_i n e hsh
     rw[hsh] at hd'
     obtain rfl:=shOf_array hd'
     split at he
     · rename_i te hte
       obtain⟨ie,de,ze,oke⟩:=tyOf_ok (X.hT e te hte)
       cases hb:Nat.blt j n with
       |false=>rw[hb] at he;cases he
       |true =>
        rw[hb,forceN_eq] at he
        simp only[cond_true,Option.some.injEq,Prod.mk.injEq] at he
        obtain⟨rfl,rfl⟩:=he
        have hlt:j<n:=Nat.lt_of_succ_le (by simpa[Nat.blt] using hb)
        refine OpOk.pure hS (v:=.pointer (some ⟨k.1,off+j*te.size,none⟩)) ?_ ⟨k,hk,rfl⟩
        have hcond:(0:Int)≤(j:Int)∧(j:Int)<(n:Int):=⟨by omega,by omega⟩
        simp only[execOp,ho,hx,hi,Instr.indexAt,asIntOf,Instr.sureAddr,Sem.run_bind,Sem.run_pure,Result.andThen_ok,ok.run_und,hcond,and_self,if_true,Int.toNat_natCast,oke.run_size,add_mk]
     · cases he
   · cases he
 · rename_i ty es kk j ht hxe hie
   rw[hxe] at hx
   rw[hie] at hi
   have hi:=hi.int
   have hxd:VR H (a.eval x) (.sl es):=hx.2
   simp only[Int.ofNat_eq_natCast] at hi
   obtain⟨i,d,z,ok⟩:=tyOf_ok (X.hT t ty ht)
   have hd':=ok.sh
   split at he
   · rename_i e hsh
     rw[hsh] at hd'
     obtain rfl:=shOf_slice hd'
     split at he
     · rename_i te y hte hj
       obtain⟨ie,de,ze,oke⟩:=tyOf_ok (X.hT e te hte)
       cases hb:Nat.beq y.cells.length te.size with
       |false=>rw[hb] at he;cases he
       |true =>
        rw[hb] at he
        simp only[cond_true,Option.some.injEq,Prod.mk.injEq] at he
        obtain⟨rfl,rfl⟩:=he
        have hy:=Nat.eq_of_beq_eq_true hb
        have hlt:j<es.length:=(List.getElem?_eq_some_iff.1 hj).1
        generalize hev:a.eval x=ev at hxd
        cases hxd with
        |sl0=>simp at hlt
        |sl b off n cap sz arr vs _ hb hs hn hc hz ha =>
         obtain⟨u,hu1,hu2⟩:=hs.get j y hj
         have hm:u∈vs:=List.mem_of_getElem? hu1
         have hsz:sz=te.size:=by rw[←hz u hm,hu2.size,hy]
         have hvl:=hs.length
         refine OpOk.pure hS (v:=.pointer (some ⟨b,off+j*te.size,none⟩)) ?_ ⟨b,off+j*te.size,u,arr,rfl,hb,hu2,?_⟩
         · have hlt':(j:Int)<(n:Int):=by omega
           have hcond:(0:Int)≤(j:Int)∧(j:Int)<(n:Int):=⟨by omega,hlt'⟩
           simp only[execOp,ho,hev,hi,Instr.indexAt,asIntOf,Sem.run_bind,Sem.run_pure,Result.andThen_ok,ok.run_und,hcond,and_self,if_true,Int.toNat_natCast,oke.run_size,add_mk]
         · rw[←hsz,hz u hm,←List.drop_drop,←flat_get hz hu1,←ha,List.drop_take,List.take_take,Nat.min_eq_left]
           rw[←Nat.sub_mul]
           have:1*sz≤(vs.length-j)*sz:=Nat.mul_le_mul_right _ (by omega)
           omega
     · cases he
   · cases he
 · cases he
theorem ok_field(hS:ESt X E nt H β tm h a w){t:TypeId}{x:Operand}{j:Nat}(ho:o.op=.field t x j){r:ES}{ws:Wr}(he:eField X.T X.Z t (evE tm x) j=some (r,ws)):OpOk X E H β h a w o r ws:=by
 have hx:=ev_okE hS x
 unfold eField at he
 split at he
 · rename_i ty cs ht hxe
   rw[hxe] at hx
   obtain⟨vs,hx,hvs⟩:=hx
   obtain⟨i,d,z,ok⟩:=tyOf_ok (X.hT t ty ht)
   split at he
   · rename_i fo ag sz hsh hf
     cases hb:Nat.ble (fo+sz) cs.length with
     |false=>rw[hb] at he;cases he
     |true =>
      rw[hb,forceL_eq] at he
      simp only[cond_true] at he
      have hle:=Nat.le_of_ble_eq_true hb
      split at he
      · rename_i y hv
        simp only[Option.some.injEq,Prod.mk.injEq] at he
        obtain⟨rfl,rfl⟩:=he
        have hd':=ok.sh
        rw[hsh] at hd'
        obtain⟨fs,rfl⟩:=shOf_struct hd'
        obtain⟨fd,fi,dd,e1,e2,e3,e4,e5,e6⟩:=fieldsOf_get (show fieldsOf X.P fs.toList=some ty.fields from ok.fields) hf
        have e1':fs[j]?=some fd:=by simpa using e1
        have hs:(sizeOf fd.type).run X.P w=.ok fi.size w:=by simp[sizeOf,typeInfo,e3]
        have hag:=run_isAgg e4 w
        rw[e5] at hag
        have hl:=hvs.length
        rcases mkV_ok hv ((hvs.drop fo).take sz) with⟨q1,q2⟩|⟨q1,v,q2,q3⟩
        · subst q1
          refine OpOk.pure hS (v:=.agg ((vs.drop fo).take sz).toArray) ?_ q2
          have hpart:(part fd.type vs.toArray fd.offset).run X.P w=.ok (.agg ((vs.drop fo).take sz).toArray) w:=by
           simp only[part,Sem.run_bind,hag,Result.andThen_ok,if_true,hs,Sem.run_pure,e2,e6]
           congr 2
           apply Array.ext'
           simp only[Array.toList_extract,List.extract_eq_take_drop]
           rw[show fo+sz-fo=sz by omega]
          simp only[execOp,ho,hx,Instr.field,Sem.run_bind,ok.run_und,Result.andThen_ok,e1',asAgg,Sem.run_pure,hpart]
        · subst q1
          refine OpOk.pure hS (v:=v) ?_ q3
          have h2':vs.toArray[fo]?=some v:=by
           have:((vs.drop fo).take sz)[0]?=some v:=by rw[q2];rfl
           rw[List.getElem?_take] at this
           split at this
           · simpa using this
           · cases this
          have hpart:(part fd.type vs.toArray fd.offset).run X.P w=.ok v w:=by
           simp only[part,Sem.run_bind,hag,Result.andThen_ok,Bool.false_eq_true,if_false,e2,h2',Sem.run_pure]
          simp only[execOp,ho,hx,Instr.field,Sem.run_bind,ok.run_und,Result.andThen_ok,e1',asAgg,Sem.run_pure,hpart]
      · cases he
   · cases he
 · cases he
theorem ok_extract(hS:ESt X E nt H β tm h a w){x:Operand}{j:Nat}(ho:o.op=.extract x j){r:ES}{ws:Wr}(he:eExtract (evE tm x) j=some (r,ws)):OpOk X E H β h a w o r ws:=by
 have hx:=ev_okE hS x
 unfold eExtract at he
 split at he
 · rename_i xs hxe
   rw[hxe] at hx
   obtain⟨vs,hx,hvs⟩:=hx
   split at he
   · rename_i y hj
     simp only[Option.some.injEq,Prod.mk.injEq] at he
     obtain⟨rfl,rfl⟩:=he
     obtain⟨u,h1,h2⟩:=hvs.get j y hj
     refine OpOk.pure hS (v:=u) ?_ h2
     have h1':vs.toArray[j]?=some u:=by simpa using h1
     simp only[execOp,ho,hx,Instr.extract,h1',Sem.run_bind,Sem.run_pure,Result.andThen_ok]
   · cases he
 · cases he
theorem ok_makeFunc(hS:ESt X E nt H β tm h a w){fn:Fn}{first captured:Array Operand}(ho:o.op=.makeFunc fn first captured){r:ES}{ws:Wr}(he:eMakeFunc fn (first.toList.map (evE tm)) (captured.toList.map (evE tm))=some (r,ws)):OpOk X E H β h a w o r ws:=by
 have key:∀(os:List Operand) (gs:List Nat),ptrsE (os.map (evE tm))=some gs→(∀g∈gs,∃k,β g 0=some k)∧os.map a.eval=gs.map (cptr β):=by
  intro os
  induction os with
  |nil=>intro gs hg;simp only[List.map_nil,ptrsE,Option.some.injEq] at hg;subst hg;exact⟨by simp,rfl⟩
  |cons o os ih =>
   intro gs hg
   simp only[List.map_cons] at hg
   have hv:=ev_okE hS o
   unfold ptrsE at hg
   split at hg
   · rename_i hc;cases hc
   · rename_i g' l hc
     simp only[List.cons.injEq] at hc
     obtain⟨hx,rfl⟩:=hc
     rw[hx] at hv
     obtain⟨k,hk,hv⟩:=hv
     cases hp:ptrsE (os.map (evE tm)) with
     |none=>rw[hp] at hg;cases hg
     |some gs' =>
      rw[hp] at hg
      simp only[Option.map_some,Option.some.injEq] at hg
      subst hg
      obtain⟨i1,i2⟩:=ih gs' hp
      exact⟨fun g hg=>(List.mem_cons.1 hg).elim (fun e=>by rw[e];exact⟨k,hk⟩) (i1 g),by simp[i2,hv,cptr,hk]⟩
   · cases hg
 unfold eMakeFunc at he
 split at he
 · rename_i f hfi hp
   simp only[Option.some.injEq,Prod.mk.injEq] at he
   obtain⟨rfl,rfl⟩:=he
   obtain⟨k1,k2⟩:=key _ _ hp
   have e1:first = #[]:=by apply Array.ext';simpa using hfi
   have e2:captured = #[]:=by apply Array.ext';simpa using k2
   subst e1 e2
   refine OpOk.pure hS (v:=.func (.func f) #[] #[]) ?_ ⟨rfl,VR.fn f⟩
   simp only[execOp,ho,Instr.makeFunc,Sem.run_bind,Sem.run_pure,Result.andThen_ok]
   simp
 · rename_i f g gs hfi hp
   simp only[Option.some.injEq,Prod.mk.injEq] at he
   obtain⟨rfl,rfl⟩:=he
   obtain⟨k1,k2⟩:=key _ _ hp
   have e1:first = #[]:=by apply Array.ext';simpa using hfi
   subst e1
   have e2:captured.map a.eval=((g::gs).map (cptr β)).toArray:=by apply Array.ext';simpa using k2
   refine OpOk.pure hS (v:=.func (.func f) #[] ((g::gs).map (cptr β)).toArray) ?_ ⟨k1,rfl⟩
   simp only[execOp,ho,Instr.makeFunc,Sem.run_bind,Sem.run_pure,Result.andThen_ok,e2]
   simp
 · cases he
theorem intE_res{op:BinOp}{k:IntKind}{p q:Int}{r:ES}{ws:Wr}(he:intE op k p q=some (r,ws)):ws=[]∧intRes op k p q (fun x=>r=iv1 x∧x.isTup=false∧x.isAgg=false):=by
 cases op<;>simp only[intE] at he<;>first
  | (cases he;done)
  | (obtain⟨rfl,rfl⟩:=int1_eq he;exact⟨rfl,_,rfl,rfl,rfl,rfl⟩)
  | (obtain⟨rfl,rfl⟩:=bool1_eq he;exact⟨rfl,_,rfl,rfl,rfl,rfl⟩)
  | (cases hq:decide (q=0) with
     |true=>rw[hq] at he;cases he
     |false =>
      rw[hq] at he
      simp only[cond_false] at he
      obtain⟨rfl,rfl⟩:=int1_eq he
      exact⟨rfl,by simpa using hq,_,rfl,rfl,rfl,rfl⟩)
theorem strE_res{op:BinOp}{p q:List UInt8}{r:ES}{ws:Wr}(he:strE op p q=some (r,ws)):ws=[]∧strRes op p q (fun x=>r=iv1 x∧x.isTup=false∧x.isAgg=false):=by
 cases op<;>simp only[strE] at he<;>first
  | (cases he;done)
  | (obtain⟨rfl,rfl⟩:=bool1_eq he;exact⟨rfl,_,rfl,rfl,rfl,rfl⟩)
  | (cases hq:Nat.ble (p.length+q.length) 1000000 with
     |false=>rw[hq] at he;cases he
     |true =>
      rw[hq,forceL_eq] at he
      simp only[cond_true,Option.some.injEq,Prod.mk.injEq] at he
      obtain⟨rfl,rfl⟩:=he
      have:=Nat.le_of_ble_eq_true hq
      exact⟨rfl,by omega,rfl,rfl,rfl⟩)
theorem VR.oneCell{v:Value}{x:IV}(h:VR H v x)(h1:x.isTup=false)(h2:x.isAgg=false):v.oneCell'=true:=by
 cases h<;>first|rfl|simp[IV.isTup,IV.isAgg] at h1 h2
theorem equalIn_nil{P:Program}(n:Nat){t e:TypeId}(ht:P.underlying t=some (.slice e))(ad:Option Addr)(k c:Nat)(w:World):(Op.equalIn (n+1) t (.slice ad k c) (.slice none 0 0)).run P w=.ok ad.isNone w:=by
 cases ad<;>simp only[Op.equalIn,Sem.run_bind,run_underlying ht w,Result.andThen_ok,Sem.run_pure]<;>rfl
theorem ok_binOp(hS:ESt X E nt H β tm h a w){op:BinOp}{t t':TypeId}{x y:Operand}(ho:o.op=.binOp op t x y t'){r:ES}{ws:Wr}(he:eBin X.T op t (evE tm x) (evE tm y)=some (r,ws)):OpOk X E H β h a w o r ws:=by
 have hx:=ev_okE hS x
 have hy:=ev_okE hS y
 have fin:∀{p q v:Value} {x':IV},a.eval x=p→a.eval y=q→(eqGuard op t x y p q).run X.P w=.ok () w→(binOp op t p q).run X.P w=.ok v w→VR H v x'→x'.isTup=false→x'.isAgg=false→OpOk X E H β h a w o (iv1 x') []:=fun hp hq hg hr hv h1 h2=>by
  refine OpOk.pure hS ?_ ⟨VR.oneCell hv h1 h2,hv⟩
  simp only[execOp,ho,hp,hq,Sem.run_bind,hg,hr,Result.andThen_ok,Sem.run_pure]
 unfold eBin at he
 split at he
 · rename_i k p k' q hxe hye
   rw[hxe] at hx
   rw[hye] at hy
   cases hk:decide (k=k') with
   |false=>rw[hk] at he;cases he
   |true =>
    rw[hk] at he
    simp only[cond_true] at he
    have:=of_decide_eq_true hk
    subst this
    obtain⟨rfl,hi⟩:=intE_res he
    obtain⟨v,x',hr,hv,rfl,h1,h2⟩:=intRes_ok (P:=X.P) (H:=H) (t:=t) w hi
    refine fin hx.int hy.int ?_ hr hv h1 h2
    unfold eqGuard
    split<;>rfl
 · rename_i p q hxe hye
   rw[hxe] at hx
   rw[hye] at hy
   obtain⟨bs,hxv,hbs⟩:=VR.asStr hx.2
   obtain⟨cs,hyv,hcs⟩:=VR.asStr hy.2
   obtain⟨rfl,hi⟩:=strE_res he
   rw[←hbs,←hcs] at hi
   obtain⟨v,x',hr,hv,rfl,h1,h2⟩:=strRes_ok (P:=X.P) (H:=H) (t:=t) w hi
   refine fin hxv hyv ?_ hr hv h1 h2
   unfold eqGuard
   split<;>rfl
 · rename_i c hxe hye
   rw[hxe] at hx
   rw[hye] at hy
   have hyv:=asNilS hy.2
   have key:∀{ty:TY} {e:TypeId} {b:Bool},X.T t=some ty→ty.sh=.slice e→isNilS c=some b→(Op.equal t (a.eval x) (a.eval y)).run X.P w=.ok b w∧(∃ad n cp,a.eval x=.slice ad n cp):=fun{ty e b} ht hsh hb=>by
    obtain⟨i,d,z,ok⟩:=tyOf_ok (X.hT t ty ht)
    have hd':=ok.sh
    rw[hsh] at hd'
    obtain rfl:=shOf_slice hd'
    unfold isNilS at hb
    split at hb
    · cases hb
      have hxv:=asNilS hx.2
      refine⟨?_,_,_,_,hxv⟩
      rw[hxv,hyv]
      exact equalIn_nil 9999 ok.und none 0 0 w
    · cases hb
      obtain⟨k,cp,_,hxv,_⟩:=hx
      refine⟨?_,_,_,_,hxv⟩
      rw[hxv,hyv]
      exact equalIn_nil 9999 ok.und _ _ _ w
    · cases hb
   split at he
   · rename_i ty b ht hb
     split at he
     · rename_i e hsh
       obtain⟨rfl,rfl⟩:=bool1_eq he
       obtain⟨k1,ad,n,cp,k2⟩:=key ht hsh hb
       refine fin rfl rfl ?_ (v:=.bool b) ?_ (VR.bool _) rfl rfl
       · rw[k2,hyv];unfold eqGuard;rfl
       · rw[k2,hyv] at k1 ⊢
         simp only[binOp,Sem.run_bind,k1,Result.andThen_ok,Sem.run_pure]
     · cases he
   · rename_i ty b ht hb
     split at he
     · rename_i e hsh
       obtain⟨rfl,rfl⟩:=bool1_eq he
       obtain⟨k1,ad,n,cp,k2⟩:=key ht hsh hb
       refine fin rfl rfl ?_ (v:=.bool (!b)) ?_ (VR.bool _) rfl rfl
       · rw[k2,hyv];unfold eqGuard;rfl
       · rw[k2,hyv] at k1 ⊢
         simp only[binOp,Sem.run_bind,k1,Result.andThen_ok,Sem.run_pure]
     · cases he
   · cases he
 · cases he
theorem ok_unOp(hS:ESt X E nt H β tm h a w){op:UnOp}{t:TypeId}{x:Operand}(ho:o.op=.unOp op t x){r:ES}{ws:Wr}(he:eUn op (evE tm x)=some (r,ws)):OpOk X E H β h a w o r ws:=by
 have hx:=ev_okE hS x
 unfold eUn at he
 split at he
 · rename_i b hxe
   rw[hxe] at hx
   obtain⟨rfl,rfl⟩:=bool1_eq he
   refine OpOk.pure hS (v:=.bool (!b)) ?_ ⟨rfl,VR.bool _⟩
   simp only[execOp,ho,hx.bool,Op.unary,Sem.run_bind,Sem.run_pure,Result.andThen_ok]
 · rename_i k n hxe
   rw[hxe] at hx
   obtain⟨rfl,rfl⟩:=int1_eq he
   refine OpOk.pure hS (v:=.int k (k.wrap (0-n))) ?_ ⟨rfl,VR.int _ _⟩
   simp only[execOp,ho,hx.int,Op.unary,Op.intArith,Sem.run_bind,Sem.run_pure,Result.andThen_ok]
 · cases he
theorem ok_convert(hS:ESt X E nt H β tm h a w){s d:TypeId}{x:Operand}(ho:o.op=.convert s d x){r:ES}{ws:Wr}(he:eConv X.T s d (evE tm x)=some (r,ws)):OpOk X E H β h a w o r ws:=by
 have hx:=ev_okE hS x
 unfold eConv at he
 split at he
 · rename_i ts td k' n hs htd hxe
   rw[hxe] at hx
   obtain⟨i1,d1,z1,ok1⟩:=tyOf_ok (X.hT s ts hs)
   obtain⟨i2,d2,z2,ok2⟩:=tyOf_ok (X.hT d td htd)
   split at he
   · rename_i k0 k h1 h2
     have e1:=ok1.sh;rw[h1] at e1;obtain rfl:=shOf_int e1
     have e2:=ok2.sh;rw[h2] at e2;obtain rfl:=shOf_int e2
     obtain⟨rfl,rfl⟩:=int1_eq he
     refine OpOk.pure hS (v:=.int k (k.wrap n)) ?_ ⟨rfl,VR.int _ _⟩
     simp only[execOp,ho,hx.int,convert,Sem.run_bind,ok1.run_und,ok2.run_und,Result.andThen_ok,Conv.intToInt,Sem.run_pure]
   · cases he
 · cases he
theorem ok_nil(hS:ESt X E nt H β tm h a w){x:Operand}(ho:o.op=.nilCheck x){r:ES}{ws:Wr}(he:eNil (evE tm x)=some (r,ws)):OpOk X E H β h a w o r ws:=by
 have hx:=ev_okE hS x
 unfold eNil at he
 split at he
 · rename_i g u off hxe
   rw[hxe] at hx
   simp only[Option.some.injEq,Prod.mk.injEq] at he
   obtain⟨rfl,rfl⟩:=he
   obtain⟨k,hk,hv⟩:=hx
   refine OpOk.pure hS (v:=.pointer (some ⟨k.1,off,none⟩)) ?_ ⟨k,hk,rfl⟩
   simp only[execOp,ho,hv,Sem.run_pure]
 · rename_i y off hxe
   rw[hxe] at hx
   simp only[Option.some.injEq,Prod.mk.injEq] at he
   obtain⟨rfl,rfl⟩:=he
   obtain⟨b,base,v,arr,hv,q1,q2,q3⟩:=hx
   refine OpOk.pure hS (v:=.pointer (some ⟨b,base+off,none⟩)) ?_ ⟨b,base,v,arr,rfl,q1,q2,q3⟩
   simp only[execOp,ho,hv,Sem.run_pure]
 · cases he
end
section
variable {X:EX}{E:EEnv}{nt:Nat}{H H':Heap}{β β':Bm}{tm:Nat→ES}{h h':Hp}{a:Act}{w w':World}{o:Oper}
theorem bdE_ok(hS:ESt X E nt H β tm h a w){v:Option Operand}{d m:Nat}(he:bdE (v.map (evE tm)) d=some m):Bd (v.map a.eval) d m:=by
 unfold bdE at he
 cases v with
 |none=>simp only[Option.map_none,Option.some.injEq] at he;exact .inl ⟨rfl,he.symm⟩
 |some x =>
  have hx:=ev_okE hS x
  simp only[Option.map_some] at he
  split at he
  · rename_i hh;cases hh
  · rename_i k m' hh
    simp only[Option.some.injEq] at hh he
    subst he
    rw[hh] at hx
    have:=hx.int
    exact .inr ⟨k,by simp only[Option.map_some,this];rfl⟩
  · cases he
theorem knE_le(hS:ESim X.Z E H β h w){g u off n sz c:Nat}{k:Nat×Nat}(hk:β g u=some k)(hn:n≤c)(hc:off+c*sz=k.2):knE (h g) u off n sz≤c:=by
 unfold knE
 split
 · rename_i e cs fz vs cnt hg
   split
   · rename_i p hv
     cases hb:(Nat.ble (off+n*sz) p&&Nat.blt 0 sz) with
     |false=>exact hn
     |true =>
      simp only[cond_true]
      simp only[Bool.and_eq_true] at hb
      have h1:=Nat.le_of_ble_eq_true hb.1
      have h2:0<sz:=Nat.lt_of_succ_le (by simpa[Nat.blt] using hb.2)
      obtain⟨_,k',arr,d1,d2,d3,d4,d5,d6,d7,d8⟩:=(hS.obj g _ hg).2 u p (verE_mem hv)
      rw[hk] at d1;cases d1
      refine Nat.div_le_of_le_mul ?_
      rw[Nat.mul_comm];omega
   · exact hn
 · exact hn
theorem run_sliceE{P:Program}(w:World){t e:TypeId}{te:TY}{ie:TypeInfo}{de:TypeDesc}{ze:Value}(hund:P.underlying t=some (.slice e))(oke:TyOk P e te ie de ze){b off n c:Nat}{lo hi mx:Option Value}{l u m:Nat}
 (hlo:Bd lo 0 l) (hhi:Bd hi n u) (hmx:mx=none∨∃k,mx=some (.int k ((m:Nat):Int))) (hm:mx=none→m=c) (hx:mx=none∨hi≠none) (h1:l≤u) (h2:u≤m) (h3:m≤c) :
 (Instr.sliceAt t (.slice (some ⟨b,off,none⟩) n c) lo hi mx).run P w=.ok (.slice (some ⟨b,bif Nat.beq m l then off else off+l*te.size,none⟩) (u-l) (m-l)) w:=by
 have hb:=run_bounds (P:=P) (isS:=true) (len:=n) (cap:=c) (m:=m) w hlo hhi hmx hm hx h1 h2 h3
 have hu:(underlying t).run P w=.ok (.slice e) w:=run_underlying hund w
 simp only[Instr.sliceAt,Instr.slice,Sem.run_bind,hu,Result.andThen_ok,hb,oke.run_size,Sem.run_pure,Option.map_some,add_mk]
 by_cases hml:m=l
 · rw[if_pos hml,hml,Nat.beq_refl,cond_true]
 · rw[if_neg hml,beq_f hml,cond_false]
theorem ok_slice(hS:ESt X E nt H β tm h a w){t:TypeId}{x:Operand}{lo hi mx:Option Operand}(ho:o.op=.slice t x lo hi mx){r:ES}{ws:Wr}(he:eSlice X.T h t (evE tm x) (lo.map (evE tm)) (hi.map (evE tm)) (mx.map (evE tm))=some (r,ws)):OpOk X E H β h a w o r ws:=by
 have hx:=ev_okE hS x
 unfold eSlice at he
 split at he
 · rename_i ty ht
   obtain⟨i,d,z,ok⟩:=tyOf_ok (X.hT t ty ht)
   have hd':=ok.sh
   split at he
   · rename_i e g u off n cap hsh hxe
     rw[hsh] at hd'
     obtain rfl:=shOf_slice hd'
     rw[hxe] at hx
     obtain⟨k,c0,hk,hxv,hn,hcap⟩:=hx
     split at he
     · rename_i te hte
       obtain⟨ie,de,ze,oke⟩:=tyOf_ok (X.hT e te hte)
       split at he
       · rename_i l u' hl hu
         have hlo:=bdE_ok hS hl
         have hhi:=bdE_ok hS hu
         have run:∀{m:Nat},(mx.map a.eval=none∨∃k,mx.map a.eval=some (.int k ((m:Nat):Int)))→(mx.map a.eval=none→m=c0)→(mx.map a.eval=none∨hi.map a.eval≠none)→l≤u'→u'≤m→m≤c0→
          (execOp a.eval o).run X.P w=.ok (.value (.slice (some ⟨k.1,bif Nat.beq m l then off else off+l*te.size,none⟩) (u'-l) (m-l))) w:=fun q1 q2 q3 q4 q5 q6=>by
          have:=run_sliceE (P:=X.P) w ok.und oke (b:=k.1) (off:=off) (n:=n) (c:=c0) hlo hhi q1 q2 q3 q4 q5 q6
          simp only[execOp,ho,hxv,Sem.run_bind,this,Result.andThen_ok,Sem.run_pure]
         split at he
         · -- no third bound, a known capacity
           rename_i c hmx
           have hmx':mx.map a.eval=none:=by cases mx with|none=>rfl|some _=>cases hmx
           have hcc:c0=c:=hcap
           subst hcc
           cases hb:(Nat.ble l u'&&Nat.ble u' c0) with
           |false=>rw[hb] at he;cases he
           |true =>
            rw[hb,forceN_eq,forceN_eq,forceN_eq] at he
            simp only[cond_true,Option.some.injEq,Prod.mk.injEq] at he
            obtain⟨rfl,rfl⟩:=he
            simp only[Bool.and_eq_true] at hb
            have b1:=Nat.le_of_ble_eq_true hb.1
            have b2:=Nat.le_of_ble_eq_true hb.2
            exact OpOk.pure hS (run (m:=c0) (.inl hmx') (fun _=>rfl) (.inl hmx') b1 b2 (Nat.le_refl _)) ⟨k,c0-l,hk,rfl,by omega,rfl⟩
         · rename_i sz hmx
           have hmx':mx.map a.eval=none:=by cases mx with|none=>rfl|some _=>cases hmx
           have hcap:off+c0*sz=k.2:=hcap
           rw[forceN_eq] at he
           have hkn:=knE_le hS.sim (sz:=sz) hk hn hcap
           generalize knE (h g) u off n sz=kn at he hkn
           cases hb:(Nat.ble l u'&&Nat.ble u' kn&&Nat.blt l kn&&Nat.beq sz te.size) with
           |true =>
            rw[hb,forceN_eq,forceN_eq] at he
            simp only[cond_true,Option.some.injEq,Prod.mk.injEq] at he
            obtain⟨rfl,rfl⟩:=he
            simp only[Bool.and_eq_true] at hb
            obtain⟨⟨⟨b1,b2⟩,b3⟩,b4⟩:=hb
            have b1:=Nat.le_of_ble_eq_true b1
            have b2:=Nat.le_of_ble_eq_true b2
            have b3:l<kn:=Nat.lt_of_succ_le (by simpa[Nat.blt] using b3)
            have b4:=Nat.eq_of_beq_eq_true b4
            subst b4
            have hr:=run (m:=c0) (.inl hmx') (fun _=>rfl) (.inl hmx') b1 (by omega) (Nat.le_refl _)
            rw[beq_f (show c0≠l by omega),cond_false] at hr
            refine OpOk.pure hS hr ⟨k,c0-l,hk,rfl,by omega,?_⟩
            show off+l*te.size+(c0-l)*te.size=k.2
            rw[←hcap,Nat.add_assoc,←Nat.add_mul];congr 2;omega
           |false =>
            rw[hb] at he
            simp only[cond_false] at he
            cases hb2:(Nat.beq l u'&&Nat.ble u' kn&&Nat.beq sz te.size) with
            |false=>rw[hb2] at he;cases he
            |true =>
             rw[hb2] at he
             simp only[cond_true,Option.some.injEq,Prod.mk.injEq] at he
             obtain⟨rfl,rfl⟩:=he
             simp only[Bool.and_eq_true] at hb2
             have b1:=Nat.eq_of_beq_eq_true hb2.1.1
             have b2:=Nat.le_of_ble_eq_true hb2.1.2
             subst b1
             have hr:=run (m:=c0) (.inl hmx') (fun _=>rfl) (.inl hmx') (Nat.le_refl _) (by omega) (Nat.le_refl _)
             rw[Nat.sub_self] at hr
             exact OpOk.pure hS hr ⟨rfl,VR.sl0 _ _⟩
         · rename_i m0 c hmx
           split at he
           · rename_i m _ hm0 hhi0
             have hmm:=bdE_ok hS (v:=mx) (d:=0) (m:=m) (by rw[hmx];exact hm0)
             have hne:mx≠none:=fun e=>by rw[e] at hmx;cases hmx
             have hmx2:mx.map a.eval=none∨∃k,mx.map a.eval=some (.int k ((m:Nat):Int)):=hmm.mx
             have hnn:mx.map a.eval≠none:=by cases mx with|none=>exact absurd rfl hne|some _=>simp
             have hhn:hi.map a.eval≠none:=by cases hi with|none=>cases hhi0|some _=>simp
             have hcc:c0=c:=hcap
             subst hcc
             cases hb:(Nat.ble l u'&&Nat.ble u' m&&Nat.ble m c0) with
             |false=>rw[hb] at he;cases he
             |true =>
              rw[hb,forceN_eq,forceN_eq,forceN_eq] at he
              simp only[cond_true,Option.some.injEq,Prod.mk.injEq] at he
              obtain⟨rfl,rfl⟩:=he
              simp only[Bool.and_eq_true] at hb
              have b1:=Nat.le_of_ble_eq_true hb.1.1
              have b2:=Nat.le_of_ble_eq_true hb.1.2
              have b3:=Nat.le_of_ble_eq_true hb.2
              exact OpOk.pure hS (run hmx2 (fun e=>absurd e hnn) (.inr hhn) b1 b2 b3) ⟨k,m-l,hk,rfl,by omega,rfl⟩
           · cases he
         · rename_i m0 sz hmx
           split at he
           · rename_i m _ hm0 hhi0
             have hmm:=bdE_ok hS (v:=mx) (d:=0) (m:=m) (by rw[hmx];exact hm0)
             have hne:mx≠none:=fun e=>by rw[e] at hmx;cases hmx
             have hmx2:mx.map a.eval=none∨∃k,mx.map a.eval=some (.int k ((m:Nat):Int)):=hmm.mx
             have hnn:mx.map a.eval≠none:=by cases mx with|none=>exact absurd rfl hne|some _=>simp
             have hhn:hi.map a.eval≠none:=by cases hi with|none=>cases hhi0|some _=>simp
             cases hb:(Nat.ble l u'&&Nat.ble u' m&&Nat.ble m n) with
             |false=>rw[hb] at he;cases he
             |true =>
              rw[hb,forceN_eq,forceN_eq,forceN_eq] at he
              simp only[cond_true,Option.some.injEq,Prod.mk.injEq] at he
              obtain⟨rfl,rfl⟩:=he
              simp only[Bool.and_eq_true] at hb
              have b1:=Nat.le_of_ble_eq_true hb.1.1
              have b2:=Nat.le_of_ble_eq_true hb.1.2
              have b3:=Nat.le_of_ble_eq_true hb.2
              exact OpOk.pure hS (run hmx2 (fun e=>absurd e hnn) (.inr hhn) b1 b2 (by omega)) ⟨k,m-l,hk,rfl,by omega,rfl⟩
           · cases he
       · cases he
     · cases he
   · rename_i e es hsh hxe
     rw[hsh] at hd'
     obtain rfl:=shOf_slice hd'
     rw[hxe] at hx
     have hxd:VR H (a.eval x) (.sl es):=hx.2
     split at he
     · rename_i te l u hte hl hu hmx
       obtain⟨ie,de,ze,oke⟩:=tyOf_ok (X.hT e te hte)
       have hlo:=bdE_ok hS hl
       have hhi:=bdE_ok hS hu
       have emx:mx=none:=by cases mx with|none=>rfl|some _=>cases hmx
       subst emx
       cases hb:(Nat.ble l u&&Nat.ble u es.length&&(Nat.beq l 0||allSz te.size es)) with
       |false=>rw[hb] at he;cases he
       |true =>
        rw[hb] at he
        simp only[cond_true,Option.some.injEq,Prod.mk.injEq] at he
        obtain⟨rfl,rfl⟩:=he
        simp only[Bool.and_eq_true,Bool.or_eq_true] at hb
        have h1:=Nat.le_of_ble_eq_true hb.1.1
        have h3:=Nat.le_of_ble_eq_true hb.1.2
        have hel:l=0∨∀y∈es,y.cells.length=te.size:=hb.2.imp Nat.eq_of_beq_eq_true fun hh y hy=>by
         have:=List.all_eq_true.1 hh y hy
         simp only[Bool.and_eq_true] at this
         exact Nat.eq_of_beq_eq_true this.1
        generalize hev:a.eval x=ev at hxd
        have key:∀(ad:Option Addr) (n cap:Nat),ev=.slice ad n cap→n=es.length→n≤cap→(execOp a.eval o).run X.P w=.ok (.value (.slice (if cap=l then ad else ad.map (·.add (l*te.size))) (u-l) (cap-l))) w:=by
         intro ad n cap hevs hn hc
         have hb:=run_bounds (P:=X.P) (isS:=true) (mx:=none) (len:=n) (cap:=cap) (m:=cap) w hlo (by rw[hn];exact hhi) (.inl rfl) (fun _=>rfl) (.inl rfl) h1 (by omega) (Nat.le_refl _)
         simp only[execOp,ho,hev,hevs,Instr.sliceAt,Instr.slice,Sem.run_bind,ok.run_und,Result.andThen_ok,Option.map_none,hb,oke.run_size,Sem.run_pure]
        by_cases hlu:u=l
        · have hes:(es.take u).drop l=[]:=by rw[hlu];simp
          rw[hes]
          cases hxd with
          |sl0 ad cap =>
           have hr:=key ad 0 cap rfl rfl (Nat.zero_le _)
           rw[hlu,Nat.sub_self] at hr
           exact OpOk.pure hS hr ⟨rfl,VR.sl0 _ _⟩
          |sl b off n cap sz arr vs _ hb hs hn hc hz ha =>
           have hr:=key _ n cap rfl hn hc
           rw[hlu,Nat.sub_self] at hr
           exact OpOk.pure hS hr ⟨rfl,VR.sl0 _ _⟩
        · cases hxd with
          |sl0 ad cap=>simp at h3;omega
          |sl b off n cap sz arr vs _ hb hs hn hc hz ha =>
           have hr:=key _ n cap rfl hn hc
           have hvl:=hs.length
           have hne:¬cap=l:=by omega
           rw[if_neg hne,Option.map_some,add_mk] at hr
           have hadd:off+l*te.size=off+l*sz:=by
            rcases hel with hel|hel
            · rw[hel];simp
            · have h0:0<vs.length:=by omega
              have hv0:=hz _ (List.getElem_mem h0)
              obtain⟨y,hy⟩:∃y,es[0]?=some y:=⟨_,List.getElem?_eq_getElem (show 0<es.length by omega)⟩
              obtain⟨u0,e1,e2⟩:=hs.get 0 y hy
              have e3:vs[0]=u0:=(List.getElem?_eq_some_iff.1 e1).2
              have:=hel y (List.mem_of_getElem? hy)
              rw[←e2.size,←e3,hv0] at this
              rw[this]
           rw[hadd] at hr
           refine OpOk.pure hS hr ⟨rfl,?_⟩
           have hzz:∀v∈(vs.take u).drop l,v.cells.size=sz:=fun v hv=>hz v (List.mem_of_mem_take (List.mem_of_mem_drop hv))
           have hlen:((vs.take u).drop l).length=u-l:=by simp;omega
           refine VR.sl b (off+l*sz) (u-l) (cap-l) sz arr ((vs.take u).drop l) _ hb ((hs.take u).drop l) (by simp;omega) (by omega) hzz ?_
           rw[hlen,←flat_drop l (fun v hv=>hz v (List.mem_of_mem_take hv)),←flat_take u hz,←ha,←List.drop_drop]
           rw[List.take_take,Nat.min_eq_left (Nat.mul_le_mul_right _ (by omega)),List.drop_take,←Nat.sub_mul]
     · cases he
   · rename_i n e g u off hsh hxe
     rw[hsh] at hd'
     obtain rfl:=shOf_array hd'
     rw[hxe] at hx
     obtain⟨k,hk,hxv⟩:=hx
     split at he
     · rename_i te hte hl hh hm
       obtain⟨ie,de,ze,oke⟩:=tyOf_ok (X.hT e te hte)
       simp only[Option.some.injEq,Prod.mk.injEq] at he
       obtain⟨rfl,rfl⟩:=he
       have e1:lo=none:=by cases lo with|none=>rfl|some _=>cases hl
       have e2:hi=none:=by cases hi with|none=>rfl|some _=>cases hh
       have e3:mx=none:=by cases mx with|none=>rfl|some _=>cases hm
       subst e1 e2 e3
       refine OpOk.pure hS (v:=.slice (some ⟨k.1,off,none⟩) n n) ?_ ⟨k,n,hk,rfl,Nat.le_refl _,rfl⟩
       have hb:=run_bounds (P:=X.P) (lo:=none) (hi:=none) (mx:=none) (isS:=false) (len:=n) (cap:=n) (l:=0) (h:=n) (m:=n) w (.inl ⟨rfl,rfl⟩) (.inl ⟨rfl,rfl⟩) (.inl rfl) (fun _=>rfl) (.inl rfl) (Nat.zero_le _) (Nat.le_refl _) (Nat.le_refl _)
       simp only[execOp,ho,hxv,Instr.sliceAt,Sem.run_bind,ok.run_und,Result.andThen_ok,Instr.sureAddr,Sem.run_pure,Option.map_none,hb,oke.run_size,Nat.zero_mul,Nat.sub_zero]
       by_cases h0:n=0
       · rw[if_pos h0]
       · rw[if_neg h0];rfl
     · cases he
   · cases he
 · cases he
theorem ok_len(hS:ESt X E nt H β tm h a w){x:Operand}{t:TypeId}(ho:o.op=.call { callee:=.builtin .len,args := #[x],argTypes := #[t] }){r:ES}{ws:Wr}(he:eLen X.T t (evE tm x)=some (r,ws)):OpOk X E H β h a w o r ws:=by
 have hx:=ev_okE hS x
 have fin:∀{ty:TY} {e:TypeId} {ad:Option Addr} {n c:Nat},X.T t=some ty→ty.sh=.slice e→a.eval x=.slice ad n c→OpOk X E H β h a w o (iv1 (.int .i64 n)) []:=fun{ty e ad n c} ht hsh hxv=>by
  obtain⟨i,d,z,ok⟩:=tyOf_ok (X.hT t ty ht)
  have hd':=ok.sh
  rw[hsh] at hd'
  obtain rfl:=shOf_slice hd'
  refine OpOk.pure hS (v:=.int .i64 n) ?_ ⟨rfl,VR.int _ _⟩
  have hrun:(Builtin.len_ #[t] o.type #[.slice ad n c]).run X.P w=.ok (.int .i64 n) w:=by
   simp only[Builtin.len_,List.getElem?_toArray,List.getElem?_cons_zero,Sem.run_bind,ok.run_und,Result.andThen_ok,Sem.run_pure,goInt]
  simp only[execOp,ho,resolve,invoke,builtin,Sem.run_bind,Sem.run_pure,Result.andThen_ok,List.map_toArray,List.map_cons,List.map_nil,hxv,hrun]
 unfold eLen at he
 split at he
 · rename_i ty _ _ _ n _ ht hxe
   rw[hxe] at hx
   obtain⟨k,c,hk,hxv,_⟩:=hx
   split at he
   · rename_i e hsh
     simp only[Option.some.injEq,Prod.mk.injEq] at he
     obtain⟨rfl,rfl⟩:=he
     exact fin ht hsh hxv
   · cases he
 · rename_i ty ht hxe
   rw[hxe] at hx
   have hxv:=asNilS hx.2
   split at he
   · rename_i e hsh
     simp only[Option.some.injEq,Prod.mk.injEq] at he
     obtain⟨rfl,rfl⟩:=he
     exact fin ht hsh hxv
   · cases he
 · rename_i ty es ht hxe
   rw[hxe] at hx
   have hxv:∃ad c,a.eval x=.slice ad es.length c:=by
    rcases VR.asSl hx.2 with⟨h0,ad,cap,hh⟩|⟨b,off,cap,sz,arr,vs,hh,_⟩
    · subst h0;exact⟨ad,cap,hh⟩
    · exact⟨_,cap,hh⟩
   obtain⟨ad,c,hxv⟩:=hxv
   split at he
   · rename_i e hsh
     obtain⟨rfl,rfl⟩:=int1_eq he
     exact fin ht hsh hxv
   · cases he
 · rename_i ty l ht hxe
   rw[hxe] at hx
   obtain⟨bs,hxv,hbs⟩:=VR.asStr hx.2
   obtain⟨i,d,z,ok⟩:=tyOf_ok (X.hT t ty ht)
   have hd':=ok.sh
   split at he
   · rename_i hsh
     rw[hsh] at hd'
     obtain rfl:=shOf_string hd'
     obtain⟨rfl,rfl⟩:=int1_eq he
     have hsz:bs.size=l.length:=by rw[←hbs,Array.length_toList];rfl
     refine OpOk.pure hS (v:=.int .i64 l.length) ?_ ⟨rfl,VR.int _ _⟩
     have hrun:(Builtin.len_ #[t] o.type #[.string bs]).run X.P w=.ok (.int .i64 l.length) w:=by
      simp only[Builtin.len_,List.getElem?_toArray,List.getElem?_cons_zero,Sem.run_bind,ok.run_und,Result.andThen_ok,Sem.run_pure,goInt,hsz]
     simp only[execOp,ho,resolve,invoke,builtin,Sem.run_bind,Sem.run_pure,Result.andThen_ok,List.map_toArray,List.map_cons,List.map_nil,hxv,hrun]
   · cases he
 · cases he
theorem ok_mm(hS:ESt X E nt H β tm h a w){x y:Operand}{ts:Array TypeId}{mx:Bool}(ho:o.op=.call { callee:=.builtin (bif mx then .max else .min),args := #[x,y],argTypes:=ts }){r:ES}{ws:Wr}(he:eMM mx (evE tm x) (evE tm y)=some (r,ws)):OpOk X E H β h a w o r ws:=by
 have hx:=ev_okE hS x
 have hy:=ev_okE hS y
 unfold eMM at he
 split at he
 · rename_i k p k' q hxe hye
   rw[hxe] at hx
   rw[hye] at hy
   cases mx with
   |true =>
    simp only[cond_true] at he ho
    obtain⟨rfl,rfl⟩:=int1_eq he
    refine OpOk.pure hS (v:=.int k (if q>p then q else p)) ?_ ⟨rfl,VR.int _ _⟩
    simp only[execOp,ho,resolve,invoke,builtin,Sem.run_bind,Sem.run_pure,Result.andThen_ok,List.map_toArray,List.map_cons,List.map_nil,hx.int,hy.int,run_max_int2]
   |false =>
    simp only[cond_false] at he ho
    obtain⟨rfl,rfl⟩:=int1_eq he
    refine OpOk.pure hS (v:=.int k (if q<p then q else p)) ?_ ⟨rfl,VR.int _ _⟩
    simp only[execOp,ho,resolve,invoke,builtin,Sem.run_bind,Sem.run_pure,Result.andThen_ok,List.map_toArray,List.map_cons,List.map_nil,hx.int,hy.int,run_min_int2]
 · cases he
theorem srcE_ok(hS:ESim X.Z E H β h w){v:Value}{x:ES}(hv:SRe X.Z H β v x){sz m:Nat}{news:List EV}(he:srcE h sz x=some (news,m)) :
 ∃ad c us,v=.slice ad m c∧CRL X.Z H β us news∧us.length=m*sz∧(0<m→∃a,ad=some a∧∀j u,us[j]?=some u→w.cell? (a.add j)=some u):=by
 unfold srcE at he
 split at he
 · rename_i g u off n cap
   obtain⟨k,c,hk,hxv,hn,_⟩:=hv
   cases hr:rdO (h g) u off (n*sz) with
   |none=>rw[hr] at he;cases he
   |some l =>
    rw[hr] at he
    simp only[Option.map_some,Option.some.injEq,Prod.mk.injEq] at he
    obtain⟨rfl,rfl⟩:=he
    obtain⟨k',arr,e,h1,h2,h3,h4,h5,h6⟩:=rdO_ok hS hr
    rw[hk] at h1;cases h1
    refine⟨_,c,_,hxv,h4,by rw[h4.length,h6],fun _=>⟨_,rfl,fun j u hj=>?_⟩⟩
    rw[add_mk,cell_of_row w _ _ arr e (0,0) h2]
    rw[List.getElem?_take] at hj
    split at hj
    · simpa using hj
    · simp at hj
 · simp only[Option.some.injEq,Prod.mk.injEq] at he
   obtain⟨rfl,rfl⟩:=he
   exact⟨_,_,[],asNilS hv.2,trivial,by simp,fun hh=>absurd hh (by omega)⟩
 · rename_i es
   cases hb:allSz sz es with
   |false=>rw[hb] at he;cases he
   |true =>
    rw[hb] at he
    simp only[cond_true,Option.some.injEq,Prod.mk.injEq] at he
    obtain⟨rfl,rfl⟩:=he
    have hz:∀y∈es,y.cells.length=sz∧y.isTup=false:=fun y hy=>by
     have:=List.all_eq_true.1 hb y hy
     simp only[Bool.and_eq_true,Bool.not_eq_true'] at this
     exact⟨Nat.eq_of_beq_eq_true this.1,this.2⟩
    obtain⟨ad,cap,vs,e1,e2,e3,e4,e5⟩:=sl_cells hS.has hv.2 hz
    have hvl:=e2.length
    have hcells:∀{vs:List Value} {es:List IV},VRL H vs es→VRL H (flat vs) (es.flatMap IV.cells):=by
     intro vs es h
     induction vs generalizing es with
     |nil=>cases h;exact .nil
     |cons v vs ih=>cases h with
      |cons _ x _ xs h1 h2=>simpa[flat,List.flatMap_cons] using(VR.cells h1).append (ih h2)
    refine⟨ad,cap,flat vs,e1,CRL.of_iv (hcells e2) (fun c hc=>?_),?_,fun h0=>?_⟩
    · obtain⟨u,hu,hc⟩:=List.mem_flatMap.1 hc
      exact e4 u hu c hc
    · rw[flat_length e3,hvl]
    · obtain⟨b,off,rfl,hcell⟩:=e5 (fun e=>by rw[e] at h0;simp at h0)
      exact⟨_,rfl,fun j u hj=>by rw[add_mk];exact hcell j u hj⟩
 · cases he
end
section
variable {X:EX}{E:EEnv}{nt:Nat}{H H':Heap}{β β':Bm}{tm:Nat→ES}{h h':Hp}{a:Act}{w w':World}{o:Oper}
theorem run_append_roomO{P:Program}(w:World)(t ty e:TypeId)(i:TypeInfo)(ht:P.underlying t=some (.slice e))(hi:P.info? e=some i)
 (g off sLen sCap:Nat) (cur:Array Value) {e':TypeId} (hg:w.heap[g]?=some (.cells cur e' (0,0)))
 (a:Addr) (m c:Nat) (news:List Value) (hl:news.length=m*i.size) (hnews:∀j u,news[j]?=some u→w.cell? (a.add j)=some u) (h1:∀u∈news,u.oneCell'=true)
 (hroom:sLen+m≤sCap) (hfit:off+sLen*i.size+news.length≤cur.size) :
 (Builtin.append_ #[t,t] ty #[.slice (some ⟨g,off,none⟩) sLen sCap,.slice (some a) m c]).run P w =
   .ok (.slice (some ⟨g,off,none⟩) (sLen+m) sCap) (w.setRow g (splice cur.toList (off+sLen*i.size) news).toArray):=by
 have hf:=run_firstCells_some (P:=P) w i.size m a m c news hl hnews
 have hst:=run_storeCells_at P g (off+sLen*i.size) e' news 0 cur w hg (by simpa using hfit) h1
 simp only[Nat.add_zero] at hst
 simp[Builtin.append_,run_underlying ht,sizeOf,typeInfo,hi,Builtin.lenOf,hroom,hf,add_mk,hst,Fl.splice]
theorem lastE_mem{vs:List (Nat×Nat)}{p:Nat×Nat}(h:p∈lastE vs):p∈vs:=List.mem_of_mem_take h
theorem ok_append(hS:ESt X E nt H β tm h a w){s x:Operand}{t:TypeId}(ho:o.op=.call { callee:=.builtin .append,args := #[s,x],argTypes := #[t,t] }){g:Nat}{r:ES}{ws:Wr}(he:eAppend X.T h g t (evE tm s) (evE tm x)=some (r,ws)):OpOk X E H β h a w o r ws:=by
 have hs:=ev_okE hS s
 have hx:=ev_okE hS x
 unfold eAppend at he
 split at he
 · rename_i ty ht
   obtain⟨i,d,z,ok⟩:=tyOf_ok (X.hT t ty ht)
   have hd':=ok.sh
   split at he
   · rename_i e hsh
     rw[hsh] at hd'
     obtain rfl:=shOf_slice hd'
     split at he
     · rename_i te hte
       obtain⟨ie,de,ze,oke⟩:=tyOf_ok (X.hT e te hte)
       cases hp:(Nat.blt 0 te.size&&Nat.beq te.zero.cells.length te.size) with
       |false=>rw[hp] at he;cases he
       |true =>
        rw[hp] at he
        simp only[cond_true] at he
        simp only[Bool.and_eq_true] at hp
        have hp':0<te.size:=Nat.lt_of_succ_le (by simpa[Nat.blt] using hp.1)
        have hzc:ze.cells.size=te.size:=by rw[(oke.vr H).size,Nat.eq_of_beq_eq_true hp.2]
        split at he
        · rename_i news m hsrc
          obtain⟨ad,cx,us,hxv,hus,hul,hcell⟩:=srcE_ok hS.sim hx hsrc
          have hnl:news.length=m*te.size:=by rw[←hus.length,hul]
          have exec:∀{v p:Value} {w':World},a.eval s=p→(Builtin.append_ #[t,t] o.type #[p,.slice ad m cx]).run X.P w=.ok v w'→(execOp a.eval o).run X.P w=.ok (.value v) w':=fun hp hr=>by
           simp only[execOp,ho,resolve,invoke,builtin,Sem.run_bind,Sem.run_pure,Result.andThen_ok,List.map_toArray,List.map_cons,List.map_nil,hp,hxv,hr]
          have zer:∀{v:Value} {ad':Option Addr} {n c:Nat},m=0→a.eval s=v→v=.slice ad' n c→n≤c→(execOp a.eval o).run X.P w=.ok (.value v) w:=fun hm hv hv' hnc=>by
           subst hm
           refine exec hv ?_
           rw[hv']
           exact run_append_empty X.P w t o.type e ie ok.und oke.info _ _ _ hnc ad cx
          split at he
          · -- onto nil
            rename_i hse
            rw[hse] at hs
            have hsv:=asNilS hs.2
            cases hm:Nat.beq m 0 with
            |true =>
             rw[hm] at he
             simp only[cond_true,Option.some.injEq,Prod.mk.injEq] at he
             obtain⟨rfl,rfl⟩:=he
             have hr:=zer (Nat.eq_of_beq_eq_true hm) rfl hsv (Nat.le_refl _)
             refine OpOk.pure hS hr ?_
             rw[hse];exact hs
            |false =>
             rw[hm] at he
             simp only[cond_false] at he
             have hm0:0<m:=Nat.pos_of_ne_zero (Nat.ne_of_beq_eq_false hm)
             obtain⟨A,rfl,hA⟩:=hcell hm0
             cases hb:(Nat.ble m 1000000&&Nat.ble (m*te.bytes) 140737488355328) with
             |false=>rw[hb] at he;cases he
             |true =>
              rw[hb] at he
              simp only[cond_true] at he
              simp only[Bool.and_eq_true] at hb
              have b1:=Nat.le_of_ble_eq_true hb.1
              have b2:=Nat.le_of_ble_eq_true hb.2
              have hr:=run_append_nil (P:=X.P) w t o.type e ie ze ok.und oke.info oke.zero A m cx us (by rw[hul,oke.size]) hA hm0 (by omega) (by rw[oke.bytes];omega)
              generalize hcap:grownCap w m 0 e=C at hr
              have hge:m≤C:=by rw[←hcap];exact grownCap_ge _ _ _ _
              have hz:=(oke.vr H).cells
              have hS2:ESt X E nt H β tm h a w.drew:=⟨hS.sim.same rfl rfl rfl rfl,hS.slot,hS.size⟩
              obtain⟨β',c1,c2,c3,c4,rfl⟩:=newM_ok hS2 he (arr:=us.toArray++Builtin.zeroCells ze.cells (C-m)) (by
               rw[Array.toList_append]
               simp only
               rw[List.take_append_of_le_length (by omega),List.take_of_length_le (by omega)];exact hus) (by simp;omega)
              refine⟨_,_,β',.inl (exec hsv hr),c1,c3,fun D hD=>c4 D hD,⟨_,C,c2,rfl,hge,?_⟩⟩
              show 0+C*te.size=(us.toArray++Builtin.zeroCells ze.cells (C-m)).size
              simp only[Array.size_append,List.size_toArray,size_zeroCells',hzc,hul,←Nat.add_mul,Nat.zero_add]
              congr 1;omega
          · rename_i g1 u1 off1 n1 cap hse
            rw[hse] at hs
            obtain⟨k,c0,hk,hsv,hn,hcap⟩:=hs
            cases hm:Nat.beq m 0 with
            |true =>
             rw[hm] at he
             simp only[cond_true,Option.some.injEq,Prod.mk.injEq] at he
             obtain⟨rfl,rfl⟩:=he
             have hr:=zer (Nat.eq_of_beq_eq_true hm) rfl hsv hn
             refine OpOk.pure hS hr ?_
             rw[hse];exact⟨k,c0,hk,hsv,hn,hcap⟩
            |false =>
             rw[hm] at he
             simp only[cond_false] at he
             have hm0:0<m:=Nat.pos_of_ne_zero (Nat.ne_of_beq_eq_false hm)
             obtain⟨A,rfl,hA⟩:=hcell hm0
             cases hb:(Nat.ble (n1+m) 1000000&&Nat.ble ((n1+m)*te.bytes) 140737488355328) with
             |false=>rw[hb] at he;cases he
             |true =>
              rw[hb] at he
              simp only[cond_true] at he
              simp only[Bool.and_eq_true] at hb
              have b1:=Nat.le_of_ble_eq_true hb.1
              have b2:=Nat.le_of_ble_eq_true hb.2
              -- in place, for sure
              have room:∀{o':EO},wrO (h g1) u1 (off1+n1*te.size) news=some o'→n1+m≤c0→OpOk X E H β h a w o (.w (.one (.slc g1 u1 off1 (n1+m) cap))) [(g1,o')]:=fun hw hc=>by
               obtain⟨k',arr,e2,h1,h2,h3,h4,h5,h6⟩:=wrO_ok hS.sim hw hus
               rw[hk] at h1;cases h1
               have hr:=run_append_roomO (P:=X.P) w t o.type e ie ok.und oke.info k.1 off1 n1 c0 arr h2 A m cx us (by rw[hul,oke.size]) hA hus.one hc (by rw[oke.size];exact h3)
               rw[oke.size] at hr
               exact⟨_,_,β,.inl (exec hsv hr),BLe.refl _,h5,h6,k,c0,hk,rfl,hc,hcap⟩
              -- a block of its own
              have grow:∀(olds:List Value),olds.length=n1*te.size→(∀j v,olds[j]?=some v→w.cell? ((⟨k.1,off1,none⟩:Addr).add j)=some v)→c0<n1+m→∃C,n1+m≤C∧(olds.toArray++us.toArray++Builtin.zeroCells ze.cells (C-(n1+m))).size=C*te.size∧
               (execOp a.eval o).run X.P w=.ok (.value (.slice (some ⟨w.heap.size,0,none⟩) (n1+m) C)) (w.drew.alloc (.cells (olds.toArray++us.toArray++Builtin.zeroCells ze.cells (C-(n1+m))) e)):=fun olds hol holds hc=>by
               have hr:=run_append_grow (P:=X.P) w t o.type e ie ze ok.und oke.info oke.zero ⟨k.1,off1,none⟩ n1 c0 olds (by rw[hol,oke.size]) holds A m cx us (by rw[hul,oke.size]) hA hc (by omega) (by rw[oke.bytes];exact growslice_fits (by omega) b2)
               generalize hcap:grownCap w (n1+m) c0 e=C at hr
               have hge:n1+m≤C:=by rw[←hcap];exact grownCap_ge _ _ _ _
               refine⟨C,hge,?_,exec hsv hr⟩
               simp only[Array.size_append,List.size_toArray,size_zeroCells',hzc,hul,hol,←Nat.add_mul]
               congr 1;omega
              have hS2:ESt X E nt H β tm h a w.drew:=⟨hS.sim.same rfl rfl rfl rfl,hS.slot,hS.size⟩
              split at he
              · -- a known capacity
                rename_i c
                have hcc:c0=c:=hcap
                subst hcc
                cases hc:Nat.ble (n1+m) c0 with
                |true =>
                 rw[hc] at he
                 simp only[cond_true] at he
                 split at he
                 · rename_i o' hw
                   rw[forceN_eq] at he
                   simp only[Option.some.injEq,Prod.mk.injEq] at he
                   obtain⟨rfl,rfl⟩:=he
                   exact room hw (Nat.le_of_ble_eq_true hc)
                 · cases he
                |false =>
                 rw[hc] at he
                 simp only[cond_false] at he
                 have hc':c0<n1+m:=by
                  rcases Nat.lt_or_ge c0 (n1+m) with h1|h1
                  · exact h1
                  · rw[Nat.ble_eq_true_of_le h1] at hc;cases hc
                 split at he
                 · rename_i olds hrd
                   obtain⟨k',arr,e2,h1,h2,h3,h4,h5,h6⟩:=rdO_ok hS.sim hrd
                   rw[hk] at h1;cases h1
                   have hol:((arr.toList.drop off1).take (n1*te.size)).length=n1*te.size:=by rw[h4.length,h6]
                   obtain⟨C,hC,hCs,hr⟩:=grow _ hol (fun j v hj=>by
                    rw[add_mk,cell_of_row w _ _ arr e2 (0,0) h2]
                    rw[List.getElem?_take] at hj
                    split at hj
                    · simpa using hj
                    · simp at hj) hc'
                   have hall:=h4.append hus
                   obtain⟨β',c1,c2,c3,c4,rfl⟩:=newM_ok hS2 he (arr:=((arr.toList.drop off1).take (n1*te.size)).toArray++us.toArray++Builtin.zeroCells ze.cells (C-(n1+m))) (by
                    rw[Array.toList_append,Array.toList_append]
                    simp only
                    rw[←hall.length,List.take_append_of_le_length (Nat.le_refl _),List.take_length];exact hall) (by rw[←hall.length];simp)
                   exact⟨_,_,β',.inl hr,c1,c3,fun D hD=>c4 D hD,⟨_,C,c2,rfl,hC,by show 0+C*te.size=_;rw[hCs];try omega⟩⟩
                 · cases he
              · -- to the block's end
                rename_i sz
                have hcap0:off1+c0*sz=k.2:=hcap
                split at he
                · rename_i e1 cs vs cnt hg
                  cases hb3:(Nat.beq sz te.size&&Nat.beq e1 e&&Nat.beq off1 0) with
                  |false=>rw[hb3] at he;cases he
                  |true =>
                   rw[hb3] at he
                   simp only[cond_true] at he
                   simp only[Bool.and_eq_true] at hb3
                   have q1:=Nat.eq_of_beq_eq_true hb3.1.1
                   have q2:=Nat.eq_of_beq_eq_true hb3.1.2
                   have q3:=Nat.eq_of_beq_eq_true hb3.2
                   subst q1 q2 q3
                   simp only[Nat.zero_add] at hcap0
                   split at he
                   · rename_i p hv
                     have hO:=hS.sim.obj g1 _ hg
                     obtain⟨hcnt,k',arr,d1,d2,d3,d4,d5,d6,d7,d8⟩:=hO.2 u1 p (verE_mem hv)
                     rw[hk] at d1;cases d1
                     have d3:H k.1=none:=hO.1 rfl u1 k hk
                     cases hc1:Nat.ble ((n1+m)*te.size) p with
                     |true =>
                      rw[hc1] at he
                      simp only[cond_true] at he
                      split at he
                      · rename_i o' hw
                        rw[forceN_eq] at he
                        simp only[Option.some.injEq,Prod.mk.injEq] at he
                        obtain⟨rfl,rfl⟩:=he
                        have hle:=Nat.le_of_ble_eq_true hc1
                        exact room hw (Nat.le_of_mul_le_mul_right (by omega) hp')
                      · cases he
                     |false =>
                      rw[hc1] at he
                      simp only[cond_false] at he
                      cases hc2:Nat.ble (n1*te.size) p with
                      |false=>rw[hc2] at he;cases he
                      |true =>
                       rw[hc2] at he
                       simp only[cond_true,forceL_eq,forceN_eq,Option.some.injEq,Prod.mk.injEq] at he
                       obtain⟨rfl,rfl⟩:=he
                       have hle:=Nat.le_of_ble_eq_true hc2
                       have hfresh:β g1 cnt=none:=by
                        cases hx:β g1 cnt with
                        |none=>rfl
                        |some kk =>
                         obtain⟨_,_,o2,ho2,hlt⟩:=hS.sim.domN hg (by simp) cnt kk hx
                         rw[hg] at ho2;cases ho2
                         exact absurd hlt (Nat.lt_irrefl _)
                       have hold:CRL X.Z H β (arr.toList.take (n1*te.size)) (cs.take (n1*te.size)):=by
                        have:=d8.take (n1*te.size)
                        rwa[List.take_take,List.take_take,Nat.min_eq_left hle] at this
                       have hall:=hold.append hus
                       have hcl:(cs.take (n1*te.size)++news).length=(n1+m)*te.size:=by
                        rw[List.length_append,List.length_take,Nat.min_eq_left (by omega),hnl,Nat.add_mul]
                       -- the versions that stay
                       have stay:∀{w':World} {β':Bm},BLe β β'→(∀u kk,β g1 u=some kk→kk.1≠k.1→w'.heap[kk.1]?=w.heap[kk.1]?)→(∃arr',w'.heap[k.1]?=some (.cells arr' e1 (0,0))∧arr'.size=arr.size∧arr'.toList.take (n1*te.size)=arr.toList.take (n1*te.size))→
                        ∀v q,(v,q)∈lastE (vs.map fun p=>(p.1,Nat.min p.2 (n1*te.size)))→v<cnt+1∧∃kk arr',β' g1 v=some kk∧E.own kk.1∧(if false then H kk.1=some arr' else H kk.1=none)∧w'.heap[kk.1]?=some (.cells arr' e1 (0,0))∧arr'.size=kk.2∧q≤(cs.take (n1*te.size)++news).length∧q≤arr'.size∧CRL X.Z H β' (arr'.toList.take q) ((cs.take (n1*te.size)++news).take q):=fun{w' β'} hB hoth ⟨arr',x1,x2,x3⟩ v q hvq=>by
                        obtain⟨pp,hpp,epp⟩:=List.mem_map.1 (lastE_mem hvq)
                        obtain⟨v',q'⟩:=pp
                        simp only[Prod.mk.injEq] at epp
                        obtain⟨rfl,eq⟩:=epp
                        have eq':q=min q' (n1*te.size):=eq.symm
                        obtain⟨c1,kk,arr2,f1,f2,f3,f4,f5,f6,f7,f8⟩:=hO.2 v' q' hpp
                        have hq1:q≤q':=by omega
                        have hq2:q≤n1*te.size:=by omega
                        have htk:(cs.take (n1*te.size)++news).take q=cs.take q:=by
                         rw[List.take_append_of_le_length (by rw[List.length_take];omega),List.take_take,Nat.min_eq_left hq2]
                        have f8':CRL X.Z H β' (arr2.toList.take q) (cs.take q):=by
                         have:=f8.take q
                         rw[List.take_take,List.take_take,Nat.min_eq_left hq1] at this
                         exact this.mono (HLe.refl _) hB
                        have f3':H kk.1=none:=hO.1 rfl v' kk f1
                        refine⟨by omega,kk,?_⟩
                        by_cases hkk:kk.1=k.1
                        · rw[hkk,d4] at f4;cases f4
                          refine⟨arr',hB _ _ _ f1,f2,by simpa using f3',by rw[hkk];exact x1,by rw[x2];exact f5,by rw[hcl,Nat.add_mul];omega,by rw[x2];omega,?_⟩
                          rw[htk]
                          have:arr'.toList.take q=arr.toList.take q:=by
                           rw[←Nat.min_eq_left hq2,←List.take_take,x3,List.take_take]
                          rw[this];exact f8'
                        · exact⟨arr2,hB _ _ _ f1,f2,by simpa using f3',(hoth v' kk f1 hkk).trans f4,f5,by rw[hcl,Nat.add_mul];omega,by omega,by rw[htk];exact f8'⟩
                       by_cases hroom:n1+m≤c0
                       · -- in place
                         have hfit:0+n1*te.size+us.length≤arr.size:=by
                          rw[hul,d5,←hcap0,Nat.zero_add,←Nat.add_mul];exact Nat.mul_le_mul_right _ hroom
                         have hr:=run_append_roomO (P:=X.P) w t o.type e1 ie ok.und oke.info k.1 0 n1 c0 arr d4 A m cx us (by rw[hul,oke.size]) hA hus.one hroom (by rw[oke.size];exact hfit)
                         rw[oke.size,Nat.zero_add] at hr
                         have hrow:=setRow_heap w k.1 arr (splice arr.toList (n1*te.size) us).toArray e1 (0,0) d4
                         have hssz:(splice arr.toList (n1*te.size) us).toArray.size=arr.size:=by
                          simp only[List.size_toArray]
                          rw[splice_length (by simp;omega),Array.length_toList]
                         have hstk:(splice arr.toList (n1*te.size) us).toArray.toList.take (n1*te.size)=arr.toList.take (n1*te.size):=splice_take (Nat.le_refl _) (by simp;omega)
                         refine⟨_,_,updB β g1 cnt k,.inl (exec hsv hr),updB_le hfresh,hS.sim.turn (by rw[hg];simp) rfl rfl rfl (by simp) (fun k' _ hk'=>setRow_other _ _ _ _ (fun e'=>hk' u1 k hk e'.symm)) (fun u' s' hs'=>hO.1 rfl u' s' hs') (updB_le hfresh) (fun g' u' hne=>updB_other _ _ _ _ (fun e'=>hne e'.1)) (fun u' k' hk'=>?_) ⟨fun _ u' k' hk'=>?_,fun v q hvq=>?_⟩,MarkSame.row d4,k,c0,updB_same _ _ _ _,rfl,hroom,by show 0+c0*te.size=k.2;omega⟩
                         · by_cases eu:u'=cnt
                           · subst eu
                             rw[updB_same] at hk';cases hk'
                             obtain⟨hlt,hown,_⟩:=hS.sim.domN hg (by simp) u1 k hk
                             exact⟨Nat.lt_succ_self _,by simpa using hlt,hown,.inl ⟨u1,k,hk,rfl⟩⟩
                           · rw[updB_other _ _ _ _ (fun e'=>eu e'.2)] at hk'
                             obtain⟨hlt,hown,o2,ho2,hc2⟩:=hS.sim.domN hg (by simp) u' k' hk'
                             rw[hg] at ho2;cases ho2
                             exact⟨Nat.lt_succ_of_lt hc2,by simpa using hlt,hown,.inl ⟨u',k',hk',rfl⟩⟩
                         · by_cases eu:u'=cnt
                           · subst eu
                             rw[updB_same] at hk';cases hk';exact d3
                           · rw[updB_other _ _ _ _ (fun e'=>eu e'.2)] at hk'
                             exact hO.1 rfl u' k' hk'
                         · rcases List.mem_cons.1 hvq with e'|hvq
                           · simp only[Prod.mk.injEq] at e'
                             obtain⟨rfl,rfl⟩:=e'
                             refine⟨Nat.lt_succ_self _,k,_,updB_same _ _ _ _,d2,by simpa using d3,hrow,by rw[hssz];exact d5,by rw[hcl];exact Nat.le_refl _,by rw[hssz,Nat.add_mul];omega,?_⟩
                             rw[List.take_of_length_le (Nat.le_of_eq hcl)]
                             have:(splice arr.toList (n1*te.size) us).toArray.toList.take ((n1+m)*te.size)=arr.toList.take (n1*te.size)++us:=by
                              show(splice arr.toList (n1*te.size) us).take ((n1+m)*te.size)=_
                              unfold Fl.splice
                              rw[List.take_append_of_le_length (by simp only[List.length_append,List.length_take,Array.length_toList,hul,Nat.add_mul];omega),List.take_of_length_le (by simp only[List.length_append,List.length_take,Array.length_toList,hul,Nat.add_mul];omega)]
                             rw[this]
                             exact hall.mono (HLe.refl _) (updB_le hfresh)
                           · exact stay (updB_le hfresh) (fun u kk _ hne=>setRow_other _ _ _ _ hne) ⟨_,hrow,hssz,hstk⟩ v q hvq
                       · -- it grows
                         have hold':(arr.toList.take (n1*te.size)).length=n1*te.size:=by rw[List.length_take,Array.length_toList];omega
                         obtain⟨C,hC,hCs,hr⟩:=grow (arr.toList.take (n1*te.size)) hold' (fun j v hj=>by
                          rw[add_mk,Nat.zero_add,cell_of_row w _ _ arr e1 (0,0) d4]
                          rw[List.getElem?_take] at hj
                          split at hj
                          · simpa using hj
                          · simp at hj) (by omega)
                         generalize hbig:(arr.toList.take (n1*te.size)).toArray++us.toArray++Builtin.zeroCells ze.cells (C-(n1+m))=big at hr hCs
                         have hbtk:big.toList.take ((n1+m)*te.size)=arr.toList.take (n1*te.size)++us:=by
                          rw[←hbig,Array.toList_append,Array.toList_append]
                          simp only
                          rw[List.take_append_of_le_length (by rw[List.length_append,hold',hul,Nat.add_mul];exact Nat.le_refl _),List.take_of_length_le (by rw[List.length_append,hold',hul,Nat.add_mul];exact Nat.le_refl _)]
                         have hbe0:=(Below.refl w.drew.heap.size w.drew).alloc (Nat.le_refl _) (.cells big e1)
                         have hbe:Below w.heap.size w (w.drew.alloc (.cells big e1)):=⟨hbe0.os,hbe0.tape,hbe0.output,hbe0.size,fun k hk=>hbe0.block k hk⟩
                         have hnewb:w.heap.size<(w.drew.alloc (.cells big e1)).heap.size:=(Array.getElem?_eq_some_iff.1 (heap_alloc_new w.drew (.cells big e1))).1
                         have hNone:H w.heap.size=none:=by
                          cases hx:H w.heap.size with
                          |none=>rfl
                          |some arr'=>have:=hS.sim.has.lt hx;omega
                         refine⟨_,_,updB β g1 cnt (w.heap.size,C*te.size),.inl hr,updB_le hfresh,hS.sim.turn (by rw[hg];simp) hbe.os hbe.tape hbe.output hbe.size (fun k' hlt _=>hbe.block k' hlt) (fun u' s' hs'=>hO.1 rfl u' s' hs') (updB_le hfresh) (fun g' u' hne=>updB_other _ _ _ _ (fun e'=>hne e'.1)) (fun u' k' hk'=>?_) ⟨fun _ u' k' hk'=>?_,fun v q hvq=>?_⟩,MarkSame.below hbe,_,C,updB_same _ _ _ _,rfl,hC,by show 0+C*te.size=_;omega⟩
                         · by_cases eu:u'=cnt
                           · subst eu
                             rw[updB_same] at hk';cases hk'
                             exact⟨Nat.lt_succ_self _,hnewb,hS.sim.lo _ (Nat.le_refl _),.inr (Nat.le_refl _)⟩
                           · rw[updB_other _ _ _ _ (fun e'=>eu e'.2)] at hk'
                             obtain⟨hlt,hown,o2,ho2,hc2⟩:=hS.sim.domN hg (by simp) u' k' hk'
                             rw[hg] at ho2;cases ho2
                             exact⟨Nat.lt_succ_of_lt hc2,Nat.lt_trans hlt hnewb,hown,.inl ⟨u',k',hk',rfl⟩⟩
                         · by_cases eu:u'=cnt
                           · subst eu
                             rw[updB_same] at hk';cases hk';exact hNone
                           · rw[updB_other _ _ _ _ (fun e'=>eu e'.2)] at hk'
                             exact hO.1 rfl u' k' hk'
                         · rcases List.mem_cons.1 hvq with e'|hvq
                           · simp only[Prod.mk.injEq] at e'
                             obtain⟨rfl,rfl⟩:=e'
                             refine⟨Nat.lt_succ_self _,_,big,updB_same _ _ _ _,hS.sim.lo _ (Nat.le_refl _),by simpa using hNone,heap_alloc_new w.drew _,hCs,by rw[hcl];exact Nat.le_refl _,by rw[hCs];exact Nat.mul_le_mul_right _ hC,?_⟩
                             rw[List.take_of_length_le (Nat.le_of_eq hcl),hbtk]
                             exact hall.mono (HLe.refl _) (updB_le hfresh)
                           · exact stay (updB_le hfresh) (fun u kk hkk _=>hbe.block _ (hS.sim.domN hg (by simp) u kk hkk).1) ⟨arr,(hbe.block _ (hS.sim.domN hg (by simp) u1 k hk).1).trans d4,rfl,rfl⟩ v q hvq
                   · cases he
                · cases he
          · cases he
        · cases he
     · cases he
   · cases he
 · cases he
end
section
variable {X:EX}{E:EEnv}{nt:Nat}{H H':Heap}{β β':Bm}{tm:Nat→ES}{h h':Hp}{a:Act}{w w':World}{o:Oper}
theorem run_firstE{P:Program}(w:World)(sz:Nat){ad:Option Addr}{m c:Nat}{us:List Value}(hul:us.length=m*sz)(hcell:0<m→∃a,ad=some a∧∀j u,us[j]?=some u→w.cell? (a.add j)=some u){k:Nat}(hk:k≤m) :
 (Builtin.firstCells sz k (.slice ad m c)).run P w=.ok (us.take (k*sz)).toArray w:=by
 by_cases h0:k=0
 · subst h0
   cases ad with
   |none=>simp[Builtin.firstCells]
   |some a =>
    have:=run_firstCells_some (P:=P) w sz 0 a m c [] (by simp) (by simp)
    simpa using this
 · obtain⟨a,rfl,ha⟩:=hcell (by omega)
   have hl:(us.take (k*sz)).length=k*sz:=by
    rw[List.length_take,hul,Nat.min_eq_left (Nat.mul_le_mul_right _ hk)]
   exact run_firstCells_some (P:=P) w sz k a m c (us.take (k*sz)) hl (fun j u hj=>ha j u (by
    rw[List.getElem?_take] at hj
    split at hj
    · exact hj
    · cases hj))
theorem ok_copy(hS:ESt X E nt H β tm h a w){d x:Operand}{t t':TypeId}(ho:o.op=.call { callee:=.builtin .copy,args := #[d,x],argTypes := #[t,t'] }){r:ES}{ws:Wr}(he:eCopy X.T h t (evE tm d) (evE tm x)=some (r,ws)):OpOk X E H β h a w o r ws:=by
 have hd:=ev_okE hS d
 have hx:=ev_okE hS x
 unfold eCopy at he
 split at he
 · rename_i ty ht
   obtain⟨i,dd,z,ok⟩:=tyOf_ok (X.hT t ty ht)
   have hd':=ok.sh
   split at he
   · rename_i e hsh
     rw[hsh] at hd'
     obtain rfl:=shOf_slice hd'
     split at he
     · rename_i te hte
       obtain⟨ie,de,ze,oke⟩:=tyOf_ok (X.hT e te hte)
       split at he
       · rename_i news m g1 u1 off1 n1 cap hsrc hde
         rw[hde] at hd
         obtain⟨k,c0,hk,hdv,hn,_⟩:=hd
         obtain⟨ad,cx,us,hxv,hus,hul,hcell⟩:=srcE_ok hS.sim hx hsrc
         rw[forceN_eq] at he
         split at he
         · rename_i o' hw
           simp only[Option.some.injEq,Prod.mk.injEq] at he
           obtain⟨rfl,rfl⟩:=he
           have hcut:=hus.take (Nat.min m n1*te.size)
           obtain⟨k',arr,e2,h1,h2,h3,h4,h5,h6⟩:=wrO_ok hS.sim hw hcut
           rw[hk] at h1;cases h1
           have hf:=run_firstE (P:=X.P) w te.size (c:=cx) hul hcell (Nat.min_le_left m n1)
           have hst:=run_storeCells_at X.P k.1 off1 e2 (us.take (Nat.min m n1*te.size)) 0 arr w h2 (by simpa using h3) hcut.one
           simp only[Nat.add_zero] at hst
           refine⟨_,_,β,.inl ?_,BLe.refl _,h5,h6,rfl,VR.int _ _⟩
           have hr:(Builtin.copy_ #[t,t'] o.type #[.slice (some ⟨k.1,off1,none⟩) n1 c0,.slice ad m cx]).run X.P w=.ok (goInt (Nat.min m n1)) (w.setRow k.1 (splice arr.toList off1 (us.take (Nat.min m n1*te.size))).toArray):=by
            simp only[Builtin.copy_,List.getElem?_toArray,List.getElem?_cons_zero,List.getElem?_cons_succ,Sem.run_bind,ok.run_und,Result.andThen_ok,Sem.run_pure,Builtin.lenOf,oke.run_size,hf]
            simp only[hst,Result.andThen_ok,Fl.splice]
           simp only[execOp,ho,resolve,invoke,builtin,Sem.run_bind,Sem.run_pure,Result.andThen_ok,List.map_toArray,List.map_cons,List.map_nil,hdv,hxv,hr];rfl
         · cases he
       · cases he
     · cases he
   · cases he
 · cases he
theorem ok_clear(hS:ESt X E nt H β tm h a w){d:Operand}{t:TypeId}(ho:o.op=.call { callee:=.builtin .clear,args := #[d],argTypes := #[t] }){r:ES}{ws:Wr}(he:eClear X.T X.ze h t (evE tm d)=some (r,ws)):OpOk X E H β h a w o r ws:=by
 have hd:=ev_okE hS d
 unfold eClear at he
 split at he
 · rename_i ty ht
   obtain⟨i,dd,z,ok⟩:=tyOf_ok (X.hT t ty ht)
   have hd':=ok.sh
   split at he
   · rename_i e hsh
     rw[hsh] at hd'
     obtain rfl:=shOf_slice hd'
     split at he
     · rename_i te zs hte hz
       obtain⟨ie,de,zee,oke⟩:=tyOf_ok (X.hT e te hte)
       obtain⟨ze,hz1,hz2,hz3,i',hz4,hz5⟩:=EX.run_zero hz
       cases hb:Nat.beq zs.length te.size with
       |false=>rw[hb] at he;cases he
       |true =>
        rw[hb] at he
        simp only[cond_true] at he
        have hzl:=Nat.eq_of_beq_eq_true hb
        have hzc:ze.cells.size=te.size:=by omega
        have none0:∀{ad:Option Addr} {c:Nat},a.eval d=.slice ad 0 c→OpOk X E H β h a w o (.tup []) []:=fun{ad c} hdv=>by
         refine OpOk.pure hS (v:=.tuple #[]) ?_ ⟨[],rfl,trivial⟩
         have hr:(Builtin.clear_ #[t] o.type #[.slice ad 0 c]).run X.P w=.ok (.tuple #[]) w:=by
          cases ad<;>simp only[Builtin.clear_,List.getElem?_toArray,List.getElem?_cons_zero,Sem.run_bind,ok.run_und,Result.andThen_ok,Sem.run_pure]
         simp only[execOp,ho,resolve,invoke,builtin,Sem.run_bind,Sem.run_pure,Result.andThen_ok,List.map_toArray,List.map_cons,List.map_nil,hdv,hr]
        split at he
        · rename_i g1 u1 off1 n1 cap hde
          rw[hde] at hd
          obtain⟨k,c0,hk,hdv,hn,_⟩:=hd
          split at he
          · rename_i o' hw
            simp only[Option.some.injEq,Prod.mk.injEq] at he
            obtain⟨rfl,rfl⟩:=he
            obtain⟨k',arr,e2,h1,h2,h3,h4,h5,h6⟩:=wrO_ok hS.sim hw (repE_ok (hz2 H β) n1)
            rw[hk] at h1;cases h1
            have hst:=run_storeCells_at X.P k.1 off1 e2 (flat (List.replicate n1 ze)) 0 arr w h2 (by simpa using h3) (repE_ok (hz2 H β) n1).one
            simp only[Nat.add_zero] at hst
            have hzero:(Builtin.zeroCells ze.cells n1).toList=flat (List.replicate n1 ze):=by
             have:0<te.size∨te.size=0:=by omega
             rcases this with hp|hp
             · have:=made_flat hzc hp n1
               rw[←hzc] at this
               exact this
             · have e1:ze.cells = #[]:=by apply Array.eq_empty_of_size_eq_zero;omega
               have e3:∀n,flat (List.replicate n ze)=[]:=by
                intro n
                induction n with
                |zero=>rfl
                |succ n ih=>rw[List.replicate_succ,flat_cons,ih,e1];rfl
               rw[e3,e1]
               simp[Builtin.zeroCells]
            refine⟨.tuple #[],_,β,.inl ?_,BLe.refl _,h5,h6,[],rfl,trivial⟩
            have hr:(Builtin.clear_ #[t] o.type #[.slice (some ⟨k.1,off1,none⟩) n1 c0]).run X.P w=.ok (.tuple #[]) (w.setRow k.1 (splice arr.toList off1 (flat (List.replicate n1 ze))).toArray):=by
             cases n1 with
             |zero =>
              simp only[Builtin.clear_,List.getElem?_toArray,List.getElem?_cons_zero,Sem.run_bind,ok.run_und,Result.andThen_ok,Sem.run_pure]
              have e1:splice arr.toList off1 (flat (List.replicate 0 ze))=arr.toList:=by simp[Fl.splice,flat]
              rw[e1,Array.toArray_toList,setRow_self w _ arr e2 (0,0) h2]
             |succ n1 =>
              simp only[Builtin.clear_,List.getElem?_toArray,List.getElem?_cons_zero,Sem.run_bind,ok.run_und,Result.andThen_ok,Sem.run_pure,hz1,hzero,hst,Fl.splice]
            simp only[execOp,ho,resolve,invoke,builtin,Sem.run_bind,Sem.run_pure,Result.andThen_ok,List.map_toArray,List.map_cons,List.map_nil,hdv,hr]
          · cases he
        · rename_i hde
          rw[hde] at hd
          simp only[Option.some.injEq,Prod.mk.injEq] at he
          obtain⟨rfl,rfl⟩:=he
          rcases VR.asSl hd.2 with⟨_,ad,cap,hh⟩|⟨b,off,cap,sz,arr,vs,hh,_⟩
          · exact none0 hh
          · exact none0 hh
        · rename_i hde
          rw[hde] at hd
          simp only[Option.some.injEq,Prod.mk.injEq] at he
          obtain⟨rfl,rfl⟩:=he
          exact none0 (asNilS hd.2)
        · cases he
     · cases he
   · cases he
 · cases he
theorem ok_builtin(hS:ESt X E nt H β tm h a w){b:Builtin}{args:Array Operand}{ts:Array TypeId}(ho:o.op=.call { callee:=.builtin b,args:=args,argTypes:=ts }){g:Nat}{r:ES}{ws:Wr}(he:eBuiltin X.T X.ze h g b ts.toList (args.toList.map (evE tm))=some (r,ws)):OpOk X E H β h a w o r ws:=by
 have m1:∀{x:ES} {l:List Operand},l.map (evE tm)=[x]→∃y,l=[y]∧evE tm y=x:=fun{x l} hl=>by
  cases l with
  |nil=>cases hl
  |cons y l=>cases l with
   |nil=>simp only[List.map_cons,List.map_nil,List.cons.injEq,and_true] at hl;exact⟨y,rfl,hl⟩
   |cons=>simp at hl
 have m2:∀{x x':ES} {l:List Operand},l.map (evE tm)=[x,x']→∃y y',l=[y,y']∧evE tm y=x∧evE tm y'=x':=fun{x x' l} hl=>by
  cases l with
  |nil=>cases hl
  |cons y l=>cases l with
   |nil=>simp at hl
   |cons y' l=>cases l with
    |nil=>simp only[List.map_cons,List.map_nil,List.cons.injEq,and_true] at hl;exact⟨y,y',rfl,hl⟩
    |cons=>simp at hl
 have arr:∀{α:Type} {l:Array α} {l':List α},l.toList=l'→l=l'.toArray:=fun hl=>by rw[←hl]
 unfold eBuiltin at he
 split at he
 · rename_i x t ha hts
   obtain⟨y,hy,rfl⟩:=m1 ha
   rw[arr hy,arr hts] at ho
   exact ok_len hS ho he
 · rename_i x x' ha
   obtain⟨y,y',hy,rfl,rfl⟩:=m2 ha
   rw[arr hy] at ho
   exact ok_mm (mx:=true) hS ho he
 · rename_i x x' ha
   obtain⟨y,y',hy,rfl,rfl⟩:=m2 ha
   rw[arr hy] at ho
   exact ok_mm (mx:=false) hS ho he
 · rename_i x x' t t' ha hts
   obtain⟨y,y',hy,rfl,rfl⟩:=m2 ha
   rw[arr hy,arr hts] at ho
   cases htt:Nat.beq t t' with
   |false=>rw[htt] at he;cases he
   |true =>
    rw[htt] at he
    have:=Nat.eq_of_beq_eq_true htt
    subst this
    exact ok_append hS ho he
 · rename_i x x' t t' ha hts
   obtain⟨y,y',hy,rfl,rfl⟩:=m2 ha
   rw[arr hy,arr hts] at ho
   exact ok_copy hS ho he
 · rename_i x t ha hts
   obtain⟨y,hy,rfl⟩:=m1 ha
   rw[arr hy,arr hts] at ho
   exact ok_clear hS ho he
 · cases he
end
end Go.Proofs.En
namespace Go.Proofs.Fl
open Go.RowKit
def eqF(b b':Option Bx):Prop:=b=b'∨∃e sz es f f',b=some (.arr e sz es f)∧b'=some (.arr e sz es f')
theorem eqF.refl(b:Option Bx):eqF b b:=.inl rfl
theorem eqF.symm{b b':Option Bx}(h:eqF b b'):eqF b' b:=by
 rcases h with rfl|⟨e,sz,es,f,f',h1,h2⟩
 · exact .inl rfl
 · exact .inr ⟨e,sz,es,f',f,h2,h1⟩
theorem eqF.trans{a b c:Option Bx}(h:eqF a b)(k:eqF b c):eqF a c:=by
 rcases h with rfl|⟨e,sz,es,f,f',h1,h2⟩
 · exact k
 · rcases k with rfl|⟨e2,sz2,es2,f2,f2',k1,k2⟩
   · exact .inr ⟨e,sz,es,f,f',h1,h2⟩
   · rw[h2] at k1
     simp only[Option.some.injEq,Bx.arr.injEq] at k1
     obtain⟨rfl,rfl,rfl,_⟩:=k1
     exact .inr ⟨_,_,_,_,_,h1,k2⟩
theorem eqF.var{b b':Option Bx}(h:eqF b b'){x:IV}(e:b=some (.var x)):b'=some (.var x):=by
 rcases h with rfl|⟨_,_,_,_,_,h1,_⟩
 · exact e
 · rw[h1] at e;simp at e
theorem eqF.bld{b b':Option Bx}(h:eqF b b'){x:Ow}(e:b=some (.bld x)):b'=some (.bld x):=by
 rcases h with rfl|⟨_,_,_,_,_,h1,_⟩
 · exact e
 · rw[h1] at e;simp at e
theorem eqF.arr{b b':Option Bx}(h:eqF b b'){e:TypeId}{sz:Nat}{es:List IV}{f:Bool}(hb:b=some (.arr e sz es f)):∃f',b'=some (.arr e sz es f'):=by
 rcases h with rfl|⟨e2,sz2,es2,f2,f2',h1,h2⟩
 · exact⟨f,hb⟩
 · rw[h1] at hb
   simp only[Option.some.injEq,Bx.arr.injEq] at hb
   obtain⟨rfl,rfl,rfl,_⟩:=hb
   exact⟨f2',h2⟩
def Is(R:SV)(F:Eff):SV→Eff→Prop:=fun r e=>r=R∧e=F
section
variable {bx bx':Nat→Option Bx}{ρ ρ':Operand→SV}
theorem toI_foot{s:SV}{x:IV}{f:List Nat}(h:toI bx s=some (x,f))(hb:∀id∈f,eqF (bx id) (bx' id)):toI bx' s=some (x,f):=by
 cases s with
 |ref g off n fl =>
  simp only[toI] at h ⊢
  split at h
  · rename_i e sz es fz hg
    simp only[Option.some.injEq,Prod.mk.injEq] at h;obtain⟨rfl,rfl⟩:=h
    obtain⟨f',h'⟩:=(hb g (by simp)).arr hg
    rw[h']
  · simp at h
 |_=>exact h
theorem toIs_foot:∀{os:List Operand} {xs:List IV} {fs:List Nat},toIs bx ρ os=some (xs,fs)→(∀x∈os,ρ' x=ρ x)→(∀id∈fs,eqF (bx id) (bx' id))→toIs bx' ρ' os=some (xs,fs)
 | [],xs,fs,h,_,_=>h
 |o::os,xs,fs,h,hr,hb=>by
  simp only[toIs] at h ⊢
  split at h
  · rename_i x f h1
    split at h
    · rename_i ys gs h2
      simp only[Option.some.injEq,Prod.mk.injEq] at h;obtain⟨rfl,rfl⟩:=h
      rw[hr o (by simp),toI_foot h1 (fun id hid=>hb id (by simp[hid])),toIs_foot h2 (fun x hx=>hr x (by simp[hx])) (fun id hid=>hb id (by simp[hid]))]
    · simp at h
  · simp at h
theorem fillI_foot{fields:List (Nat×Bool×Nat)}:∀{ps:List (Nat×Operand)} {cs r:List IV} {fs:List Nat},fillI fields bx ρ cs ps=some (r,fs)→(∀p∈ps,ρ' p.2=ρ p.2)→(∀id∈fs,eqF (bx id) (bx' id))→fillI fields bx' ρ' cs ps=some (r,fs)
 | [],cs,r,fs,h,_,_=>h
 | (j,o)::ps,cs,r,fs,h,hr,hb=>by
   simp only[fillI] at h ⊢
   split at h
   · rename_i off ag sz y f h1 h2
     rw[h1]
     cases hc:(Nat.beq y.cells.length sz&&Nat.ble (off+sz) cs.length && !y.isTup) with
     |false=>rw[hc] at h;simp at h
     |true =>
      rw[hc] at h;simp only[cond_true] at h
      split at h
      · rename_i r' gs h3
        simp only[Option.some.injEq,Prod.mk.injEq] at h;obtain⟨rfl,rfl⟩:=h
        rw[hr (j,o) (by simp),toI_foot h2 (fun id hid=>hb id (by simp[hid]))]
        simp only[hc,cond_true]
        rw[fillI_foot h3 (fun p hp=>hr p (by simp[hp])) (fun id hid=>hb id (by simp[hid]))]
      · simp at h
   · simp at h
theorem fillE_foot{sz:Nat}:∀{ps:List (Nat×Operand)} {es r:List IV} {fs:List Nat},fillE sz bx ρ es ps=some (r,fs)→(∀p∈ps,ρ' p.2=ρ p.2)→(∀id∈fs,eqF (bx id) (bx' id))→fillE sz bx' ρ' es ps=some (r,fs)
 | [],es,r,fs,h,_,_=>h
 | (j,o)::ps,es,r,fs,h,hr,hb=>by
   simp only[fillE] at h ⊢
   split at h
   · rename_i y f h2
     cases hc:(Nat.beq y.cells.length sz&&Nat.blt j es.length && !y.isTup) with
     |false=>rw[hc] at h;simp at h
     |true =>
      rw[hc] at h;simp only[cond_true] at h
      split at h
      · rename_i r' gs h3
        simp only[Option.some.injEq,Prod.mk.injEq] at h;obtain⟨rfl,rfl⟩:=h
        rw[hr (j,o) (by simp),toI_foot h2 (fun id hid=>hb id (by simp[hid]))]
        simp only[hc,cond_true]
        rw[fillE_foot h3 (fun p hp=>hr p (by simp[hp])) (fun id hid=>hb id (by simp[hid]))]
      · simp at h
   · simp at h
theorem bnd_foot{v:Option Operand}{d:Nat}{K K':Nat→Prop}(h:bnd (v.map ρ) d K)(hr:∀x,v=some x→ρ' x=ρ x)(hk:∀m,K m→K' m):bnd (v.map ρ') d K':=by
 cases v with
 |none=>exact hk _ h
 |some x =>
  simp only[Option.map_some] at h ⊢
  rw[hr x rfl]
  unfold bnd at h ⊢
  split at h
  · rename_i e;simp at e
  · rename_i k n e
    obtain⟨m,e2,hK⟩:=h
    simp only[Option.some.injEq] at e
    exact⟨m,e2,hk m hK⟩
  · exact h.elim
theorem bnd_mono{v:Option SV}{d:Nat}{K:Nat→Prop}(h:bnd v d K):∃m,K m:=by
 unfold bnd at h
 split at h
 · exact⟨_,h⟩
 · obtain⟨m,_,hK⟩:=h;exact⟨m,hK⟩
 · exact h.elim
variable {T:TypeId→Option TY}{Φ:Ctr}{o:Oper}{g:Nat}{R:SV}{F:Eff}
theorem opBuiltin_foot{b:Builtin}{ats:List TypeId}{args:List Operand}(h:opBuiltin T b ats args ρ bx g (Is R F))(hr:∀x∈args,ρ' x=ρ x)(hb:∀id∈F.rd,eqF (bx id) (bx' id))(hw:∀p∈F.wr,bx' p.1=bx p.1) :
 opBuiltin T b ats args ρ' bx' g (Is R F):=by
 unfold opBuiltin at h ⊢
 split at h
 · split at h
   · rename_i x
     rw[hr x (by simp)]
     split at h
     · rename_i n t hn
       try rw[hn]
       split at h
       · rename_i ty ht
         try rw[ht]
         split at h
         · rename_i s hsh hx
           (try rw[hsh,hx]);exact h
         · rename_i e0 es hsh hx
           (try rw[hsh,hx]);exact h
         · rename_i e0 hsh hx
           (try rw[hsh,hx]);exact h
         · rename_i e0 g' off n' fl hsh hx
           try rw[hsh,hx]
           split at h
           · rename_i e' sz es fz hbx
             obtain⟨m,e,h1,rfl⟩:=h
             obtain⟨f',h'⟩:=(hb g' (by simp)).arr hbx
             try rw[h']
             exact⟨m,e,h1,rfl⟩
           · exact h.elim
         · rename_i e0 n' hsh hx
           (try rw[hsh,hx]);exact h
         · exact h.elim
       · exact h.elim
     · exact h.elim
   · exact h.elim
 · split at h
   · rename_i x y
     rw[hr x (by simp),hr y (by simp)]
     exact h
   · exact h.elim
 · split at h
   · rename_i x y
     rw[hr x (by simp),hr y (by simp)]
     exact h
   · exact h.elim
 · split at h
   · rename_i s x t t'
     rw[hr s (by simp),hr x (by simp)]
     cases htt:Nat.beq t t' with
     |false=>rw[htt] at h;exact h.elim
     |true =>
      rw[htt] at h
      simp only[cond_true] at h ⊢
      split at h
      · rename_i ty ht
        try rw[ht]
        split at h
        · rename_i e hsh
          try rw[hsh]
          split at h
          · rename_i te hte
            try rw[hte]
            cases hp:Nat.blt 0 te.size with
            |false=>rw[hp] at h;exact h.elim
            |true =>
             rw[hp] at h
             simp only[cond_true] at h
             cases hzs:Nat.beq te.zero.cells.length te.size with
             |false=>rw[hzs] at h;exact h.elim
             |true =>
              rw[hzs] at h
              simp only[cond_true] at h
              split at h
              · rename_i news f hx
                split at h
                · rename_i hs
                  obtain⟨c,hc,hK⟩:=h
                  cases c with
                  |true =>
                   obtain⟨h1,rfl⟩:=hK
                   simp only[cond_true]
                   rw[toI_foot hx (fun id hid=>hb id hid)];(try rw[hs])
                   exact⟨true,hc,h1,rfl⟩
                  |false =>
                   simp only at hK
                   split at hK
                   · rename_i hg
                     obtain⟨a1,a2,a3,h1,rfl⟩:=hK
                     simp only[cond_true]
                     rw[toI_foot hx (fun id hid=>hb id hid)];(try rw[hs])
                     refine⟨false,hc,?_⟩
                     simp only[(hw (g,_) (List.mem_singleton.2 rfl)).trans hg]
                     exact⟨a1,a2,a3,h1,rfl⟩
                   · exact hK.elim
                · rename_i g' n hs
                  split at h
                  · rename_i e' sz es hb' hg
                    obtain⟨h1,h2,h3,h4,h5,h6,h7,h8,rfl⟩:=h
                    simp only[cond_true]
                    rw[toI_foot hx (fun id hid=>hb id hid)];(try rw[hs])
                    simp only[(hw (g',.dead) (List.mem_cons_self ..)).trans hb',(hw (g,_) (List.mem_cons_of_mem _ (List.mem_singleton.2 rfl))).trans hg]
                    exact⟨h1,h2,h3,h4,h5,h6,h7,h8,rfl⟩
                  · exact h.elim
                · exact h.elim
              · exact h.elim
          · exact h.elim
        · exact h.elim
      · exact h.elim
   · exact h.elim
 · split at h
   · rename_i d x t t'
     rw[hr d (by simp),hr x (by simp)]
     split at h
     · rename_i ty ht
       try rw[ht]
       split at h
       · rename_i e hsh
         try rw[hsh]
         split at h
         · rename_i te hte
           try rw[hte]
           cases hp:Nat.beq te.size 1 with
           |false=>rw[hp] at h;exact h.elim
           |true =>
            rw[hp] at h
            simp only[cond_true] at h ⊢
            split at h
            · rename_i news f hx
              split at h
              · rename_i g' off n fl hs
                split at h
                · rename_i e' sz es hb'
                  obtain⟨q1,q2,q3,q4,m,q5,h1,rfl⟩:=h
                  rw[toI_foot hx (fun id hid=>hb id hid)];(try rw[hs])
                  rw[(hw (g',_) (List.mem_singleton.2 rfl)).trans hb']
                  exact⟨q1,q2,q3,q4,m,q5,h1,rfl⟩
                · exact h.elim
              · exact h.elim
            · exact h.elim
         · exact h.elim
       · exact h.elim
     · exact h.elim
   · exact h.elim
 · exact h.elim
theorem ptrsOf_foot{os:List Operand}{gs:List Nat}(h:ptrsOf ρ os=some gs)(hr:∀x∈os,ρ' x=ρ x):ptrsOf ρ' os=some gs:=by
 rw[←h]
 clear h
 induction os with
 |nil=>rfl
 |cons o os ih=>simp only[ptrsOf,hr o (by simp),ih (fun x hx=>hr x (by simp[hx]))]
theorem fresh_foot{zs:List IV}:∀{g:Nat},(∀p∈zipB (idsOf g zs.length) zs,bx' p.1=bx p.1)→fresh bx (idsOf g zs.length)=true→fresh bx' (idsOf g zs.length)=true:=by
 induction zs with
 |nil=>intro g _ _;rfl
 |cons z zs ih =>
  intro g hw h
  simp only[List.length_cons,idsOf,zipB,fresh] at hw h ⊢
  have h0:=hw (g,.var z) (by simp)
  simp only at h0
  rw[h0]
  split at h
  · exact ih (fun p hp=>hw p (by simp[hp])) h
  · cases h
theorem opP_foot(h:opP T Φ o ρ bx g (Is R F))(hr:∀x∈o.op.operands,ρ' x=ρ x)(hb:∀id∈F.rd,eqF (bx id) (bx' id))(hw:∀p∈F.wr,bx' p.1=bx p.1):opP T Φ o ρ' bx' g (Is R F):=by
 unfold opP at h ⊢
 split at h
 · rename_i x hop
   rw[hr x (by rw[hop];simp[Op.operands])]
   exact h
 · rename_i x hop
   rw[hr x (by rw[hop];simp[Op.operands])]
   exact h
 · rename_i c x y hop
   rw[hr c (by rw[hop];simp[Op.operands]),hr x (by rw[hop];simp[Op.operands]),hr y (by rw[hop];simp[Op.operands])]
   exact h
 · rename_i t hop
   split at h
   · rename_i ty ht hg
     obtain⟨h1,rfl⟩:=h
     simp only[ht,(hw (g,_) (List.mem_singleton.2 rfl)).trans hg]
     exact⟨h1,rfl⟩
   · exact h.elim
 · rename_i t x hop
   rw[hr x (by rw[hop];simp[Op.operands])]
   split at h
   · rename_i y f hx hg
     cases hy:y.isTup with
     |true=>rw[hy] at h;exact h.elim
     |false =>
      rw[hy] at h
      obtain⟨h1,rfl⟩:=h
      simp only[toI_foot hx (fun id hid=>hb id hid),(hw (g,_) (List.mem_singleton.2 rfl)).trans hg,hy]
      exact⟨h1,rfl⟩
   · exact h.elim
 · rename_i t parts hop
   split at h
   · rename_i ty ht
     split at h
     · rename_i hsh
       split at h
       · rename_i cs f hf
         obtain⟨h1,rfl⟩:=h
         simp only[fillI_foot hf (ρ':=ρ') (bx':=bx') (fun p hp=>hr p.2 (by rw[hop];simp only[Op.operands,List.mem_toArray,List.mem_map];exact⟨p,hp,rfl⟩)) (fun id hid=>hb id hid)]
         exact⟨h1,rfl⟩
       · exact h.elim
     · rename_i n e hsh
       split at h
       · rename_i te hte
         split at h
         · rename_i cs f hf
           obtain⟨h1,rfl⟩:=h
           simp only[hte,fillI_foot hf (ρ':=ρ') (bx':=bx') (fun p hp=>hr p.2 (by rw[hop];simp only[Op.operands,List.mem_toArray,List.mem_map];exact⟨p,hp,rfl⟩)) (fun id hid=>hb id hid)]
           exact⟨h1,rfl⟩
         · exact h.elim
       · exact h.elim
     · exact h.elim
   · exact h.elim
 · rename_i t len parts hop
   split at h
   · rename_i ty ht hg
     split at h
     · rename_i e hsh
       split at h
       · rename_i te hte
         cases hbb:(Nat.blt 0 te.size&&Nat.ble (len*te.size) 16777216&&Nat.beq te.zero.cells.length te.size) with
         |false=>rw[hbb] at h;exact h.elim
         |true =>
          rw[hbb] at h
          simp only[cond_true] at h
          split at h
          · rename_i es f hf
            obtain⟨h1,rfl⟩:=h
            simp only[ht,(hw (g,_) (List.mem_singleton.2 rfl)).trans hg,hsh,hte,hbb,cond_true,fillE_foot hf (ρ':=ρ') (bx':=bx') (fun p hp=>hr p.2 (by rw[hop];simp only[Op.operands,List.mem_toArray,List.mem_map];exact⟨p,hp,rfl⟩)) (fun id hid=>hb id hid)]
            exact⟨h1,rfl⟩
          · exact h.elim
       · exact h.elim
     · exact h.elim
   · exact h.elim
 · rename_i t x hop
   rw[hr x (by rw[hop];simp[Op.operands])]
   split at h
   · rename_i ty ht
     split at h
     · rename_i g' off hx
       split at h
       · rename_i y hbx
         split at h
         · rename_i r hl
           obtain⟨h1,rfl⟩:=h
           simp only[(hb g' (List.mem_singleton.2 rfl)).var hbx,hl]
           exact⟨h1,rfl⟩
         · exact h.elim
       · rename_i v0 cs j e sz es hbx
         cases hc:(Nat.beq off j&&Nat.beq ty.size 1 && !ty.sh.agg) with
         |false=>rw[hc] at h;exact h.elim
         |true =>
          rw[hc] at h
          have hF:g'∈F.rd:=by cases v0<;>(obtain⟨_,rfl⟩:=h;exact List.mem_singleton.2 rfl)
          simp only[(hb g' hF).bld hbx,hc,cond_true]
          exact h
       · exact h.elim
     · exact h
     · rename_i g' j off hx
       split at h
       · rename_i e sz es fz hbx
         obtain⟨y,hj,h⟩:=h
         split at h
         · rename_i r hl
           obtain⟨h1,rfl⟩:=h
           obtain⟨f',h'⟩:=(hb g' (List.mem_singleton.2 rfl)).arr hbx
           simp only[h']
           refine⟨y,hj,?_⟩
           simp only[hl]
           exact⟨h1,rfl⟩
         · exact h.elim
       · exact h.elim
     · exact h.elim
   · exact h.elim
 · rename_i t x y hop
   rw[hr x (by rw[hop];simp[Op.operands]),hr y (by rw[hop];simp[Op.operands])]
   split at h
   · rename_i ty z f ht hy
     cases hbb:(Nat.beq z.cells.length ty.size && !z.isTup) with
     |false=>rw[hbb] at h;exact h.elim
     |true =>
      rw[hbb] at h
      simp only[cond_true] at h
      split at h
      · rename_i g' off hx
        split at h
        · rename_i u hbx
          split at h
          · rename_i u' hs
            obtain⟨h1,rfl⟩:=h
            simp only[ht,toI_foot hy (fun id hid=>hb id (List.mem_cons_of_mem _ hid)),hbb,cond_true,(hb g' (List.mem_cons_self ..)).var hbx,hs]
            exact⟨h1,rfl⟩
          · exact h.elim
        · exact h.elim
      · rename_i g' j off hx
        split at h
        · rename_i e sz es hbx
          obtain⟨hf,u,hj,h⟩:=h
          split at h
          · rename_i u' hs
            obtain⟨h1,rfl⟩:=h
            simp only[ht,toI_foot hy (fun id hid=>hb id (List.mem_cons_of_mem _ hid)),hbb,cond_true,(hw (g',_) (List.mem_singleton.2 rfl)).trans hbx]
            refine⟨hf,u,hj,?_⟩
            simp only[hs]
            exact⟨h1,rfl⟩
          · exact h.elim
        · exact h.elim
      · exact h.elim
   · exact h.elim
 · rename_i op t x y t' hop
   rw[hr x (by rw[hop];simp[Op.operands]),hr y (by rw[hop];simp[Op.operands])]
   exact h
 · rename_i op t x hop
   rw[hr x (by rw[hop];simp[Op.operands])]
   exact h
 · rename_i s d x hop
   rw[hr x (by rw[hop];simp[Op.operands])]
   exact h
 · rename_i t l c hop
   rw[hr l (by rw[hop];simp[Op.operands]),hr c (by rw[hop];simp[Op.operands])]
   split at h
   · rename_i ty ht hg
     split at h
     · rename_i e hsh
       split at h
       · rename_i te kl p kc q hte hl hc
         cases hbb:(Nat.blt 0 te.size&&Nat.beq te.zero.cells.length te.size) with
         |false=>rw[hbb] at h;exact h.elim
         |true =>
          rw[hbb] at h
          simp only[cond_true] at h
          obtain⟨e1,m,e2,h1,h2,h3,rfl⟩:=h
          simp only[ht,(hw (g,_) (List.mem_singleton.2 rfl)).trans hg,hsh,hte,hl,hc,hbb,cond_true]
          exact⟨e1,m,e2,h1,h2,h3,rfl⟩
       · exact h.elim
     · exact h.elim
   · exact h.elim
 · rename_i t x lo hi mx hop
   have hrx:=hr x (by rw[hop];simp[Op.operands])
   have hrlo:∀y,lo=some y→ρ' y=ρ y:=fun y e=>hr y (by rw[hop];simp[Op.operands,e])
   have hrhi:∀y,hi=some y→ρ' y=ρ y:=fun y e=>hr y (by rw[hop];simp[Op.operands,e])
   have hrmx:∀y,mx=some y→ρ' y=ρ y:=fun y e=>hr y (by rw[hop];simp[Op.operands,e])
   rw[hrx]
   split at h
   · rename_i ty ht
     split at h
     · rename_i s hsh hx
       split at h
       · exact bnd_foot h hrhi fun u hu=>bnd_foot hu hrlo fun l hl=>hl
       · exact h.elim
     · rename_i e es hsh hx
       split at h
       · exact bnd_foot h hrhi fun u hu=>bnd_foot hu hrmx fun m hm=>bnd_foot hm hrlo fun l hl=>hl
       · exact h.elim
     · rename_i e hsh hx
       split at h
       · exact bnd_foot h hrhi fun u hu=>bnd_foot hu hrmx fun m hm=>bnd_foot hm hrlo fun l hl=>hl
       · exact h.elim
     · rename_i e g' off n fl hsh hx
       split at h
       · rename_i te e' sz es fz hte hbx
         obtain⟨hsz,h⟩:=h
         have hF:g'∈F.rd:=by
          obtain⟨u,h⟩:=bnd_mono h
          obtain⟨m,h⟩:=bnd_mono h
          obtain⟨l,_,_,_,_,c,_,h⟩:=bnd_mono h
          cases c<;>(obtain⟨_,rfl⟩:=h;exact List.mem_singleton.2 rfl)
         obtain⟨f',h'⟩:=(hb g' hF).arr hbx
         simp only[hsh,hx,hte,h']
         exact⟨hsz,bnd_foot h hrhi fun u hu=>bnd_foot hu hrmx fun m hm=>bnd_foot hm hrlo fun l hl=>hl⟩
       · exact h.elim
     · exact h.elim
   · exact h.elim
 · rename_i t x j hop
   rw[hr x (by rw[hop];simp[Op.operands])]
   split at h
   · rename_i ty ht
     split at h
     · rename_i fo ag sz hsh hf
       cases hbb:Nat.blt 0 sz with
       |false=>rw[hbb] at h;exact h.elim
       |true =>
        rw[hbb] at h
        simp only[cond_true] at h
        split at h
        · rename_i g' off hx
          simp only[hsh,hf,hbb,cond_true,hx];exact h
        · rename_i y off hx
          simp only[hsh,hf,hbb,cond_true,hx];exact h
        · rename_i g' i off hx
          split at h
          · rename_i e sz' es fz hbx
            obtain⟨h1,rfl⟩:=h
            obtain⟨f',h'⟩:=(hb g' (List.mem_singleton.2 rfl)).arr hbx
            simp only[hsh,hf,hbb,cond_true,hx,h']
            exact⟨h1,rfl⟩
          · exact h.elim
        · exact h.elim
     · exact h.elim
   · exact h.elim
 · rename_i s x j hop
   rw[hr x (by rw[hop];simp[Op.operands])]
   exact h
 · rename_i t x ix hop
   rw[hr x (by rw[hop];simp[Op.operands]),hr ix (by rw[hop];simp[Op.operands])]
   split at h
   · rename_i ty ht
     split at h
     · exact h
     · rename_i e g' off n fl k p hsh hx hi
       split at h
       · rename_i te e' sz es fz hte hbx
         obtain⟨hsz,j,e1,hj,h1,rfl⟩:=h
         obtain⟨f',h'⟩:=(hb g' (List.mem_singleton.2 rfl)).arr hbx
         simp only[hsh,hx,hi,hte,h']
         exact⟨hsz,j,e1,hj,h1,rfl⟩
       · exact h.elim
     · exact h
     · exact h.elim
   · exact h.elim
 · rename_i t x ix hop
   rw[hr x (by rw[hop];simp[Op.operands]),hr ix (by rw[hop];simp[Op.operands])]
   exact h
 · rename_i x j hop
   rw[hr x (by rw[hop];simp[Op.operands])]
   exact h
 · rename_i fn first captured hop
   split at h
   · rename_i f gs hfirst hgs
     simp only[hfirst,ptrsOf_foot hgs (ρ':=ρ') (fun x hx=>hr x (by rw[hop];simp only[Op.operands,Array.mem_append];exact .inr (by simpa using hx)))]
     exact h
   · exact h.elim
 · rename_i b args ts hop
   exact opBuiltin_foot h (fun x hx=>hr x (by rw[hop];simp[Op.operands,Call.operands];simpa using hx)) hb hw
 · rename_i f args ts hop
   rw[hr f (by rw[hop];simp[Op.operands,Call.operands])]
   split at h
   · rename_i fn hf
     split at h
     · split at h
       · rename_i xs fs hxs
         obtain⟨f',zs,hm,hfr,h1,rfl⟩:=h
         simp only[toIs_foot hxs (ρ':=ρ') (bx':=bx') (fun x hx=>hr x (by rw[hop];simp[Op.operands,Call.operands];exact .inr (by simpa using hx))) (fun id hid=>hb id hid)]
         exact⟨f',zs,hm,fresh_foot (fun p hp=>hw p hp) hfr,h1,rfl⟩
       · exact h.elim
     split at h
     · split at h
       · rename_i xs fs hxs
         obtain⟨r,hr',h1,rfl⟩:=h
         simp only[toIs_foot hxs (ρ':=ρ') (bx':=bx') (fun x hx=>hr x (by rw[hop];simp[Op.operands,Call.operands];exact .inr (by simpa using hx))) (fun id hid=>hb id hid)]
         exact⟨r,hr',h1,rfl⟩
       · exact h.elim
     · split at h
       · rename_i x rest hargs
         have e3:args=(x::rest).toArray:=Array.ext' (by simpa using hargs)
         subst e3
         rw[hr x (by rw[hop];simp[Op.operands,Call.operands])]
         split at h
         · rename_i g' off n fl hx
           split at h
           · rename_i e sz es xs fs hbx hxs
             obtain⟨hn,es',r,hr',hl,h1,rfl⟩:=h
             simp only[(hw (g',_) (List.mem_singleton.2 rfl)).trans hbx,toIs_foot hxs (ρ':=ρ') (bx':=bx') (fun x hx=>hr x (by rw[hop];simp[Op.operands,Call.operands];exact .inr (.inr hx))) (fun id hid=>hb id (List.mem_cons_of_mem _ hid))]
             exact⟨hn,es',r,hr',hl,h1,rfl⟩
           · exact h.elim
         · exact h.elim
       · exact h.elim
   · exact h.elim
 · exact h.elim
end
section
variable {bx:Nat→Option Bx}{ρ:Operand→SV}{T:TypeId→Option TY}{Φ:Ctr}{o:Oper}{g:Nat}{K:SV→Eff→Prop}
theorem intRes_elim{op:BinOp}{k:IntKind}{p q:Int}{J:IV→Prop}(h:intRes op k p q J):∃r,J r∧∀J':IV→Prop,J' r→intRes op k p q J':=by
 cases op<;>simp only[intRes] at h ⊢ <;> first
  |exact h.elim
  | (obtain⟨h0,n,e,hJ⟩:=h;exact⟨_,hJ,fun J' hj=>⟨h0,n,e,hj⟩⟩)
  | (obtain⟨n,e,hJ⟩:=h;exact⟨_,hJ,fun J' hj=>⟨n,e,hj⟩⟩)
theorem strRes_elim{op:BinOp}{p q:List UInt8}{J:IV→Prop}(h:strRes op p q J):∃r,J r∧∀J':IV→Prop,J' r→strRes op p q J':=by
 cases op<;>simp only[strRes] at h ⊢ <;> first
  |exact h.elim
  | (obtain⟨n,e,hJ⟩:=h;exact⟨_,hJ,fun J' hj=>⟨n,e,hj⟩⟩)
  | (obtain⟨h0,hJ⟩:=h;exact⟨_,hJ,fun J' hj=>⟨h0,hj⟩⟩)
theorem boolRes_elim{op:BinOp}{p q:Bool}{J:IV→Prop}(h:boolRes op p q J):∃r,J r∧∀J':IV→Prop,J' r→boolRes op p q J':=by
 cases op<;>simp only[boolRes] at h ⊢ <;> first
  |exact h.elim
  | (obtain⟨n,e,hJ⟩:=h;exact⟨_,hJ,fun J' hj=>⟨n,e,hj⟩⟩)
theorem bnd_elim{v:Option SV}{d:Nat}{K:Nat→Prop}(h:bnd v d K):∃m,K m∧∀K':Nat→Prop,K' m→bnd v d K':=by
 unfold bnd at h ⊢
 split at h
 · exact⟨_,h,fun K' hk=>hk⟩
 · obtain⟨m,e,hK⟩:=h;exact⟨m,hK,fun K' hk=>⟨m,e,hk⟩⟩
 · exact h.elim
theorem opBuiltin_elim{b:Builtin}{ats:List TypeId}{args:List Operand}(h:opBuiltin T b ats args ρ bx g K):∃r e,opBuiltin T b ats args ρ bx g (Is r e)∧K r e:=by
 unfold opBuiltin at h ⊢
 split at h
 · split at h
   · split at h
     · split at h
       · split at h
         · obtain⟨m,e,hK⟩:=h;exact⟨_,_,⟨m,e,rfl,rfl⟩,hK⟩
         · obtain⟨m,e,hK⟩:=h;exact⟨_,_,⟨m,e,rfl,rfl⟩,hK⟩
         · exact⟨_,_,⟨rfl,rfl⟩,h⟩
         · split at h
           · obtain⟨m,e,hK⟩:=h;exact⟨_,_,⟨m,e,rfl,rfl⟩,hK⟩
           · exact h.elim
         · obtain⟨m,e,hK⟩:=h;exact⟨_,_,⟨m,e,rfl,rfl⟩,hK⟩
         · exact h.elim
       · exact h.elim
     · exact h.elim
   · exact h.elim
 · split at h
   · split at h
     · obtain⟨m,e,hK⟩:=h;exact⟨_,_,⟨m,e,rfl,rfl⟩,hK⟩
     · exact h.elim
   · exact h.elim
 · split at h
   · split at h
     · obtain⟨m,e,hK⟩:=h;exact⟨_,_,⟨m,e,rfl,rfl⟩,hK⟩
     · exact h.elim
   · exact h.elim
 · split at h
   · rename_i s x t t'
     cases htt:Nat.beq t t' with
     |false=>rw[htt] at h;exact h.elim
     |true =>
      rw[htt] at h
      simp only[cond_true] at h ⊢
      split at h
      · split at h
        · split at h
          · rename_i te hte
            cases hp:Nat.blt 0 te.size with
            |false=>rw[hp] at h;exact h.elim
            |true =>
             rw[hp] at h
             simp only[cond_true] at h
             cases hzs:Nat.beq te.zero.cells.length te.size with
             |false=>rw[hzs] at h;exact h.elim
             |true =>
              rw[hzs] at h
              simp only[hp,hzs,cond_true] at h ⊢
              split at h
              · split at h
                · obtain⟨c,hc,hK⟩:=h
                  cases c with
                  |true=>exact⟨_,_,⟨true,hc,rfl,rfl⟩,hK⟩
                  |false =>
                   simp only at hK
                   split at hK
                   · rename_i hg
                     obtain⟨a1,a2,a3,hK⟩:=hK
                     refine⟨_,_,⟨false,hc,?_⟩,hK⟩
                     simp only[hg]
                     exact⟨a1,a2,a3,rfl,rfl⟩
                   · exact hK.elim
                · split at h
                  · obtain⟨h1,h2,h3,h4,h5,h6,h7,hK⟩:=h
                    exact⟨_,_,⟨h1,h2,h3,h4,h5,h6,h7,rfl,rfl⟩,hK⟩
                  · exact h.elim
                · exact h.elim
              · exact h.elim
          · exact h.elim
        · exact h.elim
      · exact h.elim
   · exact h.elim
 · split at h
   · split at h
     · split at h
       · split at h
         · rename_i te hte
           cases hp:Nat.beq te.size 1 with
           |false=>rw[hp] at h;exact h.elim
           |true =>
            rw[hp] at h
            simp only[hp,cond_true] at h ⊢
            split at h
            · split at h
              · split at h
                · obtain⟨q1,q2,q3,q4,m,q5,hK⟩:=h
                  exact⟨_,_,⟨q1,q2,q3,q4,m,q5,rfl,rfl⟩,hK⟩
                · exact h.elim
              · exact h.elim
            · exact h.elim
         · exact h.elim
       · exact h.elim
     · exact h.elim
   · exact h.elim
 · exact h.elim
theorem opP_elim(h:opP T Φ o ρ bx g K):∃r e,opP T Φ o ρ bx g (Is r e)∧K r e:=by
 unfold opP at h ⊢
 split at h
 · split at h<;>exact⟨_,_,⟨rfl,rfl⟩,h⟩
 · split at h<;>exact⟨_,_,⟨rfl,rfl⟩,h⟩
 · split at h
   · obtain⟨r,h1,h2,hK⟩:=h;exact⟨_,_,⟨r,h1,h2,rfl,rfl⟩,hK⟩
   · exact h.elim
 · split at h
   · exact⟨_,_,⟨rfl,rfl⟩,h⟩
   · exact h.elim
 · split at h
   · rename_i y f hx hg
     cases hy:y.isTup with
     |true=>rw[hy] at h;exact h.elim
     |false=>rw[hy] at h;exact⟨_,_,⟨rfl,rfl⟩,h⟩
   · exact h.elim
 · split at h
   · split at h
     · split at h
       · exact⟨_,_,⟨rfl,rfl⟩,h⟩
       · exact h.elim
     · split at h
       · split at h
         · exact⟨_,_,⟨rfl,rfl⟩,h⟩
         · exact h.elim
       · exact h.elim
     · exact h.elim
   · exact h.elim
 · rename_i t len parts hop
   split at h
   · split at h
     · split at h
       · rename_i te hte
         cases hbb:(Nat.blt 0 te.size&&Nat.ble (len*te.size) 16777216&&Nat.beq te.zero.cells.length te.size) with
         |false=>rw[hbb] at h;exact h.elim
         |true =>
          rw[hbb] at h
          simp only[hbb,cond_true] at h ⊢
          split at h
          · exact⟨_,_,⟨rfl,rfl⟩,h⟩
          · exact h.elim
       · exact h.elim
     · exact h.elim
   · exact h.elim
 · split at h
   · rename_i ty ht
     split at h
     · split at h
       · split at h
         · exact⟨_,_,⟨rfl,rfl⟩,h⟩
         · exact h.elim
       · rename_i off hx _ v0 cs j e sz es hbx
         cases hc:(Nat.beq off j&&Nat.beq ty.size 1 && !ty.sh.agg) with
         |false=>rw[hc] at h;exact h.elim
         |true =>
          rw[hc] at h
          simp only[hc,cond_true] at h ⊢
          cases v0<;>exact⟨_,_,⟨rfl,rfl⟩,h⟩
       · exact h.elim
     · split at h
       · exact⟨_,_,⟨rfl,rfl⟩,h⟩
       · exact h.elim
     · split at h
       · obtain⟨y,hj,h⟩:=h
         split at h
         · rename_i r hl
           refine⟨_,_,⟨y,hj,?_⟩,h⟩
           simp only[hl]
           exact⟨rfl,rfl⟩
         · exact h.elim
       · exact h.elim
     · exact h.elim
   · exact h.elim
 · split at h
   · rename_i ty z f ht hy
     cases hbb:(Nat.beq z.cells.length ty.size && !z.isTup) with
     |false=>rw[hbb] at h;exact h.elim
     |true =>
      rw[hbb] at h
      simp only[hbb,cond_true] at h ⊢
      split at h
      · split at h
        · split at h
          · exact⟨_,_,⟨rfl,rfl⟩,h⟩
          · exact h.elim
        · exact h.elim
      · split at h
        · obtain⟨hf,u,hj,h⟩:=h
          split at h
          · rename_i u' hs
            refine⟨_,_,⟨hf,u,hj,?_⟩,h⟩
            simp only[hs]
            exact⟨rfl,rfl⟩
          · exact h.elim
        · exact h.elim
      · exact h.elim
   · exact h.elim
 · split at h
   · obtain⟨e,h⟩:=h
     obtain⟨r,hJ,hall⟩:=intRes_elim h
     exact⟨_,_,⟨e,hall _ ⟨rfl,rfl⟩⟩,hJ⟩
   · obtain⟨r,hJ,hall⟩:=strRes_elim h
     exact⟨_,_,hall _ ⟨rfl,rfl⟩,hJ⟩
   · split at h
     · split at h
       · obtain⟨r,hJ,hall⟩:=boolRes_elim h
         exact⟨_,_,hall _ ⟨rfl,rfl⟩,hJ⟩
       · exact h.elim
     · exact h.elim
   · exact h.elim
 · split at h
   · obtain⟨c,e,hK⟩:=h;exact⟨_,_,⟨c,e,rfl,rfl⟩,hK⟩
   · obtain⟨c,e,hK⟩:=h;exact⟨_,_,⟨c,e,rfl,rfl⟩,hK⟩
   · exact h.elim
 · split at h
   · split at h
     · obtain⟨c,e,hK⟩:=h;exact⟨_,_,⟨c,e,rfl,rfl⟩,hK⟩
     · exact⟨_,_,⟨rfl,rfl⟩,h⟩
     · exact h.elim
   · exact h.elim
 · split at h
   · split at h
     · split at h
       · rename_i te kl p kc q hte hl hc
         cases hbb:(Nat.blt 0 te.size&&Nat.beq te.zero.cells.length te.size) with
         |false=>rw[hbb] at h;exact h.elim
         |true =>
          rw[hbb] at h
          simp only[hbb,cond_true] at h ⊢
          obtain⟨e1,m,e2,h1,h2,hK⟩:=h
          exact⟨_,_,⟨e1,m,e2,h1,h2,rfl,rfl⟩,hK⟩
       · exact h.elim
     · exact h.elim
   · exact h.elim
 · split at h
   · split at h
     · split at h
       · obtain⟨u,h,q1⟩:=bnd_elim h
         obtain⟨l,⟨h1,h2,hK⟩,q2⟩:=bnd_elim h
         exact⟨_,_,q1 _ (q2 _ ⟨h1,h2,rfl,rfl⟩),hK⟩
       · exact h.elim
     · split at h
       · obtain⟨u,h,q1⟩:=bnd_elim h
         obtain⟨m,h,q2⟩:=bnd_elim h
         obtain⟨l,⟨h1,h2,h3,h4,h5,hK⟩,q3⟩:=bnd_elim h
         exact⟨_,_,q1 _ (q2 _ (q3 _ ⟨h1,h2,h3,h4,h5,rfl,rfl⟩)),hK⟩
       · exact h.elim
     · split at h
       · obtain⟨u,h,q1⟩:=bnd_elim h
         obtain⟨m,h,q2⟩:=bnd_elim h
         obtain⟨l,⟨h1,h2,h3,h4,hK⟩,q3⟩:=bnd_elim h
         exact⟨_,_,q1 _ (q2 _ (q3 _ ⟨h1,h2,h3,h4,rfl,rfl⟩)),hK⟩
       · exact h.elim
     · split at h
       · obtain⟨hsz,h⟩:=h
         obtain⟨u,h,q1⟩:=bnd_elim h
         obtain⟨m,h,q2⟩:=bnd_elim h
         obtain⟨l,⟨h1,h2,h3,h4,c,hc,hK⟩,q3⟩:=bnd_elim h
         cases c with
         |true=>exact⟨_,_,⟨hsz,q1 _ (q2 _ (q3 _ ⟨h1,h2,h3,h4,true,hc,rfl,rfl⟩))⟩,hK⟩
         |false=>exact⟨_,_,⟨hsz,q1 _ (q2 _ (q3 _ ⟨h1,h2,h3,h4,false,hc,rfl,rfl⟩))⟩,hK⟩
       · exact h.elim
     · exact h.elim
   · exact h.elim
 · split at h
   · split at h
     · rename_i fo ag sz hsh hf
       cases hbb:Nat.blt 0 sz with
       |false=>rw[hbb] at h;exact h.elim
       |true =>
        rw[hbb] at h
        simp only[hbb,cond_true] at h ⊢
        split at h
        · exact⟨_,_,⟨rfl,rfl⟩,h⟩
        · exact⟨_,_,⟨rfl,rfl⟩,h⟩
        · split at h
          · exact⟨_,_,⟨rfl,rfl⟩,h⟩
          · exact h.elim
        · exact h.elim
     · exact h.elim
   · exact h.elim
 · split at h
   · split at h
     · split at h
       · exact⟨_,_,⟨rfl,rfl⟩,h⟩
       · exact h.elim
     · exact h.elim
   · exact h.elim
 · split at h
   · split at h
     · split at h
       · obtain⟨j,y,h1,h2,h3,hK⟩:=h;exact⟨_,_,⟨j,y,h1,h2,h3,rfl,rfl⟩,hK⟩
       · exact h.elim
     · split at h
       · obtain⟨hsz,j,h1,h2,hK⟩:=h;exact⟨_,_,⟨hsz,j,h1,h2,rfl,rfl⟩,hK⟩
       · exact h.elim
     · split at h
       · obtain⟨j,h1,h2,hK⟩:=h;exact⟨_,_,⟨j,h1,h2,rfl,rfl⟩,hK⟩
       · exact h.elim
     · exact h.elim
   · exact h.elim
 · split at h
   · split at h
     · obtain⟨j,b,h1,h2,n,h3,hK⟩:=h;exact⟨_,_,⟨j,b,h1,h2,n,h3,rfl,rfl⟩,hK⟩
     · exact h.elim
   · exact h.elim
 · split at h
   · split at h
     · exact⟨_,_,⟨rfl,rfl⟩,h⟩
     · exact h.elim
   · exact h.elim
 · split at h
   · split at h<;>exact⟨_,_,⟨rfl,rfl⟩,h⟩
   · exact h.elim
 · exact opBuiltin_elim h
 · split at h
   · split at h
     · split at h
       · obtain⟨f',zs,hm,hfr,hK⟩:=h;exact⟨_,_,⟨f',zs,hm,hfr,rfl,rfl⟩,hK⟩
       · exact h.elim
     split at h
     · split at h
       · obtain⟨r,hr,hK⟩:=h;exact⟨_,_,⟨r,hr,rfl,rfl⟩,hK⟩
       · exact h.elim
     · split at h
       · split at h
         · split at h
           · obtain⟨hn,es',r,hr,hl,hK⟩:=h;exact⟨_,_,⟨hn,es',r,hr,hl,rfl,rfl⟩,hK⟩
           · exact h.elim
         · exact h.elim
       · exact h.elim
   · exact h.elim
 · exact h.elim
end
def actE(e:Eff)(id:Nat)(b:Option Bx):Option Bx :=
 e.wr.foldl (fun b p=>bif Nat.beq id p.1 then some p.2 else b) (bif e.fz.any (Nat.beq id) then fzB b else b)
theorem fzB_fzB(b:Option Bx):fzB (fzB b)=fzB b:=by
 cases b with
 |none=>rfl
 |some b=>cases b<;>rfl
theorem wrAll_at:∀(wr:List (Nat×Bx)) (bx:Nat→Option Bx) (id:Nat),wrAll bx wr id=wr.foldl (fun b p=>bif Nat.beq id p.1 then some p.2 else b) (bx id)
 | [],_,_=>rfl
 | (g,b)::l,bx,id=>by rw[wrAll,wrAll_at l];rfl
theorem fzAll_at:∀(fz:List Nat) (bx:Nat→Option Bx) (id:Nat),fzAll bx fz id=bif fz.any (Nat.beq id) then fzB (bx id) else bx id
 | [],_,_=>rfl
 |g::l,bx,id=>by
  rw[fzAll,fzAll_at l,List.any_cons]
  cases h:Nat.beq id g with
  |true =>
   have e:=Nat.eq_of_beq_eq_true h;subst e
   rw[upd_same]
   cases l.any (Nat.beq id)<;>simp[fzB_fzB]
  |false =>
   rw[upd_other _ _ _ (Nat.ne_of_beq_eq_false h)];simp
theorem app_at(bx:Nat→Option Bx)(e:Eff)(id:Nat):wrAll (fzAll bx e.fz) e.wr id=actE e id (bx id):=by
 rw[wrAll_at,fzAll_at,actE]
theorem fzB_eqF(b:Option Bx):eqF (fzB b) b:=by
 cases b with
 |none=>exact .inl rfl
 |some b=>cases b with
  |var x=>exact .inl rfl
  |arr e sz es f=>exact .inr ⟨e,sz,es,true,f,rfl,rfl⟩
  |bld s=>exact .inl rfl
  |arrN=>exact .inl rfl
  |dead=>exact .inl rfl
theorem actE_eqF{b b':Option Bx}(e:Eff)(id:Nat)(h:eqF b b'):eqF (actE e id b) (actE e id b'):=by
 unfold actE
 have h0:eqF (bif e.fz.any (Nat.beq id) then fzB b else b) (bif e.fz.any (Nat.beq id) then fzB b' else b'):=by
  cases e.fz.any (Nat.beq id)
  · exact h
  · exact((fzB_eqF b).trans h).trans (fzB_eqF b').symm
 generalize (bif e.fz.any (Nat.beq id) then fzB b else b)=x at h0 ⊢
 generalize (bif e.fz.any (Nat.beq id) then fzB b' else b')=y at h0 ⊢
 revert x y
 induction e.wr with
 |nil=>exact fun x y h=>h
 |cons p l ih =>
  intro x y h
  simp only[List.foldl_cons]
  apply ih
  cases Nat.beq id p.1
  · exact h
  · exact eqF.refl _
def noWr(e:Eff)(id:Nat):Prop:=∀p∈e.wr,p.1≠id
def idle(e:Eff)(id:Nat):Prop:=noWr e id∧¬id∈e.fz
theorem foldl_noWr{id:Nat}:∀{wr:List (Nat×Bx)},(∀p∈wr,p.1≠id)→∀b:Option Bx,wr.foldl (fun b p=>bif Nat.beq id p.1 then some p.2 else b) b=b
 | [],_,_=>rfl
 |p::l,h,b=>by
  have h1:Nat.beq id p.1=false:=by
   cases hb:Nat.beq id p.1
   · rfl
   · exact absurd (Nat.eq_of_beq_eq_true hb).symm (h p (by simp))
  rw[List.foldl_cons,h1]
  exact foldl_noWr (fun q hq=>h q (by simp[hq])) b
theorem any_beq{id:Nat}{l:List Nat}:l.any (Nat.beq id)=true↔id∈l:=by
 rw[List.any_eq_true]
 exact⟨fun⟨x,h1,h2⟩=>by rw[Nat.eq_of_beq_eq_true h2];exact h1,fun h=>⟨id,h,Nat.beq_refl id⟩⟩
theorem actE_noWr{e:Eff}{id:Nat}(h:noWr e id)(b:Option Bx):actE e id b=bif e.fz.any (Nat.beq id) then fzB b else b:=by
 rw[actE,foldl_noWr h]
theorem actE_noWr_eqF{e:Eff}{id:Nat}(h:noWr e id)(b:Option Bx):eqF (actE e id b) b:=by
 rw[actE_noWr h]
 cases e.fz.any (Nat.beq id)
 · exact eqF.refl _
 · exact fzB_eqF b
theorem actE_idle{e:Eff}{id:Nat}(h:idle e id)(b:Option Bx):actE e id b=b:=by
 rw[actE_noWr h.1]
 cases hb:e.fz.any (Nat.beq id)
 · rfl
 · exact absurd (any_beq.1 hb) h.2
def meets(x y:Eff):Bool:=x.wr.any fun p=>y.rd.any (Nat.beq p.1)||(y.fz.any (Nat.beq p.1)||y.wr.any fun q=>Nat.beq p.1 q.1)
theorem meets_spec{x y:Eff}(h:meets x y=false){p:Nat×Bx}(hp:p∈x.wr):idle y p.1∧¬p.1∈y.rd:=by
 simp only[meets,List.any_eq_false,Bool.or_eq_true,not_or,Bool.not_eq_true] at h
 obtain⟨h1,h2,h3⟩:=h p hp
 refine⟨⟨fun q hq e=>?_,fun hm=>?_⟩,fun hm=>?_⟩
 · have:=h3 q hq
   rw[←e,Nat.beq_refl] at this;cases this
 · have:=h2 _ hm
   rw[Nat.beq_refl] at this;cases this
 · have:=h1 _ hm
   rw[Nat.beq_refl] at this;cases this
theorem meets_not{x y:Eff}(h:meets x y=false){id:Nat}(hid:id∈y.rd∨¬idle y id):noWr x id:=fun p hp e=>by
 subst e
 exact hid.elim (meets_spec h hp).2 (fun k=>k (meets_spec h hp).1)
theorem meets_idle{x y:Eff}(h:meets x y=false){id:Nat}(hid:¬noWr x id):idle y id∧¬id∈y.rd:=by
 have h0:∃p∈x.wr,p.1=id:=by
  apply Classical.byContradiction
  intro hn
  exact hid fun p hp e=>hn ⟨p,hp,e⟩
 obtain⟨p,hp,rfl⟩:=h0
 exact meets_spec h hp
theorem actE_comm{x y:Eff}(h1:meets x y=false)(h2:meets y x=false)(id:Nat)(b:Option Bx):actE x id (actE y id b)=actE y id (actE x id b):=by
 by_cases hx:noWr x id
 · by_cases hy:noWr y id
   · rw[actE_noWr hx,actE_noWr hx,actE_noWr hy,actE_noWr hy]
     cases x.fz.any (Nat.beq id)<;>cases y.fz.any (Nat.beq id)<;>rfl
   · have:=(meets_idle h2 hy).1
     rw[actE_idle this,actE_idle this]
 · have:=(meets_idle h1 hx).1
   rw[actE_idle this,actE_idle this]
structure Lg where
 r:SV
 e:Eff
instance :Inhabited Lg:=⟨⟨.und,{}⟩⟩
def tmF(D:Nat→Option Nat)(L:Nat→Lg)(S:Nat→Bool)(t:Nat):List Nat→SV→SV
 | [],x=>x
 |i::l,x=>tmF D L S t l (if S i=true∧D i=some t then(L i).r else x)
def bxF(L:Nat→Lg)(S:Nat→Bool)(id:Nat):List Nat→Option Bx→Option Bx
 | [],b=>b
 |i::l,b=>bxF L S id l (if S i=true then actE (L i).e id b else b)
section
variable {D:Nat→Option Nat}{L:Nat→Lg}{S S':Nat→Bool}
theorem tmF_agree{t:Nat}:∀{l:List Nat} {x:SV},(∀i∈l,D i=some t→S i=S' i)→tmF D L S t l x=tmF D L S' t l x
 | [],_,_=>rfl
 |i::l,x,h=>by
  rw[tmF,tmF]
  have e:(if S i=true∧D i=some t then(L i).r else x)=(if S' i=true∧D i=some t then(L i).r else x):=by
   by_cases hd:D i=some t
   · rw[h i (by simp) hd]
   · simp[hd]
  rw[e]
  exact tmF_agree (fun j hj=>h j (by simp[hj]))
theorem bxF_agree{id:Nat}:∀{l:List Nat} {x:Option Bx},(∀i∈l,S i≠S' i→idle (L i).e id)→bxF L S id l x=bxF L S' id l x
 | [],_,_=>rfl
 |i::l,x,h=>by
  rw[bxF,bxF]
  have e:(if S i=true then actE (L i).e id x else x)=(if S' i=true then actE (L i).e id x else x):=by
   by_cases hd:S i=S' i
   · rw[hd]
   · rw[actE_idle (h i (by simp) hd)];simp
  rw[e]
  exact bxF_agree (fun j hj=>h j (by simp[hj]))
theorem bxF_eqF{id:Nat}:∀{l:List Nat} {x y:Option Bx},(∀i∈l,S i≠S' i→noWr (L i).e id)→eqF x y→eqF (bxF L S id l x) (bxF L S' id l y)
 | [],_,_,_,h=>h
 |i::l,x,y,h,hxy=>by
  rw[bxF,bxF]
  refine bxF_eqF (fun j hj=>h j (by simp[hj])) ?_
  by_cases hd:S i=S' i
  · rw[hd]
    by_cases hs:S' i=true
    · simp only[hs,if_true];exact actE_eqF _ _ hxy
    · simp only[hs];exact hxy
  · have hn:=h i (by simp) hd
    by_cases hs:S i=true
    · have hs':¬S' i=true:=fun e=>hd (by rw[hs,e])
      simp only[hs,hs',if_true]
      exact(actE_noWr_eqF hn x).trans hxy
    · by_cases hs':S' i=true
      · simp only[hs,hs',if_true]
        exact hxy.trans (actE_noWr_eqF hn y).symm
      · simp only[hs,hs'];exact hxy
theorem bxF_past{id:Nat}(A:Option Bx→Option Bx):∀{l:List Nat} {x:Option Bx},(∀j∈l,S j=true→∀b,actE (L j).e id (A b)=A (actE (L j).e id b))→bxF L S id l (A x)=A (bxF L S id l x)
 | [],_,_=>rfl
 |j::l,x,h=>by
  rw[bxF,bxF]
  by_cases hs:S j=true
  · simp only[hs,if_true]
    rw[h j (by simp) hs]
    exact bxF_past A (fun k hk=>h k (by simp[hk]))
  · simp only[hs]
    exact bxF_past A (fun k hk=>h k (by simp[hk]))
theorem bxF_add{id i:Nat}(hS:∀j,S' j=(S j||Nat.beq j i))(hi:S i=false):∀{l:List Nat} {x:Option Bx},l.Pairwise (· < ·)→i∈l→
 (∀j∈l,i<j→S j=true→∀b,actE (L j).e id (actE (L i).e id b)=actE (L i).e id (actE (L j).e id b))→bxF L S' id l x=actE (L i).e id (bxF L S id l x)
 | [],_,_,h,_=>by simp at h
 |j::l,x,hp,hm,h=>by
  rw[bxF,bxF]
  have hp':=List.pairwise_cons.1 hp
  by_cases hji:j=i
  · subst hji
    have h1:S' j=true:=by rw[hS,Nat.beq_refl];simp
    simp only[h1,hi,if_true]
    have e:bxF L S' id l (actE (L j).e id x)=bxF L S id l (actE (L j).e id x):=bxF_agree fun k hk hne=>by
     have:=hp'.1 k hk
     refine absurd ?_ hne
     rw[hS]
     have:Nat.beq k j=false:=by
      cases hb:Nat.beq k j
      · rfl
      · have:=Nat.eq_of_beq_eq_true hb;omega
     rw[this];simp
    rw[e]
    simpa using bxF_past (actE (L j).e id) (fun k hk hs b=>h k (by simp[hk]) (hp'.1 k hk) hs b)
  · have hm':i∈l:=by
     rcases List.mem_cons.1 hm with e|e
     · exact absurd e.symm hji
     · exact e
    have h1:S' j=S j:=by
     rw[hS]
     have:Nat.beq j i=false:=by
      cases hb:Nat.beq j i
      · rfl
      · exact absurd (Nat.eq_of_beq_eq_true hb) hji
     rw[this];simp
    rw[h1]
    exact bxF_add hS hi hp'.2 hm' (fun k hk=>h k (by simp[hk]))
theorem tmF_add{t i:Nat}(hS:∀j,S' j=(S j||Nat.beq j i)):∀{l:List Nat} {x:SV},i∈l→(∀j∈l,D i=some t→D j=some t→j=i)→
 tmF D L S' t l x=if D i=some t then(L i).r else tmF D L S t l x:=by
 intro l x hm hu
 by_cases hd:D i=some t
 · simp only[hd,if_true]
   have key:∀(l:List Nat) (x:SV),(∀j∈l,D j=some t→j=i)→(x=(L i).r∨i∈l)→tmF D L S' t l x=(L i).r:=by
    intro l
    induction l with
    |nil=>intro x _ h;simpa[tmF] using h
    |cons j l ih =>
     intro x hu h
     rw[tmF]
     refine ih _ (fun k hk=>hu k (by simp[hk])) ?_
     by_cases hji:j=i
     · subst hji
       left
       have:S' j=true:=by rw[hS,Nat.beq_refl];simp
       simp[this,hd]
     · have hdj:¬D j=some t:=fun e=>hji (hu j (by simp) e)
       rcases h with h|h
       · left;simp[hdj,h]
       · right
         rcases List.mem_cons.1 h with e|e
         · exact absurd e.symm hji
         · exact e
   exact key l x (fun j hj e=>hu j hj hd e) (.inr hm)
 · simp only[hd]
   exact tmF_agree fun j hj hdj=>by
    rw[hS]
    have:Nat.beq j i=false:=by
     cases hb:Nat.beq j i
     · rfl
     · have:=Nat.eq_of_beq_eq_true hb;subst this;exact absurd hdj hd
    rw[this];simp
end
def ysS(all:Array Oper)(tm:Nat→SV)(o:Oper):Option Bool :=
 match o.guard with
 |none=>some true
 |some (j,want)=>match(all[j]?).bind (·.dst) with
  |none=>some false
  |some t=>match tm t with
   | .iv (.bool b)=>some (b==want)
   | .und=>some false
   |_=>none
section
variable (T:TypeId→Option TY)(Φ:Ctr)
def Fact(all:Array Oper)(o:Oper)(g:Nat)(tm:Nat→SV)(bx:Nat→Option Bx)(l:Lg):Prop :=
 (ysS all tm o=some true∧opP T Φ o (evS tm) bx g (Is l.r l.e))∨(ysS all tm o=some false∧l.r=.und∧l.e = {})
def opsP(all:Array Oper):List Oper→Nat→(Nat→SV)→(Nat→Option Bx)→List Lg→((Nat→SV)→(Nat→Option Bx)→List Lg→Prop)→Prop
 | [],_,tm,bx,log,K=>K tm bx log
 |o::os,g,tm,bx,log,K=>match ysS all tm o with
  |some true=>opP T Φ o (evS tm) bx g (fun r e=>opsP all os (g+1) (putS tm o.dst r) (wrAll (fzAll bx e.fz) e.wr) (⟨r,e⟩::log) K)
  |some false=>opsP all os (g+1) (putS tm o.dst .und) bx (⟨.und,{}⟩::log) K
  |none=>False
variable {T}{Φ}
theorem opsP_facts{all:Array Oper}{K:(Nat→SV)→(Nat→Option Bx)→List Lg→Prop}:∀{os:List Oper} {g:Nat} {tm:Nat→SV} {bx:Nat→Option Bx} {log:List Lg},opsP T Φ all os g tm bx log K→
 ∃recs:List Lg,recs.length=os.length∧
  (∀k o l,os[k]?=some o→recs[k]?=some l→Fact T Φ all o (g+k) (((os.zip recs).take k).foldl (fun tm p=>putS tm p.1.dst p.2.r) tm) (((os.zip recs).take k).foldl (fun bx p=>wrAll (fzAll bx p.2.e.fz) p.2.e.wr) bx) l)∧
  K ((os.zip recs).foldl (fun tm p=>putS tm p.1.dst p.2.r) tm) ((os.zip recs).foldl (fun bx p=>wrAll (fzAll bx p.2.e.fz) p.2.e.wr) bx) (recs.reverse++log):=by
 intro os
 induction os with
 |nil=>intro g tm bx log h;exact⟨[],rfl,fun k o l hk=>by simp at hk,h⟩
 |cons o os ih =>
  intro g tm bx log h
  unfold opsP at h
  have key:∃l:Lg,Fact T Φ all o g tm bx l∧opsP T Φ all os (g+1) (putS tm o.dst l.r) (wrAll (fzAll bx l.e.fz) l.e.wr) (l::log) K:=by
   split at h
   · rename_i hy
     obtain⟨r,e,h1,h2⟩:=opP_elim h
     exact⟨⟨r,e⟩,.inl ⟨hy,h1⟩,h2⟩
   · rename_i hy
     exact⟨⟨.und,{}⟩,.inr ⟨hy,rfl,rfl⟩,h⟩
   · exact h.elim
  obtain⟨l,hf,h'⟩:=key
  obtain⟨recs,e1,e2,e3⟩:=ih h'
  refine⟨l::recs,by simp[e1],?_,by simpa using e3⟩
  intro k o' l' hk hl
  cases k with
  |zero=>simp at hk hl;subst hk;subst hl;simpa using hf
  |succ k =>
   simp only[List.getElem?_cons_succ] at hk hl
   have:=e2 k o' l' hk hl
   rw[show g+1+k=g+(k+1) by omega] at this
   simpa using this
end
def edgesOf(o:Oper):List Nat:=o.after.toList.filterMap fun e=>bif Region.binds .any e then some e.on else none
def maskOf(tab:List Nat)(es:List Nat):Nat:=es.foldl (fun m e=>m ||| (1 <<< e ||| tab.getD e 0)) 0
def ancs(ops:List Oper):List Nat:=ops.foldl (fun tab o=>tab ++ [maskOf tab (edgesOf o)]) []
def looksB(all:Array Oper)(o:Oper):List Nat :=
 match o.guard with
 |some (j,_)=>match(all[j]?).bind (·.dst) with
  |some t=>t::(o.op.operands.toList.filterMap fun | .tmp t=>some t|_=>none)
  |none=>o.op.operands.toList.filterMap fun | .tmp t=>some t|_=>none
 |none=>o.op.operands.toList.filterMap fun | .tmp t=>some t|_=>none
def writers(ops:List Oper)(k:Nat):List (Nat×Nat) :=
 match ops with
 | []=>[]
 |o::os=>match o.dst with
  |some d=>(d,k)::writers os (k+1)
  |none=>writers os (k+1)
def uniq:List (Nat×Nat)→Bool
 | []=>true
 |p::l=>l.all (fun q=>!Nat.beq p.1 q.1)&&uniq l
def near(tab:List Nat)(i j:Nat):Bool:=Nat.beq i j||((tab.getD i 0).testBit j||(tab.getD j 0).testBit i)
def flowFrom(all:Array Oper)(tab:List Nat)(ws:List (Nat×Nat)):List Oper→Nat→Bool
 | [],_=>true
 |o::os,i=>(Nat.beq (tab.getD i 0) (maskOf tab (edgesOf o))&&(edgesOf o).all fun e=>Nat.blt e i) &&
  ((looksB all o).all (fun t=>ws.all fun p=>!Nat.beq p.1 t||near tab i p.2)&&flowFrom all tab ws os (i+1))
def flowOk(all:Array Oper)(tab:List Nat):Bool:=uniq (writers all.toList 0)&&flowFrom all tab (writers all.toList 0) all.toList 0
def confRow(tab:List Nat)(i:Nat)(x:Eff):List Lg→Nat→Bool
 | [],_=>true
 |l::ls,j=>(near tab i j || !meets x l.e)&&confRow tab i x ls (j+1)
def confFrom(tab:List Nat)(all:List Lg):List Lg→Nat→Bool
 | [],_=>true
 |l::ls,i=>(match l.e.wr with
  | []=>true
  |_=>confRow tab i l.e all 0)&&confFrom tab all ls (i+1)
def noConf(tab:List Nat)(log:List Lg):Bool:=confFrom tab log log 0
theorem foldl_mask{tab:List Nat}{a:Nat}:∀{es:List Nat} {m:Nat},(es.foldl (fun m e=>m ||| (1 <<< e ||| tab.getD e 0)) m).testBit a=true→m.testBit a=true∨∃e∈es,e=a∨(tab.getD e 0).testBit a=true
 | [],m,h=>.inl h
 |e::es,m,h=>by
  rw[List.foldl_cons] at h
  rcases foldl_mask h with h|⟨e',h1,h2⟩
  · rw[Nat.testBit_or,Nat.testBit_or] at h
    cases hm:m.testBit a with
    |true=>exact .inl rfl
    |false =>
     right
     refine⟨e,by simp,?_⟩
     cases h1:(tab.getD e 0).testBit a with
     |true=>exact .inr rfl
     |false =>
      left
      rw[hm,h1] at h
      simp only[Nat.one_shiftLeft,Nat.testBit_two_pow,Bool.false_or,Bool.or_false,decide_eq_true_eq] at h
      exact h
  · exact .inr ⟨e',by simp[h1],h2⟩
theorem maskOf_spec{tab es:List Nat}{a:Nat}(h:(maskOf tab es).testBit a=true):∃e∈es,e=a∨(tab.getD e 0).testBit a=true:=by
 rcases foldl_mask h with h|h
 · simp at h
 · exact h
structure Flow(all:Array Oper)(tab:List Nat):Prop where
 edge:∀(i:Nat) (o:Oper),all[i]?=some o→∀e∈edgesOf o,e<i
 mask:∀(i:Nat) (o:Oper),all[i]?=some o→tab.getD i 0=maskOf tab (edgesOf o)
 uniq:∀(i j:Nat) (o o':Oper) (d:Nat),all[i]?=some o→all[j]?=some o'→o.dst=some d→o'.dst=some d→i=j
 looks:∀(i:Nat) (o:Oper),all[i]?=some o→∀t∈looksB all o,∀(j:Nat) (o':Oper),all[j]?=some o'→o'.dst=some t→near tab i j=true
theorem writers_mem{ops:List Oper}:∀{k j:Nat} {o:Oper} {d:Nat},ops[j]?=some o→o.dst=some d→(d,k+j)∈writers ops k:=by
 induction ops with
 |nil=>intro k j o d h;simp at h
 |cons p l ih =>
  intro k j o d h hd
  unfold writers
  cases j with
  |zero=>simp at h;subst h;simp[hd]
  |succ j =>
   have:=ih (k:=k+1) (by simpa using h) hd
   rw[show k+1+j=k+(j+1) by omega] at this
   split<;>simp[this]
theorem uniq_spec:∀{l:List (Nat×Nat)},uniq l=true→∀p∈l,∀q∈l,p.1=q.1→p=q
 | [],_,p,hp=>by simp at hp
 |x::l,h,p,hp=>by
  simp only[uniq,Bool.and_eq_true,List.all_eq_true,Bool.not_eq_true'] at h
  intro q hq e
  rcases List.mem_cons.1 hp with hp|hp
  · rcases List.mem_cons.1 hq with hq|hq
    · rw[hp,hq]
    · have:=h.1 q hq
      rw[←hp,e,Nat.beq_refl] at this;cases this
  · rcases List.mem_cons.1 hq with hq|hq
    · have:=h.1 p hp
      rw[←hq,←e,Nat.beq_refl] at this;cases this
    · exact uniq_spec h.2 p hp q hq e
theorem flowFrom_spec{all:Array Oper}{tab:List Nat}{ws:List (Nat×Nat)}:∀{os:List Oper} {k:Nat},flowFrom all tab ws os k=true→∀i o,os[i]?=some o→
 (∀e∈edgesOf o,e<k+i)∧tab.getD (k+i) 0=maskOf tab (edgesOf o)∧∀t∈looksB all o,∀p∈ws,p.1=t→near tab (k+i) p.2=true
 | [],_,_,i,o,h=>by simp at h
 |o'::os,k,h,i,o,ho=>by
  simp only[flowFrom,Bool.and_eq_true] at h
  obtain⟨⟨h1,h2⟩,h3,h4⟩:=h
  cases i with
  |zero =>
   simp at ho;subst ho
   refine⟨fun e he=>?_,Nat.eq_of_beq_eq_true h1,fun t ht p hp e=>?_⟩
   · have:=List.all_eq_true.1 h2 e he
     simp[Nat.blt_eq] at this;omega
   · have:=List.all_eq_true.1 (List.all_eq_true.1 h3 t ht) p hp
     rw[e,Nat.beq_refl] at this
     simpa using this
  |succ i =>
   have:=flowFrom_spec h4 i o (by simpa using ho)
   rw[show k+1+i=k+(i+1) by omega] at this
   exact this
theorem flow_of{all:Array Oper}{tab:List Nat}(h:flowOk all tab=true):Flow all tab:=by
 simp only[flowOk,Bool.and_eq_true] at h
 have sp:=fun i o (ho:all[i]?=some o)=>flowFrom_spec h.2 i o (by simpa using ho)
 simp only[Nat.zero_add] at sp
 have wm:∀{j:Nat} {o:Oper} {d:Nat},all[j]?=some o→o.dst=some d→(d,j)∈writers all.toList 0:=fun{j o d} ho hd=>by
  have:=writers_mem (k:=0) (ops:=all.toList) (j:=j) (o:=o) (d:=d) (by simpa using ho) hd
  rwa[Nat.zero_add] at this
 refine⟨fun i o ho=>(sp i o ho).1,fun i o ho=>(sp i o ho).2.1,fun i j o o' d h1 h2 h3 h4=>?_,fun i o ho t ht j o' h1 h2=>(sp i o ho).2.2 t ht _ (wm h1 h2) rfl⟩
 have:=uniq_spec h.1 _ (wm h1 h3) _ (wm h2 h4) rfl
 exact(Prod.mk.inj this).2
theorem confRow_spec{tab:List Nat}{i:Nat}{x:Eff}:∀{ls:List Lg} {k:Nat},confRow tab i x ls k=true→∀j l,ls[j]?=some l→near tab i (k+j)=true∨meets x l.e=false
 | [],_,_,j,l,h=>by simp at h
 |l'::ls,k,h,j,l,hl=>by
  simp only[confRow,Bool.and_eq_true,Bool.or_eq_true,Bool.not_eq_true'] at h
  cases j with
  |zero=>simp at hl;subst hl;exact h.1
  |succ j =>
   have:=confRow_spec h.2 j l (by simpa using hl)
   rwa[show k+1+j=k+(j+1) by omega] at this
theorem confFrom_spec{tab:List Nat}{all:List Lg}:∀{ls:List Lg} {k:Nat},confFrom tab all ls k=true→∀i x,ls[i]?=some x→∀j l,all[j]?=some l→near tab (k+i) j=true∨meets x.e l.e=false
 | [],_,_,i,x,h=>by simp at h
 |l'::ls,k,h,i,x,hx=>by
  simp only[confFrom,Bool.and_eq_true] at h
  intro j l hl
  cases i with
  |zero =>
   simp at hx;subst hx
   have h1:=h.1
   split at h1
   · rename_i hw
     exact .inr (by simp[meets,hw])
   · simpa using confRow_spec h1 j l hl
  |succ i =>
   have:=confFrom_spec h.2 i x (by simpa using hx) j l hl
   rwa[show k+1+i=k+(i+1) by omega] at this
theorem near_symm{tab:List Nat}{i j:Nat}:near tab i j=near tab j i:=by
 unfold near
 have:Nat.beq i j=Nat.beq j i:=by
  cases h:Nat.beq i j with
  |true=>rw[Nat.eq_of_beq_eq_true h,Nat.beq_refl]
  |false =>
   cases h2:Nat.beq j i with
   |false=>rfl
   |true=>rw[Nat.eq_of_beq_eq_true h2,Nat.beq_refl] at h;cases h
 rw[this,Bool.or_comm ((tab.getD i 0).testBit j)]
theorem filter_lt{p p':Nat→Bool}{i:Nat}(h1:p i=true)(h2:p' i=false)(h3:∀j,p' j=true→p j=true):∀{l:List Nat},i∈l→(l.filter p').length<(l.filter p).length
 | [],h=>by simp at h
 |j::l,h=>by
  have hle:∀l:List Nat,(l.filter p').length≤(l.filter p).length:=by
   intro l
   induction l with
   |nil=>simp
   |cons k l ih =>
    simp only[List.filter_cons]
    cases hp':p' k with
    |true=>simp[h3 k hp'];exact ih
    |false =>
     cases p k
     · simpa using ih
     · simp;omega
  by_cases hji:j=i
  · subst hji
    simp only[List.filter_cons,h1,h2,if_true]
    have:=hle l
    simp;omega
  · have hm:i∈l:=by
     rcases List.mem_cons.1 h with e|e
     · exact absurd e.symm hji
     · exact e
    have:=filter_lt h1 h2 h3 hm
    simp only[List.filter_cons]
    cases hp':p' j with
    |true=>simp[h3 j hp'];exact this
    |false =>
     cases p j
     · simpa using this
     · simp;omega
section
variable {all:Array Oper}{tab:List Nat}{S:Nat→Bool}
theorem Flow.anc_lt(hf:Flow all tab):∀(i:Nat) (o:Oper),all[i]?=some o→∀a,(tab.getD i 0).testBit a=true→a<i:=by
 intro i
 induction i using Nat.strongRecOn with
 |_ i ih =>
  intro o ho a ha
  rw[hf.mask i o ho] at ha
  obtain⟨e,he,h⟩:=maskOf_spec ha
  have hlt:=hf.edge i o ho e he
  rcases h with rfl|h
  · exact hlt
  · have hsz:e<all.size:=Nat.lt_trans hlt (Array.getElem?_eq_some_iff.1 ho).1
    have:=ih e hlt all[e] (by simp[hsz]) a h
    omega
def Closed(all:Array Oper)(S:Nat→Bool):Prop:=∀j o,all[j]?=some o→S j=true→∀e∈edgesOf o,S e=true
theorem Flow.anc_in(hf:Flow all tab)(hc:Closed all S):∀(i:Nat) (o:Oper),all[i]?=some o→(∀e∈edgesOf o,S e=true)→∀a,(tab.getD i 0).testBit a=true→S a=true:=by
 intro i
 induction i using Nat.strongRecOn with
 |_ i ih =>
  intro o ho he0 a ha
  rw[hf.mask i o ho] at ha
  obtain⟨e,he,h⟩:=maskOf_spec ha
  have hlt:=hf.edge i o ho e he
  rcases h with rfl|h
  · exact he0 e he
  · have hsz:e<all.size:=Nat.lt_trans hlt (Array.getElem?_eq_some_iff.1 ho).1
    have hg:all[e]?=some all[e]:=by simp[hsz]
    exact ih e hlt all[e] hg (hc e _ hg (he0 e he)) a h
theorem Flow.near_same(hf:Flow all tab)(hc:Closed all S){i j:Nat}{o o':Oper}(hi:all[i]?=some o)(hj:all[j]?=some o')(hr:∀e∈edgesOf o,S e=true)(hS:S i=false)(hn:near tab i j=true):decide (j<i)=S j:=by
 simp only[near,Bool.or_eq_true] at hn
 rcases hn with h|h|h
 · have:=Nat.eq_of_beq_eq_true h;subst this
   rw[hS];simp
 · rw[hf.anc_in hc i o hi hr j h]
   simpa using hf.anc_lt i o hi j h
 · have h1:=hf.anc_lt j o' hj i h
   cases hSj:S j with
   |true =>
    have:=hf.anc_in hc j o' hj (hc j o' hj hSj) i h
    rw[hS] at this;cases this
   |false=>simpa using by omega
end
section
variable {T:TypeId→Option TY}{Φ:Ctr}{all:Array Oper}{o:Oper}{g:Nat}{tm tm':Nat→SV}{bx bx':Nat→Option Bx}{l:Lg}
theorem mem_looks{x:Operand}{t:Nat}(hx:x∈o.op.operands)(e:x=.tmp t):t∈looksB all o:=by
 have h:t∈o.op.operands.toList.filterMap fun | .tmp t=>some t|_=>none:=List.mem_filterMap.2 ⟨x,by simpa using hx,by subst e;rfl⟩
 unfold looksB
 split
 · split
   · exact List.mem_cons_of_mem _ h
   · exact h
 · exact h
theorem Fact.foot(h:Fact T Φ all o g tm bx l)(ht:∀t∈looksB all o,tm' t=tm t)(hb:∀id∈l.e.rd,eqF (bx id) (bx' id))(hw:∀p∈l.e.wr,bx' p.1=bx p.1):Fact T Φ all o g tm' bx' l:=by
 have hy:ysS all tm' o=ysS all tm o:=by
  unfold ysS
  split
  · rfl
  · rename_i j want hg
    split
    · rfl
    · rename_i t hd
      have:tm' t=tm t:=ht t (by unfold looksB;simp only[hg,hd];simp)
      rw[this]
 unfold Fact at *
 rw[hy]
 rcases h with⟨h1,h2⟩|h
 · refine .inl ⟨h1,opP_foot h2 (fun x hx=>?_) hb hw⟩
   cases x with
   |tmp t=>exact ht t (mem_looks hx rfl)
   |_=>rfl
 · exact .inr h
theorem wanted_ys{E:Env}{nt:Nat}{H:Heap}{β:Nat→Nat×Nat}{a:Act}{w:World}(h:St E nt H β tm bx a w){c:Bool}(hy:ysS all tm o=some c):Region.wanted o (yielded all a.tmps)=c:=by
 unfold ysS at hy
 unfold Region.wanted
 split at hy
 · rename_i hg;simp only[hg];simpa using hy
 · rename_i j want hg
   simp only[hg]
   split at hy
   · rename_i hd
     simp only[yielded,hd,Option.bind_none]
     simpa using hy
   · rename_i t hd
     simp only[yielded,hd,Option.bind_some]
     have hs:=h.sim.slot t
     split at hy
     · rename_i b ht
       rw[ht] at hs
       have e:=VR.asBool hs
       cases hx:a.tmps[t]? with
       |none=>simp[hx,undef] at e
       |some u=>simp[hx] at e;subst e;simpa using hy
     · rename_i ht
       rw[ht] at hs
       change a.tmps.getD t undef=undef at hs
       cases hx:a.tmps[t]? with
       |none=>simpa using hy
       |some u=>simp[hx] at hs;subst hs;simpa[undef] using hy
     · cases hy
end
section
variable {P:Program}{I:World→Prop}{T:TypeId→Option TY}{Φ:Ctr}{E:Env}{nt:Nat}{Q:Exit→Act→World→Prop}
def dstsOk(nt:Nat)(l:List Oper):Bool:=l.all fun o=>match o.dst with
 |some d=>Nat.blt d nt
 |none=>true
theorem dstsOk_spec{l:List Oper}(h:dstsOk nt l=true){o:Oper}(ho:o∈l):∀d,o.dst=some d→d<nt:=fun d hd=>by
 have:=List.all_eq_true.1 h o ho
 simp only[hd,Nat.blt_eq] at this;exact this
def FW(ro:Option Nat):Fence:={ Fence.wide with round:=ro }
theorem callsW{P:Program}{ro:Option Nat}{n:Nat}{f:FuncId}{args:Array Value}{w:World}{R:Ending→World→Prop}(h:Calls P f args w R):CallsIn (FW ro) n P f args w R :=
 callsIn_wide (n:=n) |>.2 h
theorem rowsW{P:Program}{ro:Option Nat}{n:Nat}{row:String}{args:Array Value}{w:World}{R:Value→World→Prop}(h:Rows P row args w R):RowsIn (FW ro) n P row args w R :=
 fun c cs _=>let ⟨v,w',r,s⟩:=h c cs;⟨v,w',r,(stepsIn_wide (P:=P)).2 s⟩
theorem op_in{P:Program}{ro:Option Nat}{o:Oper}{a:Act}{w:World}{K:Act→World→Prop}{Q:Exit→Act→World→Prop}(hnd:∀c,o.op≠ .defer c)(h:o.wp P a w K Q):o.wpIn (FW ro) 0 P a w K Q:=by
 refine⟨fun _ _=>trivial,?_⟩
 rw[show(FW ro).round=ro from rfl,Oper.semAt_eq ro a.eval o hnd]
 unfold Oper.wp at h
 generalize (execOp a.eval o).run P w=r at *
 cases r with
 |ok x w' =>
  cases x<;>simp only[Oper.upon,Oper.uponIn] at h ⊢ <;>
   first
    |exact h
    |exact⟨fun e=>(by cases e),callsW h⟩
    |exact⟨fun e=>(by cases e),rowsW h⟩
 |halt x w'=>cases x<;>simp only[Oper.upon,Oper.uponIn] at h ⊢ <;> exact h
theorem fact_step{ro:Option Nat}(hT:TabOk P T)(hΦ:CtrOk P I Φ)(hIE:∀w,BelowO E.own E.w0 w→I w){all:Array Oper}{o:Oper}(hd:∀d,o.dst=some d→d<nt){H:Heap}{β:Nat→Nat×Nat}{tm:Nat→SV}{bx:Nat→Option Bx}{a:Act}{w:World}{g:Nat}{l:Lg}(h:St E nt H β tm bx a w)(hf:Fact T Φ all o g tm bx l)
 {K:Act→World→Prop} (hK:∀H β a w,St E nt H β (putS tm o.dst l.r) (wrAll (fzAll bx l.e.fz) l.e.wr) a w→K a w) :
 if Region.wanted o (yielded all a.tmps) then o.wpIn (FW ro) 0 P a w K Q else(∀f,o.about P w a.eval=some f→(FW ro).fn f)∧K (a.put o.dst undef) w:=by
 rcases hf with⟨hy,hop⟩|⟨hy,hr,he⟩
 · rw[wanted_ys h hy]
   simp only[if_true]
   refine op_in (fun c hc=>?_) (Oper.wp_mono (fun a w hp=>?_) (opP_ok hT hΦ (fun w' hw'=>hIE w' (h.sim.below.trans (hw'))) h hd hop))
   · unfold opP at hop;rw[hc] at hop;exact hop.elim
   obtain⟨r,e,H,β,⟨rfl,rfl⟩,hS⟩:=hp
   exact hK _ _ _ _ hS
 · rw[wanted_ys h hy]
   simp only[Bool.false_eq_true,if_false]
   rw[hr,he] at hK
   exact⟨fun _ _=>trivial,hK H β _ w (h.put hd (r:=.und) rfl)⟩
theorem Sim.drawn{H:Heap}{β:Nat→Nat×Nat}{tm:Nat→SV}{bx:Nat→Option Bx}{a:Act}{w:World}(h:St E nt H β tm bx a w):St E nt H β tm bx a { w with drawn:=w.drawn+1 } :=
 ⟨h.sim.same rfl rfl rfl rfl,h.defers,h.size⟩
theorem list_go{ro:Option Nat}(hT:TabOk P T)(hΦ:CtrOk P I Φ)(hIE:∀w,BelowO E.own E.w0 w→I w){all:Array Oper}{K:(Nat→SV)→(Nat→Option Bx)→List Lg→Prop}(hK:∀H β tm bx log a w,K tm bx log→St E nt H β tm bx a w→Q .normal a w) :
 ∀{os:List Oper} {g:Nat} {tm:Nat→SV} {bx:Nat→Option Bx} {log:List Lg} {H:Heap} {β:Nat→Nat×Nat} {a:Act} {w:World},dstsOk nt os=true→St E nt H β tm bx a w→opsP T Φ all os g tm bx log K→wpListIn (FW ro) 0 P all Q os a w:=by
 intro os
 induction os with
 |nil=>intro g tm bx log H β a w _ h ho;exact hK _ _ _ _ _ _ _ ho h
 |cons o os ih =>
  intro g tm bx log H β a w hd h ho
  have hd':dstsOk nt os=true:=by
   simp only[dstsOk,List.all_cons,Bool.and_eq_true] at hd;exact hd.2
  have key:∃l:Lg,Fact T Φ all o g tm bx l∧opsP T Φ all os (g+1) (putS tm o.dst l.r) (wrAll (fzAll bx l.e.fz) l.e.wr) (l::log) K:=by
   unfold opsP at ho
   split at ho
   · rename_i hy
     obtain⟨r,e,h1,h2⟩:=opP_elim ho
     exact⟨⟨r,e⟩,.inl ⟨hy,h1⟩,h2⟩
   · rename_i hy
     exact⟨⟨.und,{}⟩,.inr ⟨hy,rfl,rfl⟩,ho⟩
   · exact ho.elim
  obtain⟨l,hf,h'⟩:=key
  unfold wpListIn
  exact fact_step hT hΦ hIE (dstsOk_spec hd (by simp)) h hf fun H β a w hS=>ih hd' hS h'
theorem any_go{ro:Option Nat}(hT:TabOk P T)(hΦ:CtrOk P I Φ)(hIE:∀w,BelowO E.own E.w0 w→I w){all:Array Oper}{tab:List Nat}(hd:dstsOk nt all.toList=true)(hf:Flow all tab){g:Nat}{tm:Nat→SV}{bx:Nat→Option Bx}{D:Nat→Option Nat}(hD:∀i o,all[i]?=some o→D i=o.dst)(L:Nat→Lg)
 (hfact:∀i o,all[i]?=some o→Fact T Φ all o (g+i) (fun t=>tmF D L (fun j=>decide (j<i)) t (List.range all.size) (tm t)) (fun id=>bxF L (fun j=>decide (j<i)) id (List.range all.size) (bx id)) (L i))
 (hconf:∀i j,i<all.size→j<all.size→near tab i j=true∨meets (L i).e (L j).e=false)
 (hQ:∀H β a w,St E nt H β (fun t=>tmF D L (fun _=>true) t (List.range all.size) (tm t)) (fun id=>bxF L (fun _=>true) id (List.range all.size) (bx id)) a w→Q .normal a w) :
 ∀(fuel:Nat) (listed:Array Bool) (S:Nat→Bool) (H:Heap) (β:Nat→Nat×Nat) (a:Act) (w:World),(∀j,j<all.size→listed.getD j true=S j∧listed.getD j false=S j)→((List.range all.size).filter fun j=>!S j).length≤fuel→Closed all S→
  St E nt H β (fun t=>tmF D L S t (List.range all.size) (tm t)) (fun id=>bxF L S id (List.range all.size) (bx id)) a w→wpAnyIn (FW ro) 0 P .any all Q fuel listed a w:=by
 have lt:∀{j o},all[j]?=some o→j<all.size:=fun h=>(Array.getElem?_eq_some_iff.1 h).1
 have edge_iff:∀{o:Oper} {p:Nat→Prop},(∀e∈o.after,Region.binds .any e=true→p e.on)↔∀e∈edgesOf o,p e:=by
  intro o p
  unfold edgesOf
  constructor
  · intro h e he
    obtain⟨x,hx,e'⟩:=List.mem_filterMap.1 he
    cases hb:Region.binds .any x with
    |true=>simp[hb] at e';subst e';exact h x (by simpa using hx) hb
    |false=>simp[hb] at e'
  · intro h x hx hb
    exact h _ (List.mem_filterMap.2 ⟨x,by simpa using hx,by simp[hb]⟩)
 have done:∀{listed:Array Bool} {S:Nat→Bool},(∀j,j<all.size→listed.getD j true=S j∧listed.getD j false=S j)→Region.ready .any all listed=[]→∀j,j<all.size→S j=true:=by
  intro listed S hl hr j
  induction j using Nat.strongRecOn with
  |_ j ih =>
   intro hj
   cases hS:S j with
   |true=>rfl
   |false =>
    have hg:all[j]?=some all[j]:=by simp[hj]
    have:j∈Region.ready .any all listed:=mem_ready.2 ⟨by rw[(hl j hj).1,hS],all[j],hg,(edge_iff (p:=fun e=>listed.getD e false=true)).2 fun e he=>by
     have:=hf.edge j _ hg e he
     rw[(hl e (by omega)).2];exact ih e this (by omega)⟩
    rw[hr] at this;simp at this
 have fin:∀{S:Nat→Bool} {H:Heap} {β:Nat→Nat×Nat} {a:Act} {w:World},(∀j,j<all.size→S j=true)→St E nt H β (fun t=>tmF D L S t (List.range all.size) (tm t)) (fun id=>bxF L S id (List.range all.size) (bx id)) a w→Q .normal a w:=by
  intro S H β a w hS h
  refine hQ H β a w ?_
  have e1:(fun t=>tmF D L S t (List.range all.size) (tm t))=(fun t=>tmF D L (fun _=>true) t (List.range all.size) (tm t)):=funext fun t=>tmF_agree fun i hi _=>hS i (List.mem_range.1 hi)
  have e2:(fun id=>bxF L S id (List.range all.size) (bx id))=(fun id=>bxF L (fun _=>true) id (List.range all.size) (bx id)):=funext fun id=>bxF_agree fun i hi hne=>absurd (hS i (List.mem_range.1 hi)) hne
  rw[←e1,←e2];exact h
 intro fuel
 induction fuel with
 |zero =>
  intro listed S H β a w hl hn hc h
  have hS:∀j,j<all.size→S j=true:=fun j hj=>by
   have h0:(List.range all.size).filter (fun j=>!S j)=[]:=List.eq_nil_of_length_eq_zero (by omega)
   have:=List.filter_eq_nil_iff.1 h0 j (List.mem_range.2 hj)
   simpa using this
  refine⟨?_,fin hS h⟩
  cases hr:Region.ready .any all listed with
  |nil=>rfl
  |cons i is =>
   have hi:i∈Region.ready .any all listed:=by rw[hr];simp
   obtain⟨h0,o,ho,_⟩:=mem_ready.1 hi
   rw[(hl i (lt ho)).1,hS i (lt ho)] at h0;cases h0
 |succ fuel ih =>
  intro listed S H β a w hl hn hc h
  refine⟨fun hr=>fin (done hl hr) h,fun i hi=>?_⟩
  obtain⟨h0,o,ho,hall⟩:=mem_ready.1 hi
  have hilt:=lt ho
  have hSi:S i=false:=by rw[←(hl i hilt).1];exact h0
  have hre:∀e∈edgesOf o,S e=true:=fun e he=>by
   have:=hf.edge i o ho e he
   rw[←(hl e (by omega)).2]
   exact(edge_iff (p:=fun e=>listed.getD e false=true)).1 hall e he
  have same:∀j,j<all.size→near tab i j=true→decide (j<i)=S j:=fun j hj hn=>hf.near_same hc ho (show all[j]?=some all[j] by simp[hj]) hre hSi hn
  have hfa:Fact T Φ all o (g+i) (fun t=>tmF D L S t (List.range all.size) (tm t)) (fun id=>bxF L S id (List.range all.size) (bx id)) (L i):=by
   refine(hfact i o ho).foot (fun t ht=>?_) (fun id hid=>?_) (fun p hp=>?_)
   · refine(tmF_agree fun j hj hdj=>?_).symm
     have hj:=List.mem_range.1 hj
     have hg:all[j]?=some all[j]:=by simp[hj]
     exact same j hj (hf.looks i o ho t ht j _ hg (by rw[←hD j _ hg];exact hdj))
   · refine bxF_eqF (fun j hj hne=>?_) (eqF.refl _)
     have hj:=List.mem_range.1 hj
     rcases hconf j i hj hilt with hn|hm
     · rw[near_symm] at hn;exact absurd (same j hj hn) hne
     · exact meets_not hm (.inl hid)
   · refine(bxF_agree fun j hj hne=>?_).symm
     have hj:=List.mem_range.1 hj
     rcases hconf i j hilt hj with hn|hm
     · exact absurd (same j hj hn) hne
     · exact(meets_spec hm hp).1
  unfold wpOpIn
  simp only[ho]
  refine fact_step hT hΦ hIE (dstsOk_spec hd (by simpa using Array.mem_of_getElem? ho)) h hfa fun H β a w hS=>?_
  refine ih _ (fun j=>S j||Nat.beq j i) H β a w (fun j hj=>?_) ?_ ?_ ?_
  · by_cases hji:j=i
    · subst hji
      have hsz:j<listed.size:=by
       rcases Nat.lt_or_ge j listed.size with h'|h'
       · exact h'
       · simp[Array.getElem?_eq_none h'] at h0
      simp[hsz,Nat.beq_refl]
    · have hb:Nat.beq j i=false:=by
       cases hb:Nat.beq j i
       · rfl
       · exact absurd (Nat.eq_of_beq_eq_true hb) hji
      rw[getD_set_ne true (Ne.symm hji),getD_set_ne false (Ne.symm hji),hb,Bool.or_false]
      exact hl j hj
  · have:=filter_lt (p:=fun j=>!S j) (p':=fun j=>!(S j||Nat.beq j i)) (i:=i) (by simp[hSi]) (by simp[Nat.beq_refl]) (fun j hj=>by simp at hj ⊢;exact hj.1) (List.mem_range.2 hilt)
    omega
  · intro j o' hj hSj e he
    simp only[Bool.or_eq_true] at hSj ⊢
    rcases hSj with hSj|hSj
    · exact .inl (hc j o' hj hSj e he)
    · have:=Nat.eq_of_beq_eq_true hSj;subst this
      rw[ho] at hj;cases hj
      exact .inl (hre e he)
  · have e1:(fun t=>tmF D L (fun j=>S j||Nat.beq j i) t (List.range all.size) (tm t))=putS (fun t=>tmF D L S t (List.range all.size) (tm t)) o.dst (L i).r:=by
     funext t
     rw[tmF_add (S:=S) (i:=i) (fun _=>rfl) (List.mem_range.2 hilt) (fun j hj h1 h2=>by
      have hj:=List.mem_range.1 hj
      have hg:all[j]?=some all[j]:=by simp[hj]
      rw[hD i o ho] at h1
      rw[hD j _ hg] at h2
      exact hf.uniq j i _ o t hg ho h2 h1)]
     rw[hD i o ho]
     cases hdo:o.dst with
     |none=>simp[putS]
     |some d =>
      by_cases hdt:d=t
      · subst hdt;simp[putS,upd_same]
      · simp[putS,hdt,upd_other _ _ _ (Ne.symm hdt)]
    have e2:(fun id=>bxF L (fun j=>S j||Nat.beq j i) id (List.range all.size) (bx id))=wrAll (fzAll (fun id=>bxF L S id (List.range all.size) (bx id)) (L i).e.fz) (L i).e.wr:=by
     funext id
     rw[app_at,bxF_add (S:=S) (i:=i) (fun _=>rfl) hSi List.pairwise_lt_range (List.mem_range.2 hilt)]
     intro j hj hij hSj b
     have hj:=List.mem_range.1 hj
     have hnn:near tab i j=false:=by
      cases hn:near tab i j with
      |false=>rfl
      |true =>
       have:=same j hj hn
       rw[hSj] at this
       simp at this;omega
     have m1:=(hconf i j hilt hj).resolve_left (by rw[hnn];simp)
     have m2:=(hconf j i hj hilt).resolve_left (by rw[near_symm,hnn];simp)
     exact actE_comm m2 m1 id b
    rw[e1,e2];exact hS
end
structure Cx where
 P:Program
 I:World→Prop
 T:TypeId→Option TY
 hT:TabOk P T
 hm:P.follows .mixedOrders=true
 bel:∀n w w',I w→w.heap.size≤n→Below n w w'→I w'
 mu:FuncId→Bool
 ma:FuncId→Bool
 ro:Option Nat→Prop
 r0:ro none
abbrev Cx.C(X:Cx):Ctr:=⟨X.ma,MakC X.P X.I,X.mu,PureC X.P X.I,MutC X.P X.I⟩
theorem Cx.ok(X:Cx):CtrOk X.P X.I X.C:=⟨fun _ _ _ _ h=>h,fun _ _ _ h=>h,fun _ _ _ _ _ _ _ _ _ h=>h⟩
def regP(X:Cx)(all:Array Oper)(draw:Bool)(σ:AS)(K:AS→Prop):Prop :=
 opsP X.T X.C all all.toList σ.nx σ.tm σ.bx [] fun tm bx log=>match draw with
  |true=>noConf (ancs all.toList) log.reverse=true∧K ⟨tm,bx,σ.nx+all.size⟩
  |false=>K ⟨tm,bx,σ.nx+all.size⟩
def CW(X:Cx)(nt:Nat)(c:Code)(σ:AS)(K:Exit→AS→Prop):Prop :=
 ∀(ro:{ r:Option Nat // X.ro r }) (E:Env) (Q:Exit→Act→World→Prop),(∀w,BelowO E.own E.w0 w→X.I w)→(∀e σ' M H β a w,K e σ'→St (E.mks M) nt H β σ'.tm σ'.bx a w→Q e a w)→
  ∀M H β a w,St (E.mks M) nt H β σ.tm σ.bx a w→c.wpIn (FW ro.1) 0 X.P Q a w
def thenK(X:Cx)(nt:Nat)(y:Code)(K:Exit→AS→Prop):Exit→AS→Prop
 | .normal,σ=>CW X nt y σ K
 |e,σ=>K e σ
def blockK(id:Nat)(K:Exit→AS→Prop):Exit→AS→Prop
 | .exit i,σ=>bif Nat.beq i id then K .normal σ else K (.exit i) σ
 |e,σ=>K e σ
section
variable {X:Cx}{nt:Nat}{σ:AS}{K:Exit→AS→Prop}
theorem CW.mono{c:Code}{K':Exit→AS→Prop}(h:CW X nt c σ K')(hk:∀e σ,K' e σ→K e σ):CW X nt c σ K :=
 fun ro E Q hI hQ M H β a w hS=>h ro E Q hI (fun e σ' M H β a w k hS=>hQ e σ' M H β a w (hk _ _ k) hS) M H β a w hS
theorem CW.skip(h:K .normal σ):CW X nt .skip σ K:=fun _ _ _ _ hQ M H β a w hS=>wpIn_skip (hQ _ _ M H β a w h hS)
theorem CW.ret(h:K .ret σ):CW X nt .ret σ K:=fun _ _ _ _ hQ M H β a w hS=>wpIn_ret (hQ _ _ M H β a w h hS)
theorem CW.exit{id:Nat}(h:K (.exit id) σ):CW X nt (.exit id) σ K:=fun _ _ _ _ hQ M H β a w hS=>wpIn_exit (hQ _ _ M H β a w h hS)
theorem CW.seq{x y:Code}(h:CW X nt x σ (thenK X nt y K)):CW X nt (.seq x y) σ K:=fun ro E Q hI hQ M H β a w hS =>
 wpIn_seq (h ro E _ hI (fun e σ' M H β a w k hS=>by
  cases e with
  |normal=>exact k ro E Q hI hQ M H β a w hS
  |_=>exact hQ _ _ M H β a w k hS) M H β a w hS)
theorem CW.cond{c:Operand}{x y:Code}{t:Bool}(hc:evS σ.tm c=.iv (.bool t))(h1:t=true→CW X nt x σ K)(h2:t=false→CW X nt y σ K):CW X nt (.cond c x y) σ K:=fun ro E Q hI hQ M H β a w hS=>by
 have hv:=ev_ok hS.sim rfl c
 rw[hc] at hv
 exact wpIn_cond_split (VR.asBool hv) (fun e=>h1 e ro E Q hI hQ M H β a w hS) (fun e=>h2 e ro E Q hI hQ M H β a w hS)
theorem CW.block{id:Nat}{c:Code}(h:CW X nt c σ (blockK id K)):CW X nt (.block id c) σ K:=fun ro E Q hI hQ M H β a w hS =>
 wpIn_block (h ro E _ hI (fun e σ' M H β a w k hS=>by
  cases e with
  |exit i =>
   simp only[blockK] at k
   simp only[Exit.inBlock]
   by_cases hi:i=id
   · subst hi
     rw[Nat.beq_refl] at k
     simp only[if_true]
     exact hQ _ _ M H β a w k hS
   · have hb:Nat.beq i id=false:=by
      cases hb:Nat.beq i id
      · rfl
      · exact absurd (Nat.eq_of_beq_eq_true hb) hi
     rw[hb] at k
     simp only[hi,if_false]
     exact hQ _ _ M H β a w k hS
  |_=>exact hQ _ _ M H β a w k hS) M H β a w hS)
theorem zip_fold{os:List Oper}{recs:List Lg}(hl:recs.length=os.length)(D:Nat→Option Nat)(hD:∀i o,os[i]?=some o→D i=o.dst)(hu:∀(i j:Nat) (o o':Oper) (d:Nat),os[i]?=some o→os[j]?=some o'→o.dst=some d→o'.dst=some d→i=j)(tm:Nat→SV)(bx:Nat→Option Bx):∀k,k≤os.length→
 (((os.zip recs).take k).foldl (fun tm p=>putS tm p.1.dst p.2.r) tm)=(fun t=>tmF D (fun i=>recs.getD i default) (fun j=>decide (j<k)) t (List.range os.length) (tm t))∧
 (((os.zip recs).take k).foldl (fun bx p=>wrAll (fzAll bx p.2.e.fz) p.2.e.wr) bx)=(fun id=>bxF (fun i=>recs.getD i default) (fun j=>decide (j<k)) id (List.range os.length) (bx id)):=by
 intro k
 induction k with
 |zero =>
  intro _
  have z1:∀(t:Nat) (l:List Nat) (x:SV),tmF D (fun i=>recs.getD i default) (fun j=>decide (j<0)) t l x=x:=by
   intro t l
   induction l with
   |nil=>intro x;rfl
   |cons i l ih=>intro x;rw[tmF,if_neg (by simp)];exact ih x
  have z2:∀(t:Nat) (l:List Nat) (x:Option Bx),bxF (fun i=>recs.getD i default) (fun j=>decide (j<0)) t l x=x:=by
   intro t l
   induction l with
   |nil=>intro x;rfl
   |cons i l ih=>intro x;rw[bxF,if_neg (by simp)];exact ih x
  refine⟨?_,?_⟩
  · funext t;simp only[List.take_zero,List.foldl_nil];exact(z1 t _ _).symm
  · funext t;simp only[List.take_zero,List.foldl_nil];exact(z2 t _ _).symm
 |succ k ih =>
  intro hk
  obtain⟨i1,i2⟩:=ih (by omega)
  have ho:os[k]?=some os[k]:=by simp
  have hr:recs[k]?=some (recs[k]'(by omega)):=by simp
  have hz:(os.zip recs)[k]?=some (os[k],recs[k]'(by omega)):=by
   rw[List.getElem?_zip_eq_some];exact⟨ho,hr⟩
  have hg:recs.getD k default=recs[k]'(by omega):=by simp[hr]
  have hS:∀j,decide (j<k+1)=(decide (j<k)||Nat.beq j k):=by
   intro j
   by_cases h1:j<k
   · simp[h1];omega
   · by_cases h2:j=k
     · subst h2;simp[Nat.beq_refl]
     · have hb:Nat.beq j k=false:=by
        cases hb:Nat.beq j k
        · rfl
        · exact absurd (Nat.eq_of_beq_eq_true hb) h2
       simp[h1,hb];omega
  have hm:k∈List.range os.length:=List.mem_range.2 (by omega)
  constructor
  · rw[List.take_add_one,List.foldl_append,i1,hz]
    funext t
    rw[tmF_add (S:=fun j=>decide (j<k)) (i:=k) hS hm (fun j hj h1 h2=>by
     have hj:=List.mem_range.1 hj
     have hgj:os[j]?=some os[j]:=by simp[hj]
     rw[hD k _ ho] at h1;rw[hD j _ hgj] at h2
     exact hu j k _ _ t hgj ho h2 h1),hD k _ ho]
    simp only[Option.toList_some,List.foldl_cons,List.foldl_nil,hg]
    cases hdo:os[k].dst with
    |none=>simp[putS]
    |some d =>
     by_cases hdt:d=t
     · subst hdt;simp[putS,upd_same]
     · simp[putS,hdt,upd_other _ _ _ (Ne.symm hdt)]
  · rw[List.take_add_one,List.foldl_append,i2,hz]
    funext id
    rw[bxF_add (S:=fun j=>decide (j<k)) (i:=k) hS (by simp) List.pairwise_lt_range hm (fun j _ h1 h2=>by simp at h2;omega)]
    simp only[Option.toList_some,List.foldl_cons,List.foldl_nil]
    rw[app_at,hg]
theorem CW.region{id:Nat}{all:Array Oper}{draw:Bool}(hd:dstsOk nt all.toList=true)(hf:draw=true→flowOk all (ancs all.toList)=true)(h:regP X all draw σ (K .normal)):CW X nt (.region id all draw) σ K:=fun ro E Q hI hQ M H β a w hS=>by
 unfold regP at h
 cases draw with
 |false =>
  exact wpIn_region_list (list_go (E:=E.mks M) X.hT X.ok hI (fun H β tm bx log a w k hS=>hQ .normal ⟨tm,bx,σ.nx+all.size⟩ M H β a w k hS) hd hS h)
 |true =>
  have hfl:=flow_of (hf rfl)
  obtain⟨recs,e1,e2,e3,e4⟩:=opsP_facts h
  have hlen:all.toList.length=all.size:=by simp
  let D:Nat→Option Nat:=fun i=>(all[i]?).bind (·.dst)
  have hD:∀i o,all[i]?=some o→D i=o.dst:=fun i o ho=>by simp[D,ho]
  have hD':∀i o,all.toList[i]?=some o→D i=o.dst:=fun i o ho=>hD i o (by simpa using ho)
  have hu:∀(i j:Nat) (o o':Oper) (d:Nat),all.toList[i]?=some o→all.toList[j]?=some o'→o.dst=some d→o'.dst=some d→i=j:=fun i j o o' d h1 h2=>hfl.uniq i j o o' d (by simpa using h1) (by simpa using h2)
  have zf:=zip_fold (D:=D) e1 hD' hu σ.tm σ.bx
  rw[hlen] at zf
  have hall:=zf all.size (Nat.le_refl _)
  have htk:(all.toList.zip recs).take all.size=all.toList.zip recs:=List.take_of_length_le (by simp[e1])
  rw[htk] at hall
  rw[hall.1,hall.2] at e4
  have t1:(fun t=>tmF D (fun i=>recs.getD i default) (fun j=>decide (j<all.size)) t (List.range all.size) (σ.tm t))=(fun t=>tmF D (fun i=>recs.getD i default) (fun _=>true) t (List.range all.size) (σ.tm t)) :=
   funext fun t=>tmF_agree fun i hi _=>by simpa using List.mem_range.1 hi
  have t2:(fun id=>bxF (fun i=>recs.getD i default) (fun j=>decide (j<all.size)) id (List.range all.size) (σ.bx id))=(fun id=>bxF (fun i=>recs.getD i default) (fun _=>true) id (List.range all.size) (σ.bx id)) :=
   funext fun id=>bxF_agree fun i hi hne=>absurd (by simpa using List.mem_range.1 hi) hne
  rw[t1,t2] at e4
  refine wpIn_region_any X.hm (any_go (E:=E.mks M) X.hT X.ok hI hd hfl (g:=σ.nx) (tm:=σ.tm) (bx:=σ.bx) hD (fun i=>recs.getD i default) (fun i o ho=>?_) (fun i j hi hj=>?_) (fun H β a w hS=>hQ .normal _ M H β a w e4 hS) all.size _ (fun _=>false) H β a _ (fun j hj=>?_) ?_ ?_ (Sim.drawn ?_))
  · have hlt:i<all.size:=(Array.getElem?_eq_some_iff.1 ho).1
    have hr:recs[i]?=some (recs.getD i default):=by
     have:i<recs.length:=by omega
     simp[this]
    have:=e2 i o _ (by simpa using ho) hr
    rw[(zf i (by omega)).1,(zf i (by omega)).2] at this
    exact this
  · simp only[List.append_nil,List.reverse_reverse] at e3
    have hi':recs[i]?=some (recs.getD i default):=by
     have:i<recs.length:=by omega
     simp[this]
    have hj':recs[j]?=some (recs.getD j default):=by
     have:j<recs.length:=by omega
     simp[this]
    have:=confFrom_spec e3 i _ hi' j _ hj'
    rwa[Nat.zero_add] at this
  · simp[hj]
  · refine Nat.le_trans (List.length_filter_le _ _) (by simp)
  · intro j o _ h;cases h
  · have z1:∀(t:Nat) (l:List Nat) (x:SV),tmF D (fun i=>recs.getD i default) (fun _=>false) t l x=x:=by
     intro t l
     induction l with
     |nil=>intro x;rfl
     |cons i l ih=>intro x;rw[tmF,if_neg (by simp)];exact ih x
    have z2:∀(t:Nat) (l:List Nat) (x:Option Bx),bxF (fun i=>recs.getD i default) (fun _=>false) t l x=x:=by
     intro t l
     induction l with
     |nil=>intro x;rfl
     |cons i l ih=>intro x;rw[bxF,if_neg (by simp)];exact ih x
    simp only[z1,z2]
    exact hS
end
def rnS(ρ:Nat→Nat):SV→SV
 | .ptr g off=>.ptr (ρ g) off
 | .ref g off n f=>.ref (ρ g) off n f
 | .eptr g i off=>.eptr (ρ g) i off
 | .clo f gs=>.clo f (gs.map ρ)
 | .cv v f gs=>.cv v f (gs.map ρ)
 |s=>s
def okR(bx:Nat→Option Bx):SV→Bool
 | .ptr g _=>(bx g).isSome
 | .ref g _ _ _=>(bx g).isSome
 | .eptr g _ _=>(bx g).isSome
 | .clo _ gs=>gs.all fun g=>(bx g).isSome
 | .cv _ _ gs=>gs.all fun g=>(bx g).isSome
 |_=>true
structure Wk(σ σ':AS):Prop where
 ex:∃ ρ:Nat→Nat,(∀t,σ'.tm t=.unk∨(σ.tm t=rnS ρ (σ'.tm t)∧okR σ'.bx (σ'.tm t)=true))∧(∀g b,σ'.bx g=some b→b=.dead∨σ.bx (ρ g)=some b)∧
  (∀g g' b b',σ'.bx g=some b→σ'.bx g'=some b'→ρ g=ρ g'→g=g')∧(∀i,i<8→σ.bx (pinId+i)=none∨(ρ (pinId+i)=pinId+i∧σ'.bx (pinId+i)≠none))
section
variable {E:Env}{nt:Nat}{H:Heap}{β:Nat→Nat×Nat}{a:Act}{w:World}{σ σ':AS}
theorem SR.weak{bx bx':Nat→Option Bx}{ρ:Nat→Nat}(hb:∀g b,bx' g=some b→b=.dead∨bx (ρ g)=some b){v:Value}:∀{s:SV},okR bx' s=true→SR H β bx v (rnS ρ s)→SR H (fun g=>β (ρ g)) bx' v s
 | .unk,_,_=>trivial
 | .und,_,h=>h
 | .iv _,_,h=>h
 | .nilS,_,h=>h
 | .iptr _ _,_,h=>h
 | .yld _,_,h=>h
 | .val _,_,h=>h
 | .slN _,_,h=>h
 | .cv u f gs,ho,⟨h0,h1,h2⟩=>by
  simp only[okR,List.all_eq_true] at ho
  refine⟨h0,fun g hg e=>?_,?_⟩
  · have:=ho g hg;rw[e] at this;cases this
  · rw[h2,List.map_map];rfl
 | .clo f gs,ho,⟨h1,h2⟩=>by
  simp only[okR,List.all_eq_true] at ho
  refine⟨fun g hg e=>?_,?_⟩
  · have:=ho g hg;rw[e] at this;cases this
  · rw[h2,List.map_map];rfl
 | .ptr g off,ho,h=>by
  refine⟨?_,h.2⟩
  simp only[okR] at ho
  intro e;rw[e] at ho;cases ho
 | .ref g off n full,ho,h=>by
  simp only[okR] at ho
  cases hg:bx' g with
  |none=>rw[hg] at ho;cases ho
  |some b =>
   cases b with
   |var=>simp only[SR,hg]
   |bld=>simp only[SR,hg]
   |arrN=>simp only[SR,hg]
   |dead=>simp only[SR,hg]
   |arr e sz es fz =>
    rcases hb g _ hg with h0|h0
    · cases h0
    · simp only[rnS,SR,h0] at h
      simp only[SR,hg];exact h
 | .eptr g i off,ho,h=>by
  simp only[okR] at ho
  cases hg:bx' g with
  |none=>rw[hg] at ho;cases ho
  |some b =>
   cases b with
   |var=>simp only[SR,hg]
   |bld=>simp only[SR,hg]
   |dead=>simp only[SR,hg]
   |arrN p e sz es =>
    rcases hb g _ hg with h0|h0
    · cases h0
    · simp only[rnS,SR,h0] at h
      simp only[SR,hg];exact h
   |arr e sz es fz =>
    rcases hb g _ hg with h0|h0
    · cases h0
    · simp only[rnS,SR,h0] at h
      simp only[SR,hg];exact h
theorem St.weak(h:St E nt H β σ.tm σ.bx a w)(hw:Wk σ σ'):∃ β',St E nt H β' σ'.tm σ'.bx a w:=by
 obtain⟨ρ,h1,h2,h3,h4⟩:=hw.ex
 refine⟨fun g=>β (ρ g),⟨h.sim.has,h.sim.below,h.sim.lo,h.sim.ext,fun t=>?_,fun g b hg=>?_,fun g g' b b' hg hg' ha ha' e=>?_,fun p k hk=>?_,h.sim.marks,fun g s g' b R hg hg' ha hR=>?_⟩,h.defers,h.size⟩
 · rcases h1 t with e|⟨e,ho⟩
   · rw[e];trivial
   · have:=h.sim.slot t
     rw[e] at this
     exact this.weak h2 ho
 · rcases h2 g b hg with e|e
   · subst e;trivial
   · exact h.sim.box _ _ e
 · rcases h2 g b hg with e1|e1
   · subst e1;cases ha
   · rcases h2 g' b' hg' with e2|e2
     · subst e2;cases ha'
     · exact h3 g g' b b' hg hg' (h.sim.inj _ _ _ _ e1 e2 ha ha' e)
 · obtain⟨p1,p2,p3,p4⟩:=h.sim.pin p k hk
   rcases h4 (p-pinId) (by omega) with e|⟨e1,e2⟩
   · rw[show pinId+(p-pinId)=p by omega] at e;exact absurd e p2
   · rw[show pinId+(p-pinId)=p by omega] at e1 e2
     exact⟨by show β (ρ p)=k;rw[e1];exact p1,e2,p3,p4⟩
 · rcases h2 g _ hg with e1|e1
   · cases e1
   · rcases h2 g' b hg' with e2|e2
     · subst e2;cases ha
     · exact h.sim.hid _ s _ b R e1 e2 ha hR
end
def tbS:List (Nat×SV)→Nat→SV
 | [],_=>.unk
 |p::l,t=>bif Nat.beq t p.1 then p.2 else tbS l t
def tbB:List (Nat×Bx)→Nat→Option Bx
 | [],_=>none
 |p::l,t=>bif Nat.beq t p.1 then some p.2 else tbB l t
def mkA(l:List (Nat×SV))(m:List (Nat×Bx))(nx:Nat):AS:=⟨tbS l,tbB m,nx⟩
def rnT:List (Nat×Nat)→Nat→Nat
 | [],g=>g
 |p::l,g=>bif Nat.beq g p.1 then p.2 else rnT l g
def slotsW(tm:Nat→SV)(r:List (Nat×Nat))(bx':Nat→Option Bx):List (Nat×SV)→Prop
 | []=>True
 |p::l=>(tm p.1=rnS (rnT r) p.2∧okR bx' p.2=true)∧slotsW tm r bx' l
def boxesW(bx:Nat→Option Bx)(r:List (Nat×Nat)):List (Nat×Bx)→Prop
 | []=>True
 |p::l=>bx (rnT r p.1)=some p.2∧boxesW bx r l
theorem tbS_mem:∀{l:List (Nat×SV)} {t:Nat},tbS l t=.unk∨(t,tbS l t)∈l
 | [],_=>.inl rfl
 |p::l,t=>by
  unfold tbS
  cases h:Nat.beq t p.1 with
  |true =>
   have:=Nat.eq_of_beq_eq_true h;subst this
   exact .inr (by simp)
  |false =>
   rcases tbS_mem (l:=l) (t:=t) with h|h
   · exact .inl h
   · exact .inr (List.mem_cons_of_mem _ h)
theorem tbB_mem:∀{l:List (Nat×Bx)} {t:Nat} {b:Bx},tbB l t=some b→(t,b)∈l
 | [],_,_,h=>by simp[tbB] at h
 |p::l,t,b,h=>by
  unfold tbB at h
  cases hb:Nat.beq t p.1 with
  |true =>
   have:=Nat.eq_of_beq_eq_true hb;subst this
   simp[hb] at h
   rw[←h];simp
  |false =>
   rw[hb] at h
   exact List.mem_cons_of_mem _ (tbB_mem h)
theorem slotsW_mem{tm:Nat→SV}{r:List (Nat×Nat)}{bx':Nat→Option Bx}:∀{l:List (Nat×SV)},slotsW tm r bx' l→∀p∈l,tm p.1=rnS (rnT r) p.2∧okR bx' p.2=true
 | [],_,p,h=>by simp at h
 |q::l,hs,p,h=>by
  rcases List.mem_cons.1 h with rfl|h
  · exact hs.1
  · exact slotsW_mem hs.2 p h
theorem boxesW_mem{bx:Nat→Option Bx}{r:List (Nat×Nat)}:∀{l:List (Nat×Bx)},boxesW bx r l→∀p∈l,bx (rnT r p.1)=some p.2
 | [],_,p,h=>by simp at h
 |q::l,hs,p,h=>by
  rcases List.mem_cons.1 h with rfl|h
  · exact hs.1
  · exact boxesW_mem hs.2 p h
def pinW(bx:Nat→Option Bx)(r:List (Nat×Nat))(m:List (Nat×Bx))(i:Nat):Prop:=bx (pinId+i)=none∨(rnT r (pinId+i)=pinId+i∧(tbB m (pinId+i)).isSome=true)
def pinsW(bx:Nat→Option Bx)(r:List (Nat×Nat))(m:List (Nat×Bx)):Prop:=pinW bx r m 0∧pinW bx r m 1∧pinW bx r m 2∧pinW bx r m 3∧pinW bx r m 4∧pinW bx r m 5∧pinW bx r m 6∧pinW bx r m 7
theorem pinsW.get{bx:Nat→Option Bx}{r:List (Nat×Nat)}{m:List (Nat×Bx)}(h:pinsW bx r m):∀i,i<8→pinW bx r m i
 |0,_=>h.1
 |1,_=>h.2.1
 |2,_=>h.2.2.1
 |3,_=>h.2.2.2.1
 |4,_=>h.2.2.2.2.1
 |5,_=>h.2.2.2.2.2.1
 |6,_=>h.2.2.2.2.2.2.1
 |7,_=>h.2.2.2.2.2.2.2
 |n+8,hn=>absurd hn (by omega)
theorem Wk.tab{σ:AS}{l:List (Nat×SV)}{m:List (Nat×Bx)}{nx:Nat}(r:List (Nat×Nat))(h1:slotsW σ.tm r (tbB m) l)(h2:boxesW σ.bx r m)(h3:uniq (m.map fun p=>(rnT r p.1,p.1))=true)
 (h4:pinsW σ.bx r m:=by(refine⟨?_,?_,?_,?_,?_,?_,?_,?_⟩<;>first|exact .inl rfl|exact .inr ⟨rfl,rfl⟩)):Wk σ (mkA l m nx):=by
 refine⟨rnT r,fun t=>?_,fun g b hg=>?_,fun g g' b b' hg hg' e=>?_,fun i hi=>(h4.get i hi).imp id fun e=>⟨e.1,fun en=>by have:=e.2;rw[show tbB m (pinId+i)=none from en] at this;cases this⟩⟩
 · rcases tbS_mem (l:=l) (t:=t) with h|h
   · exact .inl h
   · have:=slotsW_mem h1 _ h
     exact .inr this
 · exact .inr (boxesW_mem h2 _ (tbB_mem hg))
 · have m1:=tbB_mem hg
   have m2:=tbB_mem hg'
   have:=uniq_spec h3 (rnT r g,g) (List.mem_map.2 ⟨_,m1,rfl⟩) (rnT r g',g') (List.mem_map.2 ⟨_,m2,rfl⟩) e
   exact(Prod.mk.inj this).2
theorem least_ex{p:Nat→Prop}:∀{n:Nat},p n→∃m,p m∧∀k,p k→m≤k:=by
 intro n
 induction n using Nat.strongRecOn with
 |_ n ih =>
  intro hn
  by_cases h:∃k,k<n∧p k
  · obtain⟨k,h1,h2⟩:=h
    exact ih k h1 h2
  · exact⟨n,hn,fun k hk=>by
     rcases Nat.lt_or_ge k n with h'|h'
     · exact absurd ⟨k,h',hk⟩ h
     · exact h'⟩
open Classical in
noncomputable def leastN(p:Nat→Prop):Nat:=if h:∃m,p m∧∀k,p k→m≤k then h.choose else 0
theorem leastN_spec{p:Nat→Prop}{n:Nat}(h:p n):p (leastN p)∧leastN p≤n:=by
 have he:=least_ex h
 unfold leastN
 rw[dif_pos he]
 exact⟨he.choose_spec.1,he.choose_spec.2 n h⟩
def loopK{G:Type}(inv:G→AS)(μ:G→Nat)(g:G)(K:Exit→AS→Prop):Exit→AS→Prop
 | .normal,σ=>∃g',Wk σ (inv g')∧μ g'<μ g
 |e,σ=>K e σ
def joinK{G:Type}(inv:G→AS)(K:Exit→AS→Prop):Exit→AS→Prop
 | .normal,σ=>∃g',Wk σ (inv g')
 |e,σ=>K e σ
section
variable {X:Cx}{nt:Nat}{σ:AS}{K:Exit→AS→Prop}
theorem CW.weak{c:Code}{σ':AS}(hw:Wk σ σ')(h:CW X nt c σ' K):CW X nt c σ K:=fun ro E Q hI hQ M H β a w hS=>by
 obtain⟨β',hS'⟩:=hS.weak hw
 exact h ro E Q hI hQ M H β' a w hS'
theorem CW.loop{G:Type}(inv:G→AS)(μ:G→Nat){c:Code}(g0:G)(h0:Wk σ (inv g0))(h:∀g,CW X nt c (inv g) (loopK inv μ g K)):CW X nt (.loop c) σ K:=fun ro E Q hI hQ M0 H β a w hS=>by
 let J:G→Act→World→Prop:=fun g a w=>∃M H β,St (E.mks M) nt H β (inv g).tm (inv g).bx a w
 let M:Act→World→Nat:=fun a w=>leastN fun n=>∃g,μ g=n∧J g a w
 obtain⟨β0,hS0⟩:=hS.weak h0
 refine wpIn_loop (fun a w=>∃g,J g a w) M ⟨g0,M0,H,β0,hS0⟩ fun a w ⟨g1,hJ1⟩=>?_
 obtain⟨⟨g,e,hJ⟩,_⟩:=leastN_spec (p:=fun n=>∃g,μ g=n∧J g a w) ⟨g1,rfl,hJ1⟩
 obtain⟨M1,H1,β1,hS1⟩:=hJ
 refine h g ro E _ hI (fun e' σ' M2 H β a' w' k hS=>?_) M1 H1 β1 a w hS1
 cases e' with
 |normal =>
  obtain⟨g',hw,hlt⟩:=k
  obtain⟨β',hS'⟩:=hS.weak hw
  have hJ':J g' a' w':=⟨M2,H,β',hS'⟩
  have:=(leastN_spec (p:=fun n=>∃g,μ g=n∧J g a' w') ⟨g',rfl,hJ'⟩).2
  refine⟨⟨g',hJ'⟩,?_⟩
  show leastN _<leastN _
  rw[←e]
  exact Nat.lt_of_le_of_lt this hlt
 |_=>exact hQ _ _ M2 H β a' w' k hS
theorem CW.join{G:Type}(inv:G→AS){x y:Code}(h1:CW X nt x σ (joinK inv K))(h2:∀g,CW X nt y (inv g) K):CW X nt (.seq x y) σ K:=CW.seq (h1.mono fun e σ' k=>by
 cases e with
 |normal=>obtain⟨g,hw⟩:=k;exact CW.weak hw (h2 g)
 |_=>exact k)
end
def argS:List IV→Nat→SV
 | [],_=>.und
 |x::_,0=>.iv x
 |_::l,t+1=>argS l t
def resI(T:TypeId→Option TY)(tm:Nat→SV)(bx:Nat→Option Bx):List ResultVar→Option (List IV×List Nat)
 | []=>some ([],[])
 | .tmp t::rs=>match toI bx (tm t) with
  |some (x,f)=>match resI T tm bx rs with
   |some (xs,fs)=>some (x::xs,f++fs)
   |none=>none
  |none=>none
 | .cell a t::rs=>match T t,tm a with
  |some ty,.ptr g off=>match bx g with
   |some (.var y)=>match ldI ty.sh.agg ty.size y off with
    |some x=>match resI T tm bx rs with
     |some (xs,fs)=>some (x::xs,fs)
     |none=>none
    |none=>none
   |_=>none
  |_,_=>none
def oneOf:List IV→IV
 | [x]=>x
 |xs=>.tup xs
def retP(T:TypeId→Option TY)(rs:List ResultVar)(r:IV)(σ:AS):Prop :=
 match resI T σ.tm σ.bx rs with
 |some (xs,_)=>oneOf xs=r
 |none=>False
def retK(T:TypeId→Option TY)(rs:List ResultVar)(r:IV):Exit→AS→Prop
 | .normal,σ=>retP T rs r σ
 | .ret,σ=>retP T rs r σ
 |_,_=>False
theorem resI_fz{T:TypeId→Option TY}{tm:Nat→SV}{bx:Nat→Option Bx}(f:List Nat):∀{rs:List ResultVar} {r:List IV×List Nat},resI T tm bx rs=some r→resI T tm (fzAll bx f) rs=some r
 | [],r,h=>h
 | .tmp t::rs,r,h=>by
  simp only[resI,toI_fz] at h ⊢
  split at h
  · split at h
    · rename_i h2
      rw[resI_fz f h2];exact h
    · cases h
  · cases h
 | .cell a t::rs,r,h=>by
  simp only[resI] at h ⊢
  split at h
  · split at h
    · rename_i hb
      rw[fzAll_var f _ _ _ hb]
      split at h
      · split at h
        · rename_i h1 _ _ _ h2
          simp only[h1,resI_fz f h2];exact h
        · cases h
      · cases h
    · cases h
  · cases h
def resOf(tmps:Array Value):ResultVar→Sem Value
 | .tmp t=>pure (tmps.getD t undef)
 | .cell a t=>do loadVar t (← asAddr (tmps.getD a undef))
theorem resI_ok{P:Program}{T:TypeId→Option TY}(hT:TabOk P T){E:Env}{tmps:Array Value}{w:World}{β:Nat→Nat×Nat}{tm:Nat→SV}:∀{rs:List ResultVar} {H:Heap} {bx:Nat→Option Bx} (_:Sim E H β tm bx tmps w) {xs:List IV} {fs:List Nat},resI T tm bx rs=some (xs,fs)→
 ∃H',HLe H H'∧Sim E H' β tm (fzAll bx fs) tmps w∧∃vs:List Value,(rs.mapM (resOf tmps)).run P w=.ok vs w∧VRL H' vs xs
 | [],H,bx,h,xs,fs,hr=>by
  simp only[resI,Option.some.injEq,Prod.mk.injEq] at hr;obtain⟨rfl,rfl⟩:=hr
  exact⟨H,HLe.refl _,h,[],by simp,.nil⟩
 | .tmp t::rs,H,bx,h,xs,fs,hr=>by
  simp only[resI] at hr
  split at hr
  · rename_i x f h1
    split at hr
    · rename_i ys gs h2
      simp only[Option.some.injEq,Prod.mk.injEq] at hr;obtain⟨rfl,rfl⟩:=hr
      obtain⟨H1,l1,S1,V1⟩:=toI_ok h (h.slot t) h1
      obtain⟨H2,l2,S2,vs,e,V2⟩:=resI_ok hT S1 (resI_fz f h2)
      refine⟨H2,l1.trans l2,by rw[fzAll_append];exact S2,tmps.getD t undef::vs,?_,.cons _ _ _ _ (V1.mono l2) V2⟩
      simp only[List.mapM_cons,resOf,Sem.run_bind,Sem.run_pure,Result.andThen_ok,e]
    · cases hr
  · cases hr
 | .cell a t::rs,H,bx,h,xs,fs,hr=>by
  simp only[resI] at hr
  split at hr
  · rename_i ty g off ht ha
    split at hr
    · rename_i y hb
      split at hr
      · rename_i x hl
        split at hr
        · rename_i ys gs h2
          simp only[Option.some.injEq,Prod.mk.injEq] at hr;obtain⟨rfl,rfl⟩:=hr
          obtain⟨i,d,z,ok⟩:=tyOf_ok (hT t ty ht)
          have hv:=h.slot a
          rw[ha] at hv
          obtain⟨_,hv⟩:=hv
          obtain⟨_,_,_,v,e,h4,h5⟩:=h.box g _ hb
          obtain⟨u,hr,hu⟩:=run_loadVar (base:=0) ok h5 h4 (by rw[List.drop_zero,List.take_of_length_le (by simp)]) hl
          rw[Nat.zero_add] at hr
          obtain⟨H2,l2,S2,vs,e2,V2⟩:=resI_ok hT h h2
          refine⟨H2,l2,S2,u::vs,?_,.cons _ _ _ _ (hu.mono l2) V2⟩
          simp only[List.mapM_cons,resOf,hv,asAddr,Sem.run_bind,Sem.run_pure,Result.andThen_ok,hr,e2]
        · cases hr
      · cases hr
    · cases hr
  · cases hr
theorem argS_get:∀{xs:List IV} {t:Nat},argS xs t=(match xs[t]? with|some x=>.iv x|none=>.und)
 | [],_=>rfl
 |x::l,0=>rfl
 |x::l,t+1=>by rw[argS,argS_get];rfl
theorem Sim.poke{E:Env}{H:Heap}{β:Nat→Nat×Nat}{tm:Nat→SV}{bx:Nat→Option Bx}{tmps:Array Value}{w:World}(h:Sim E H β tm bx tmps w){D:Nat}{o:Obj}(o':Obj)(hD:w.heap[D]?=some o)(hc:o.isCells=false)
 (ho:E.own D) (hm:∀d∈E.mrk,d≠ { target:=.collected D,args := #[] }):Sim E H β tm bx tmps (w.putObj D o') where
 has b arr e:=by
  obtain⟨t,fr,ht⟩:=h.has b arr e
  refine⟨t,fr,(World.putObj_heap_other fun e'=>?_).trans ht⟩
  rw[e',hD] at ht;cases ht;cases hc
 below:=h.below.trans ⟨rfl,rfl,rfl,by simp,fun k hk=>World.putObj_heap_other fun e=>hk (by rw[e];exact ho)⟩
 lo k hk:=h.lo k (by simpa using hk)
 ext:=h.ext
 slot:=h.slot
 box g b hg:=by
  by_cases ha:b.alive=true
  · refine(h.box g b hg).keep (World.putObj_heap_other fun e=>?_) (HLe.refl _) id (fun s R eb hR=>⟨World.putObj_heap_other fun e=>?_,id⟩)
    · obtain⟨arr,e',hx⟩:=(h.box g b hg).cells ha
      rw[e,hD] at hx;cases hx;cases hc
    · subst eb
      obtain⟨_,_,arr,_,fz,hx⟩:=bld_row (h.box g _ hg).2.2.1 hR
      rw[e,hD] at hx;cases hx;cases hc
  · cases b<;>first|trivial|simp[Bx.alive] at ha
 inj:=h.inj
 pin:=h.pin
 marks:=⟨h.marks.1,fun d hd=>by
  obtain⟨D',e,ho',hb⟩:=h.marks.2 d hd
  refine⟨D',e,ho',(World.putObj_heap_other fun e'=>?_).trans hb⟩
  exact hm d hd (by rw[e,e'])⟩
 hid g s g' b R h1 h2 ha hR:=h.hid g s g' b R h1 h2 ha (hR.same (World.putObj_heap_other fun e=>by
  obtain⟨arr,e',hx⟩:=(h.box g _ h1).cells rfl
  rw[e,hD] at hx;cases hx;cases hc))
theorem Sim.unmark{E:Env}{M M':List Deferred}{H:Heap}{β:Nat→Nat×Nat}{tm:Nat→SV}{bx:Nat→Option Bx}{tmps:Array Value}{w:World}(h:Sim (E.mks M) H β tm bx tmps w)(hm:MarksOk E.own M' w):Sim (E.mks M') H β tm bx tmps w :=
 ⟨h.has,h.below,h.lo,h.ext,h.slot,h.box,h.inj,h.pin,hm,h.hid⟩
theorem leavesM{P:Program}{fn:Func}{R:Ending→World→Prop}{E:Env}{nt:Nat}{H:Heap}{β:Nat→Nat×Nat}{tm:Nat→SV}{bx:Nat→Option Bx}:∀(M:List Deferred) {a:Act} {w:World},St (E.mks M) nt H β tm bx a w→
 (∀a' w',St (E.mks []) nt H β tm bx a' w'→a'.tmps=a.tmps→∃v,(results fn a'.tmps).run P w'=.ok v w'∧R (.returned v) w')→LeavesInM (FW none) 0 P fn a.tmps R M .returning w
 | [],a,w,h,hk=>hk a w h rfl
 |d::M,a,w,h,hk=>by
  obtain⟨D,e,ho,hb⟩:=h.sim.marks.2 d (by simp)
  have hp:=h.sim.marks.1
  refine⟨by simp,.inl ⟨D,w.putObj D (.deferred none),by rw[e],run_takeDeferred hb,?_⟩⟩
  have h1:=h.sim.unmark (M':=M) ⟨(List.pairwise_cons.1 hp).2,fun d' hd'=>h.sim.marks.2 d' (List.mem_cons_of_mem _ hd')⟩
  have h2:=h1.poke (.deferred none) hb rfl ho (fun d' hd' e'=>(List.pairwise_cons.1 hp).1 d' hd' (by rw[e,e']))
  exact leavesM M (a:={ a with defers:=M }) ⟨h2,rfl,h.size⟩ hk
theorem pure_of{X:Cx}{f:FuncId}{fn:Func}{c:Code}(hf:X.P.funcs[f]?=some fn)(hb:fn.body=some c)(hn:(fn.name == "runtime.NumGoroutine")=false){xs:List IV}{r:IV}(hx:xs.length≤fn.ntmps)
 (h:CW X fn.ntmps c ⟨argS xs,fun _=>none,0⟩ (retK X.T fn.results.toList r)):PureC X.P X.I f xs r:=by
 refine⟨⟨fn,hf,hn,by rw[hb];rfl⟩,fun H w args hI hH hargs=>?_⟩
 have hlen:=hargs.length
 refine(callsIn_wide (n:=0)).1 (callsIn_of_wp_marks hf hb trivial ?_)
 refine h ⟨none,X.r0⟩ ⟨fun k=>w.heap.size≤k,w,H,fun _=>none,[]⟩ _ (fun w' hw'=>X.bel _ _ _ hI (Nat.le_refl _) hw'.below) (fun e σ' M H' β a0 w0 k hS0=>?_) [] H (fun _=>(0,0)) _ w ⟨⟨hH,BelowO.refl _ _,fun _ hk=>hk,HExtO.refl _ _,fun t=>?_,fun g b hg=>(by cases hg),fun g g' b b' hg=>(by cases hg),fun p k hk=>(by cases hk),MarksOk.nil _ _,fun g s g' b R hg=>(by cases hg)⟩,rfl,?_⟩
 · have key:retP X.T fn.results.toList r σ'→∀a' w',St ⟨fun k=>w.heap.size≤k,w,H,fun _=>none,[]⟩ fn.ntmps H' β σ'.tm σ'.bx a' w'→a'.tmps=a0.tmps→∃v,(results fn a'.tmps).run X.P w'=.ok v w'∧(∃v1 H1,Ending.returned v=.returned v1∧HeapHas w' H1∧HExt w.heap.size H H1∧VR H1 v1 r∧Below w.heap.size w w'):=fun k a' w' hS _=>by
    unfold retP at k
    split at k
    · rename_i ys fs hr
      obtain⟨H1,l1,S1,vs,e1,V1⟩:=resI_ok X.hT hS.sim hr
      refine⟨(if h:vs.toArray.size=1 then vs.toArray[0] else .tuple vs.toArray),?_,_,H1,rfl,S1.has,S1.ext,?_,S1.below.below⟩
      · unfold results
        have e0:(fn.results.mapM fun | .tmp t=>pure (a'.tmps.getD t undef) | .cell a t=>do loadVar t (← asAddr (a'.tmps.getD a undef)):Sem (Array Value))=List.toArray <$> fn.results.toList.mapM (resOf a'.tmps):=by
         rw[Array.mapM_eq_mapM_toList]
         rfl
        refine(congrArg (fun(x:Sem (Array Value))=>(x >>= fun vs=>pure (if h:vs.size=1 then vs[0] else .tuple vs)).run X.P w') e0).trans ?_
        simp only[Sem.run_bind,Sem.run_map,e1,Result.andThen_ok,Sem.run_pure]
      · rw[←k]
        cases V1 with
        |nil=>exact .tup [] [] .nil
        |cons v x vs xs h0 t =>
         cases t with
         |nil=>exact h0
         |cons v' x' vs xs h1 t =>
          have:¬(v::v'::vs).toArray.size=1:=by simp
          rw[dif_neg this]
          exact .tup _ _ (.cons _ _ _ _ h0 (.cons _ _ _ _ h1 t))
    · exact k.elim
   cases e with
   |normal=>(show LeavesInM (FW none) 0 X.P fn a0.tmps (fun e w'=>∃v H',e=.returned v∧HeapHas w' H'∧HExt w.heap.size H H'∧VR H' v r∧Below w.heap.size w w') a0.defers .returning w0;rw[hS0.defers];exact leavesM M hS0 (key k))
   |ret=>(show LeavesInM (FW none) 0 X.P fn a0.tmps (fun e w'=>∃v H',e=.returned v∧HeapHas w' H'∧HExt w.heap.size H H'∧VR H' v r∧Below w.heap.size w w') a0.defers .returning w0;rw[hS0.defers];exact leavesM M hS0 (key k))
   |_=>exact k.elim
 · show SR _ _ _ _ (argS xs t)
   rw[argS_get]
   cases hx':xs[t]? with
   |some x =>
    have hlt:t<args.length:=by rw[hlen];exact(List.getElem?_eq_some_iff.1 hx').1
    obtain⟨v,h1,h2⟩:=hargs.get t x hx'
    have:(args.toArray++Array.replicate (fn.ntmps-args.toArray.size) undef).getD t undef=v:=by
     simp[Array.getElem?_append,hlt]
     exact(List.getElem?_eq_some_iff.1 h1).2
    rw[this];exact h2
   |none =>
    have hge:¬t<args.length:=by
     intro hlt
     rw[hlen] at hlt
     simp[hlt] at hx'
    show _=undef
    simp[Array.getElem?_append,hge,Array.getElem?_replicate]
    split<;>rfl
 · show(args.toArray++Array.replicate (fn.ntmps-args.toArray.size) undef).size=fn.ntmps
   simp;omega
def resF(T:TypeId→Option TY)(σ:AS)(rs:List ResultVar):Bool :=
 match resI T σ.tm σ.bx rs with
 |some (_,fs)=>!fs.any (Nat.beq pinId)
 |none=>false
def argM(off n:Nat)(xs:List IV):Nat→SV
 |0=>.ref pinId off n false
 |t+1=>argS xs t
def retM(T:TypeId→Option TY)(rs:List ResultVar)(b:Bx)(r:IV):Exit→AS→Prop
 | .normal,σ=>retP T rs r σ∧σ.bx pinId=some b∧resF T σ rs=true
 | .ret,σ=>retP T rs r σ∧σ.bx pinId=some b∧resF T σ rs=true
 |_,_=>False
theorem mut_of{X:Cx}{f:FuncId}{fn:Func}{c:Code}(hf:X.P.funcs[f]?=some fn)(hb:fn.body=some c)(hn:(fn.name == "runtime.NumGoroutine")=false){e:TypeId}{sz off n:Nat}{es es':List IV}{xs:List IV}{r:IV}(hx:xs.length+1≤fn.ntmps)
 (h:CW X fn.ntmps c ⟨argM off n xs,tbB [(pinId,.arr e sz es false)],0⟩ (retM X.T fn.results.toList (.arr e sz es' false) r)):MutC X.P X.I f e sz off n es xs es' r:=by
 refine⟨⟨fn,hf,hn,by rw[hb];rfl⟩,fun H w b cap capS args hI hH hbr hc1 hc2 hc3 hargs=>?_⟩
 have hlen:=hargs.length
 have hblt:b<w.heap.size:=hbr.lt rfl
 refine(callsIn_wide (n:=0)).1 (callsIn_of_wp_marks hf hb trivial ?_)
 refine h ⟨none,X.r0⟩ ⟨fun k=>k=b∨w.heap.size≤k,w,H,fun g=>bif Nat.beq g pinId then some (b,cap) else none,[]⟩ _ (fun w' hw'=>hI w' hw') (fun e1 σ' M H' β a0 w0 k hS0=>?_) [] H (fun _=>(b,cap)) _ w ⟨⟨hH,BelowO.refl _ _,fun _ hk=>.inr hk,HExtO.refl _ _,fun t=>?_,fun g b0 hg=>?_,fun g g' b0 b' hg hg' _ _ _=>?_,fun p k hk=>?_,MarksOk.nil _ _,fun g s g' b R hg=>(by simp only[tbB] at hg;cases hb:Nat.beq g pinId<;>rw[hb] at hg<;>cases hg)⟩,rfl,?_⟩
 · have key:(retP X.T fn.results.toList r σ'∧σ'.bx pinId=some (.arr e sz es' false)∧resF X.T σ' fn.results.toList=true)→∀a' w',St ⟨fun k=>k=b∨w.heap.size≤k,w,H,fun g=>bif Nat.beq g pinId then some (b,cap) else none,[]⟩ fn.ntmps H' β σ'.tm σ'.bx a' w'→a'.tmps=a0.tmps→∃v,(results fn a'.tmps).run X.P w'=.ok v w'∧(∃v1 H1,Ending.returned v=.returned v1∧HeapHas w' H1∧HExtO (fun k=>w.heap.size≤k) H H1∧VR H1 v1 r∧BelowO (fun k=>k=b∨w.heap.size≤k) w w'∧BR (fun k=>k=b∨w.heap.size≤k) w' H1 (b,cap) (.arr e sz es' false)):=fun⟨k,kb,kf⟩ a' w' hS _=>by
    unfold retP at k
    unfold resF at kf
    split at k
    · rename_i ys fs hr
      rw[hr] at kf
      have hnf:¬pinId∈fs:=fun hm=>by
       simp only[any_beq.2 hm] at kf
       cases kf
      obtain⟨H1,l1,S1,vs,e2,V1⟩:=resI_ok X.hT hS.sim hr
      have hp:=S1.pin pinId (b,cap) rfl
      have hbx:fzAll σ'.bx fs pinId=some (.arr e sz es' false):=by rw[fzAll_other fs _ _ hnf];exact kb
      have hbr':=S1.box pinId _ hbx
      rw[hp.1] at hbr'
      refine⟨(if h:vs.toArray.size=1 then vs.toArray[0] else .tuple vs.toArray),?_,_,H1,rfl,S1.has,⟨S1.ext.1,fun k arr hk=>?_⟩,?_,S1.below,hbr'⟩
      · unfold results
        have e0:(fn.results.mapM fun | .tmp t=>pure (a'.tmps.getD t undef) | .cell a t=>do loadVar t (← asAddr (a'.tmps.getD a undef)):Sem (Array Value))=List.toArray <$> fn.results.toList.mapM (resOf a'.tmps):=by
         rw[Array.mapM_eq_mapM_toList]
         rfl
        refine(congrArg (fun(x:Sem (Array Value))=>(x >>= fun vs=>pure (if h:vs.size=1 then vs[0] else .tuple vs)).run X.P w') e0).trans ?_
        simp only[Sem.run_bind,Sem.run_map,e2,Result.andThen_ok,Sem.run_pure]
      · rcases S1.ext.2 k arr hk with h0|h0
        · exact .inl h0
        · rcases h0 with h0|h0
          · subst h0
            have hnone:H1 k=none:=by simpa using hbr'.2.choose_spec.choose_spec.2.1
            rw[hnone] at hk;cases hk
          · exact .inr h0
      · rw[←k]
        cases V1 with
        |nil=>exact .tup [] [] .nil
        |cons v x vs xs h0 t =>
         cases t with
         |nil=>exact h0
         |cons v' x' vs xs h1 t =>
          have:¬(v::v'::vs).toArray.size=1:=by simp
          rw[dif_neg this]
          exact .tup _ _ (.cons _ _ _ _ h0 (.cons _ _ _ _ h1 t))
    · exact k.elim
   cases e1 with
   |normal=>(show LeavesInM (FW none) 0 X.P fn a0.tmps (fun e' w'=>∃v H',e'=.returned v∧HeapHas w' H'∧HExtO (fun k=>w.heap.size≤k) H H'∧VR H' v r∧BelowO (fun k=>k=b∨w.heap.size≤k) w w'∧
    BR (fun k=>k=b∨w.heap.size≤k) w' H' (b,cap) (.arr e sz es' false)) a0.defers .returning w0;rw[hS0.defers];exact leavesM M hS0 (key k))
   |ret=>(show LeavesInM (FW none) 0 X.P fn a0.tmps (fun e' w'=>∃v H',e'=.returned v∧HeapHas w' H'∧HExtO (fun k=>w.heap.size≤k) H H'∧VR H' v r∧BelowO (fun k=>k=b∨w.heap.size≤k) w w'∧
    BR (fun k=>k=b∨w.heap.size≤k) w' H' (b,cap) (.arr e sz es' false)) a0.defers .returning w0;rw[hS0.defers];exact leavesM M hS0 (key k))
   |_=>exact k.elim
 · cases t with
   |zero =>
    show SR _ _ _ _ (.ref pinId off n false)
    have hb0:tbB [(pinId,Bx.arr e sz es false)] pinId=some (.arr e sz es false):=rfl
    simp only[SR,hb0]
    refine⟨capS,?_,hc1,hc2,hc3,by simp⟩
    simp[Array.getElem?_append]
   |succ t =>
    show SR _ _ _ _ (argS xs t)
    rw[argS_get]
    cases hx':xs[t]? with
    |some x =>
     have hlt:t<args.length:=by rw[hlen];exact(List.getElem?_eq_some_iff.1 hx').1
     obtain⟨v,h1,h2⟩:=hargs.get t x hx'
     have:((.slice (some ⟨b,off*sz,none⟩) n capS::args).toArray++Array.replicate (fn.ntmps-(.slice (some ⟨b,off*sz,none⟩) n capS::args).toArray.size) undef).getD (t+1) undef=v:=by
      simp[Array.getElem?_append,hlt]
      exact(List.getElem?_eq_some_iff.1 h1).2
     rw[this];exact h2
    |none =>
     have hge:¬t<args.length:=by
      intro hlt
      rw[hlen] at hlt
      simp[hlt] at hx'
     show _=undef
     simp[Array.getElem?_append,hge,Array.getElem?_replicate]
     split<;>rfl
 · have hm:=tbB_mem hg
   simp at hm
   obtain⟨rfl,rfl⟩:=hm
   exact hbr
 · have hm:=tbB_mem hg
   have hm':=tbB_mem hg'
   simp at hm hm'
   rw[hm.1,hm'.1]
 · replace hk:(bif Nat.beq p pinId then some (b,cap) else none)=some k:=hk
   cases hb:Nat.beq p pinId with
   |false=>rw[hb] at hk;cases hk
   |true =>
    rw[hb] at hk;cases hk
    have e:=Nat.eq_of_beq_eq_true hb
    subst e
    exact⟨rfl,by simp[tbB,Nat.beq_refl],by omega,Nat.le_refl _⟩
 · show((Value.slice (some ⟨b,off*sz,none⟩) n capS::args).toArray++Array.replicate (fn.ntmps-(Value.slice (some ⟨b,off*sz,none⟩) n capS::args).toArray.size) undef).size=fn.ntmps
   simp;omega
end Go.Proofs.Fl
namespace Go.Proofs.En
open Go.RowKit Go.Proofs.Fl
section
variable {X:EX}{E:EEnv}{nt:Nat}{H H':Heap}{β β':Bm}{tm:Nat→ES}{h h':Hp}{a:Act}{w w':World}{o:Oper}
theorem keyInts_ok{Z:QS}:∀{cs:List EV} {l:List Int} {vs:List Value},keyInts cs=some l→CRL Z H β vs cs→vs=l.map (Value.int .i64)
 | [],l,vs,h,hv=>by
  simp only[keyInts,Option.some.injEq] at h;subst h
  cases vs with
  |nil=>rfl
  |cons=>exact hv.elim
 |c::cs,l,vs,h,hv=>by
  unfold keyInts at h
  split at h
  · rename_i hh;cases hh
  · rename_i n cs' hh
    cases hh
    cases hk:keyInts cs with
    |none=>rw[hk] at h;cases h
    |some l' =>
     rw[hk] at h
     simp only[Option.map_some,Option.some.injEq] at h;subst h
     cases vs with
     |nil=>exact hv.elim
     |cons v vs =>
      have h1:v=.int .i64 n:=VR.asInt hv.1.2
      rw[h1,keyInts_ok hk hv.2];rfl
  · cases h
theorem keyE_ok{Z:QS}{v:Value}{x:EW}{k:KV}(hk:keyE x=some k)(hv:WR Z H β v x):KVR v k:=by
 unfold keyE at hk
 split at hk
 · simp only[Option.some.injEq] at hk;subst hk
   obtain⟨bs,rfl,rfl⟩:=VR.asStr hv.2
   exact .str bs
 · rename_i cs
   cases hi:keyInts cs with
   |none=>rw[hi] at hk;cases hk
   |some l =>
    rw[hi] at hk
    simp only[Option.map_some,Option.some.injEq] at hk;subst hk
    obtain⟨vs,rfl,hvs⟩:=hv
    rw[keyInts_ok hi hvs]
    exact .ints l
 · cases hk
theorem KVR.fn{v:Value}{k k':KV}(h1:KVR v k)(h2:KVR v k'):k=k':=by
 cases h1 with
 |str s=>cases h2;rfl
 |ints l =>
  generalize he:Value.agg (l.map (Value.int .i64)).toArray=v at h2
  cases h2 with
  |str s=>cases he
  |ints l' =>
   simp only[Value.agg.injEq,List.toArray_inj] at he
   have:∀(a b:List Int),a.map (Value.int .i64)=b.map (Value.int .i64)→a=b:=by
    intro a
    induction a with
    |nil=>intro b hb;cases b with
     |nil=>rfl
     |cons=>simp at hb
    |cons x a ih=>intro b hb;cases b with
     |nil=>simp at hb
     |cons y b =>
      simp only[List.map_cons,List.cons.injEq,Value.int.injEq,true_and] at hb
      rw[hb.1,ih b hb.2]
   have he':l.map (Value.int .i64)=l'.map (Value.int .i64):=by simpa using congrArg Array.toList he
   rw[this l l' he']
theorem KVR.inj{v v':Value}{k:KV}(h1:KVR v k)(h2:KVR v' k):v=v':=by
 cases h1 with
 |str s =>
  generalize he:KV.str s.data.toList=k at h2
  cases h2 with
  |str s' =>
   simp only[KV.str.injEq] at he
   have:s=s':=by
    cases s;cases s'
    simp only[ByteArray.mk.injEq]
    exact Array.ext' he
   rw[this]
  |ints=>cases he
 |ints l=>cases h2;rfl
theorem MRL.get{Z:QS}:∀{vs:List MapEntry} {xs:List (EW×EW×Nat)},MRL Z H β vs xs→∀(i:Nat) (e:MapEntry),vs[i]?=some e→∃x,xs[i]?=some x∧MR Z H β e x
 | [],[],_,i,e,h=>by simp at h
 |v::_,x::_,⟨h1,_⟩,0,e,h=>by simp at h;subst h;exact⟨x,rfl,h1⟩
 |_::_,_::_,⟨_,h2⟩,i+1,e,h=>by simp at h;simpa using MRL.get h2 i e h
 | [],_::_,h,_,_,_=>h.elim
 |_::_,[],h,_,_,_=>h.elim
theorem MRL.length{Z:QS}:∀{vs:List MapEntry} {xs:List (EW×EW×Nat)},MRL Z H β vs xs→vs.length=xs.length
 | [],[],_=>rfl
 |_::_,_::_,⟨_,h2⟩=>by simp[MRL.length h2]
 | [],_::_,h=>h.elim
 |_::_,[],h=>h.elim
theorem MRL.append{Z:QS}:∀{vs:List MapEntry} {xs:List (EW×EW×Nat)} {us:List MapEntry} {ys:List (EW×EW×Nat)},MRL Z H β vs xs→MRL Z H β us ys→MRL Z H β (vs++us) (xs++ys)
 | [],[],_,_,_,h=>by simpa using h
 |_::_,_::_,_,_,⟨h1,h2⟩,h=>by simpa using(show MRL Z H β (_::_) (_::_) from⟨h1,MRL.append h2 h⟩)
 | [],_::_,_,_,h,_=>h.elim
 |_::_,[],_,_,h,_=>h.elim
theorem MRL.set{Z:QS}:∀{vs:List MapEntry} {xs:List (EW×EW×Nat)} (i:Nat) {e:MapEntry} {x:EW×EW×Nat},MRL Z H β vs xs→MR Z H β e x→MRL Z H β (vs.set i e) (xs.set i x)
 | [],[],_,_,_,_,_=>by simp[MRL]
 |_::_,_::_,0,_,_,⟨_,h2⟩,h=>⟨h,h2⟩
 |_::_,_::_,i+1,_,_,⟨h1,h2⟩,h=>⟨h1,MRL.set i h2 h⟩
 | [],_::_,_,_,_,h,_=>h.elim
 |_::_,[],_,_,_,h,_=>h.elim
theorem posE_spec{ok:KV→Bool}{k:KV}:∀{es:List (EW×EW×Nat)} {i:Nat} {l:List (Nat×EW×Nat)},posE ok k es i=some l→
 (∀x∈es,∃k',keyE x.1=some k'∧ok k'=true)∧(∀j x,es[j]?=some x→keyE x.1=some k→(i+j,x.2.1,x.2.2)∈l)∧(∀p∈l,∃j x,es[j]?=some x∧keyE x.1=some k∧p=(i+j,x.2.1,x.2.2))
 | [],i,l,h=>by
  simp only[posE,Option.some.injEq] at h;subst h
  exact⟨by simp,by simp,by simp⟩
 | (x,y,b)::es,i,l,h=>by
   unfold posE at h
   split at h
   · rename_i k' r h1 h2
     obtain⟨i1,i2,i3⟩:=posE_spec h2
     cases hok:ok k' with
     |false=>rw[hok] at h;cases h
     |true =>
      rw[hok] at h
      simp only[cond_true] at h
      have sub:∀p∈r,p∈l∧True:=fun p hp=>by
       cases hd:decide (k'=k) with
       |true=>rw[hd] at h;simp only[cond_true,Option.some.injEq] at h;subst h;exact⟨List.mem_cons_of_mem _ hp,trivial⟩
       |false=>rw[hd] at h;simp only[cond_false,Option.some.injEq] at h;subst h;exact⟨hp,trivial⟩
      refine⟨fun z hz=>?_,fun j z hj hk=>?_,fun p hp=>?_⟩
      · rcases List.mem_cons.1 hz with rfl|hz
        · exact⟨k',h1,hok⟩
        · exact i1 z hz
      · cases j with
        |zero =>
         simp only[List.getElem?_cons_zero,Option.some.injEq] at hj
         subst hj
         have:k'=k:=by rw[h1] at hk;simpa using hk
         rw[decide_eq_true this] at h
         simp only[cond_true,Option.some.injEq] at h;subst h
         simp
        |succ j =>
         have:=(sub _ (i2 j z (by simpa using hj) hk)).1
         rwa[show i+1+j=i+(j+1) by omega] at this
      · have hcase:p=(i,y,b)∧k'=k∨p∈r:=by
         cases hd:decide (k'=k) with
         |true =>
          rw[hd] at h;simp only[cond_true,Option.some.injEq] at h;subst h
          rcases List.mem_cons.1 hp with e|e
          · exact .inl ⟨e,of_decide_eq_true hd⟩
          · exact .inr e
         |false=>rw[hd] at h;simp only[cond_false,Option.some.injEq] at h;subst h;exact .inr hp
        rcases hcase with⟨e,e'⟩|e
        · exact⟨0,_,rfl,by rw[h1,e'],e⟩
        · obtain⟨j,z,z1,z2,z3⟩:=i3 p e
          exact⟨j+1,z,by simpa using z1,z2,by rw[z3,show i+1+j=i+(j+1) by omega]⟩
   · cases h
theorem find_ok(hS:ESim X.Z E H β h w){t k e:TypeId}{ok:KV→Bool}(hmk:X.B.mp t=some (k,e,ok)){g:Nat}{es:List (EW×EW×Nat)}{ck:Nat}(hg:h g=some (.map es ck)){kx:EW}{kv:KV}(hk:keyE kx=some kv)(hok:ok kv=true){v:Value}(hv:WR X.Z H β v kx)
 {l:List (Nat×EW×Nat)} (hp:posE ok kv es 0=some l) :
 ∃(kk:Nat×Nat) (ents:Array MapEntry),β g 0=some kk∧w.heap[kk.1]?=some (.map ents ck)∧MRL X.Z H β ents.toList es∧(Instr.checkKey ents.isEmpty 10000 k v).run X.P w=.ok () w∧(Instr.checkKey false 10000 k v).run X.P w=.ok () w∧
  (Instr.keyThatStays v v).run X.P w=.ok v w∧
  ((l=[]→(Instr.findKey k v ents.toList).run X.P w=.ok none w)∧∀i y b,l=[(i,y,b)]→∃en,(Instr.findKey k v ents.toList).run X.P w=.ok (some (i,en.val)) w∧ents.toList[i]?=some en∧en.key=v∧WR X.Z H β en.val y∧en.born=b):=by
 obtain⟨hu,K,hfit⟩:=X.hmk t k e ok hmk
 obtain⟨kk,ents,h1,h2,h3,h4,h5⟩:=hS.obj g _ hg
 obtain⟨p1,p2,p3⟩:=posE_spec hp
 have hkv:=keyE_ok hk hv
 obtain⟨lv,hlv⟩:=hfit v kv hkv hok
 have hall:∀en∈ents.toList,∃l,keyOf X.P k en.key=some l:=fun en hen=>by
  obtain⟨i,hi,rfl⟩:=List.mem_iff_getElem.1 hen
  obtain⟨x,hx,hm⟩:=h5.get i _ (List.getElem?_eq_getElem hi)
  obtain⟨k',hk',hok'⟩:=p1 x (List.mem_of_getElem? hx)
  exact hfit _ _ (keyE_ok hk' hm.1) hok'
 refine⟨kk,ents,h1,h4,h5,K.check w _ hlv,K.check w _ hlv,K.stays w hlv,?_⟩
 have atj:∀(j:Nat) (en:MapEntry),ents.toList[j]?=some en→en.key=v→∃y b,(j,y,b)∈l∧WR X.Z H β en.val y∧en.born=b:=fun j en hj hkey=>by
  obtain⟨x,hx,hm⟩:=h5.get j en hj
  obtain⟨k',hk',_⟩:=p1 x (List.mem_of_getElem? hx)
  have:k'=kv:=by
   have:=keyE_ok hk' hm.1
   rw[hkey] at this
   exact this.fn hkv
  subst this
  have:=p2 j x hx hk'
  rw[Nat.zero_add] at this
  exact⟨_,_,this,hm.2.1,hm.2.2⟩
 rcases K.find w hlv ents.toList hall with⟨f1,f2⟩|⟨j,en,f1,f2,f3⟩
 · refine⟨fun _=>f1,fun i y b hl=>?_⟩
   obtain⟨j,x,x1,x2,x3⟩:=p3 (i,y,b) (by rw[hl];simp)
   have hlt:j<ents.toList.length:=by rw[h5.length];exact(List.getElem?_eq_some_iff.1 x1).1
   obtain⟨x',hx',hm⟩:=h5.get j _ (List.getElem?_eq_getElem hlt)
   rw[x1] at hx';cases hx'
   exact absurd ((keyE_ok x2 hm.1).inj hkv) (f2 _ (List.getElem_mem hlt))
 · obtain⟨y,b,q1,q2,q3⟩:=atj j en f2 f3
   refine⟨fun hl=>(by rw[hl] at q1;cases q1),fun i y' b' hl=>?_⟩
   rw[hl] at q1
   simp only[List.mem_singleton,Prod.mk.injEq] at q1
   obtain⟨rfl,rfl,rfl⟩:=q1
   exact⟨en,f1,f2,f3,q2,q3⟩
theorem ok_makeMap(hS:ESt X E nt H β tm h a w){t:TypeId}{res:Option Operand}(ho:o.op=.makeMap t res){g:Nat}{r:ES}{ws:Wr}(he:eMakeMap h g (res.map (evE tm))=some (r,ws)):OpOk X E H β h a w o r ws:=by
 unfold eMakeMap at he
 split at he
 · rename_i hres hg
   have:res=none:=by cases res with|none=>rfl|some _=>cases hres
   subst this
   simp only[Option.some.injEq,Prod.mk.injEq] at he
   obtain⟨rfl,rfl⟩:=he
   have hbe:Below w.heap.size w (w.alloc (.map #[] 0)):=(Below.refl _ _).alloc (Nat.le_refl _) _
   have hnew:H w.heap.size=none:=by
    cases hx:H w.heap.size with
    |none=>rfl
    |some arr'=>have:=hS.sim.has.lt hx;omega
   obtain⟨hb,hs⟩:=hS.sim.alloc hg (b:=.map #[] 0) (s:=0) (o:=.map [] 0) Nat.one_pos ⟨_,#[],updB_same _ _ _ _,hS.sim.lo _ (Nat.le_refl _),hnew,heap_alloc_new _ _,trivial⟩
   refine⟨.map (some w.heap.size),_,_,.inl ?_,hb,hs,MarkSame.below hbe,_,updB_same _ _ _ _,rfl⟩
   simp only[execOp,ho,Instr.makeMap,Option.map_none,Sem.run_bind,run_newObj,Sem.run_pure,Result.andThen_ok];rfl
 · cases he
theorem run_getMap{P:Program}{w:World}{b ck:Nat}{ents:Array MapEntry}(h:w.heap[b]?=some (.map ents ck)):(getObj b).run P w=.ok (.map ents ck) w:=MapKept.run_getObj_map h
theorem ok_lookup(hS:ESt X E nt H β tm h a w){t:TypeId}{x ix:Operand}{cok:Bool}(ho:o.op=.lookup t x ix cok){r:ES}{ws:Wr}(he:eLookup X.B.mp X.B.zw h t (evE tm x) (evE tm ix) cok=some (r,ws)):OpOk X E H β h a w o r ws:=by
 have hx:=ev_okE hS x
 have hi:=ev_okE hS ix
 unfold eLookup at he
 split at he
 · rename_i k e ok g kx hmk hxe hie
   rw[hxe] at hx
   rw[hie] at hi
   have hi:WR X.Z H β (a.eval ix) kx:=hi
   obtain⟨kk,hkk,hxv⟩:=hx
   split at he
   · rename_i es ck kv hg hkx
     cases hok:ok kv with
     |false=>rw[hok] at he;cases he
     |true =>
      rw[hok] at he
      simp only[cond_true] at he
      have hu:=(X.hmk t k e ok hmk).1
      split at he
      · rename_i z hpos hz
        simp only[Option.some.injEq,Prod.mk.injEq] at he
        obtain⟨rfl,rfl⟩:=he
        obtain⟨kk',ents,q1,q2,q3,q4,_,_,q5,_⟩:=find_ok hS.sim hmk hg hkx hok hi hpos
        rw[hkk] at q1;cases q1
        obtain⟨iz,zv,z1,z2,z3⟩:=X.hzw e z hz
        have hzr:(zeroValue e).run X.P w=.ok zv w:=by simp[zeroValue,typeInfo,z1,z2]
        cases cok with
        |true =>
         refine OpOk.pure hS (v:=.tuple #[zv,.bool false]) ?_ ⟨[zv,.bool false],rfl,z3 H β,⟨rfl,VR.bool _⟩,trivial⟩
         simp only[execOp,ho,hxv,Instr.lookup,Sem.run_bind,run_underlying hu w,Result.andThen_ok,run_getMap q2,Sem.run_pure,q4,q5 rfl,hzr,if_true]
        |false =>
         refine OpOk.pure hS (v:=zv) ?_ (z3 H β)
         simp only[execOp,ho,hxv,Instr.lookup,Sem.run_bind,run_underlying hu w,Result.andThen_ok,run_getMap q2,Sem.run_pure,q4,q5 rfl,hzr,Bool.false_eq_true,if_false]
      · rename_i i y b hpos hz
        simp only[Option.some.injEq,Prod.mk.injEq] at he
        obtain⟨rfl,rfl⟩:=he
        obtain⟨kk',ents,q1,q2,q3,q4,_,_,_,q5⟩:=find_ok hS.sim hmk hg hkx hok hi hpos
        rw[hkk] at q1;cases q1
        obtain⟨en,f1,f2,f3,f4,f5⟩:=q5 _ _ _ rfl
        cases cok with
        |true =>
         refine OpOk.pure hS (v:=.tuple #[en.val,.bool true]) ?_ ⟨[en.val,.bool true],rfl,f4,⟨rfl,VR.bool _⟩,trivial⟩
         simp only[execOp,ho,hxv,Instr.lookup,Sem.run_bind,run_underlying hu w,Result.andThen_ok,run_getMap q2,Sem.run_pure,q4,f1,if_true]
        |false =>
         refine OpOk.pure hS (v:=en.val) ?_ f4
         simp only[execOp,ho,hxv,Instr.lookup,Sem.run_bind,run_underlying hu w,Result.andThen_ok,run_getMap q2,Sem.run_pure,q4,f1,Bool.false_eq_true,if_false]
      · cases he
   · cases he
 · cases he
theorem ESim.mapTurn(hS:ESim X.Z E H β h w){g:Nat}{es es':List (EW×EW×Nat)}{ck ck':Nat}(hg:h g=some (.map es ck)){kk:Nat×Nat}{ents ents':Array MapEntry}(hk:β g 0=some kk)(hw:w.heap[kk.1]?=some (.map ents ck))(hm:MRL X.Z H β ents'.toList es') :
 ESim X.Z E H β (upd h g (some (.map es' ck'))) (w.putObj kk.1 (.map ents' ck'))∧MarkSame w (w.putObj kk.1 (.map ents' ck')):=by
 obtain⟨kk',ents0,h1,h2,h3,h4,h5⟩:=hS.obj g _ hg
 rw[hk] at h1;cases h1
 have hlt:=(Array.getElem?_eq_some_iff.1 hw).1
 refine⟨hS.turn (by rw[hg];simp) rfl rfl rfl (by simp) (fun k' _ hk'=>World.putObj_heap_other (fun e=>hk' 0 kk hk e.symm)) (fun u s hs=>?_) (BLe.refl _) (fun _ _ _=>rfl) (fun u k' hk'=>?_) ⟨kk,ents',hk,h2,h3,World.putObj_heap_same hlt,hm⟩,fun D hD=>World.putObj_heap_other (fun e=>?_)⟩
 · obtain⟨_,_,o2,ho2,hc⟩:=hS.domN hg (by simp) u s hs
   rw[hg] at ho2;cases ho2
   have:u=0:=by simp only[EO.cnt] at hc;omega
   subst this
   rw[hk] at hs;cases hs;exact h3
 · obtain⟨a,b,o2,ho2,hc⟩:=hS.domN hg (by simp) u k' hk'
   rw[hg] at ho2;cases ho2
   exact⟨hc,by simpa using a,b,.inl ⟨u,k',hk',rfl⟩⟩
 · subst e;rw[hw] at hD;cases hD
theorem ok_mapUpdate(hS:ESt X E nt H β tm h a w){t:TypeId}{x ix y:Operand}(ho:o.op=.mapUpdate t x ix y){r:ES}{ws:Wr}(he:eMapUpdate X.B.mp h t (evE tm x) (evE tm ix) (evE tm y)=some (r,ws)):OpOk X E H β h a w o r ws:=by
 have hx:=ev_okE hS x
 have hi:=ev_okE hS ix
 have hy:=ev_okE hS y
 unfold eMapUpdate at he
 split at he
 · rename_i k e ok g kx vy hmk hxe hie hye
   rw[hxe] at hx
   rw[hie] at hi
   rw[hye] at hy
   have hi:WR X.Z H β (a.eval ix) kx:=hi
   have hy:WR X.Z H β (a.eval y) vy:=hy
   obtain⟨kk,hkk,hxv⟩:=hx
   split at he
   · rename_i es ck kv hg hkx
     cases hok:ok kv with
     |false=>rw[hok] at he;cases he
     |true =>
      rw[hok] at he
      simp only[cond_true] at he
      have hu:=(X.hmk t k e ok hmk).1
      split at he
      · rename_i hpos
        rw[forceN_eq,forceL_eq] at he
        simp only[Option.some.injEq,Prod.mk.injEq] at he
        obtain⟨rfl,rfl⟩:=he
        obtain⟨kk',ents,q1,q2,q3,_,q4,_,q5,_⟩:=find_ok hS.sim hmk hg hkx hok hi hpos
        rw[hkk] at q1;cases q1
        obtain⟨s1,s2⟩:=hS.sim.mapTurn (ents':=ents.push { key:=a.eval ix,val:=a.eval y,born:=ck }) (ck':=ck+1) hg hkk q2 (es':=es ++ [(kx,vy,ck)]) (by
         rw[Array.toList_push]
         exact q3.append ⟨⟨hi,hy,rfl⟩,trivial⟩)
        refine⟨undef,_,β,.inr ⟨rfl,?_⟩,BLe.refl _,s1,s2,rfl⟩
        simp only[execOp,ho,hxv,Instr.mapUpdate,Sem.run_bind,run_underlying hu w,Result.andThen_ok,run_getMap q2,q4,q5 rfl,MapKept.run_setObj_map _ q2,Sem.run_pure]
        rfl
      · rename_i i y0 b hpos
        rw[forceL_eq] at he
        simp only[Option.some.injEq,Prod.mk.injEq] at he
        obtain⟨rfl,rfl⟩:=he
        obtain⟨kk',ents,q1,q2,q3,_,q4,q6,_,q5⟩:=find_ok hS.sim hmk hg hkx hok hi hpos
        rw[hkk] at q1;cases q1
        obtain⟨en,f1,f2,f3,f4,f5⟩:=q5 _ _ _ rfl
        have f2':ents[i]?=some en:=by simpa using f2
        have hmod:(ents.modify i fun e=>{ e with key:=a.eval ix,val:=a.eval y }).toList=ents.toList.set i { key:=a.eval ix,val:=a.eval y,born:=b }:=by
         apply List.ext_getElem?
         intro j
         rw[Array.getElem?_toList,Array.getElem?_modify,List.getElem?_set]
         by_cases hij:i=j
         · subst hij
           have hlt:=(Array.getElem?_eq_some_iff.1 f2').1
           rw[if_pos rfl,if_pos rfl,f2']
           simp[hlt,f5]
         · rw[if_neg hij,if_neg hij];simp
        obtain⟨s1,s2⟩:=hS.sim.mapTurn (ents':=ents.modify i fun e=>{ e with key:=a.eval ix,val:=a.eval y }) (ck':=ck) hg hkk q2 (es':=es.set i (kx,vy,b)) (by
         rw[hmod]
         exact q3.set i ⟨hi,hy,rfl⟩)
        refine⟨undef,_,β,.inr ⟨rfl,?_⟩,BLe.refl _,s1,s2,rfl⟩
        have hkey:((ents[i]?).map (·.key)).getD (a.eval ix)=a.eval ix:=by rw[f2'];simp[f3]
        simp only[execOp,ho,hxv,Instr.mapUpdate,Sem.run_bind,run_underlying hu w,Result.andThen_ok,run_getMap q2,q4,f1,hkey,q6,MapKept.run_setObj_map _ q2,Sem.run_pure]
        rfl
      · cases he
   · cases he
 · cases he
theorem ok_insert(hS:ESt X E nt H β tm h a w){t:TypeId}{x ix y:Operand}(ho:o.op=.insert t x ix y){r:ES}{ws:Wr}(he:eMapUpdate X.B.mp h t (evE tm x) (evE tm ix) (evE tm y)=some (r,ws)):OpOk X E H β h a w o r ws:=by
 have:=ok_mapUpdate (o:={ o with op:=.mapUpdate t x ix y }) hS rfl he
 have e:execOp a.eval { o with op:=.mapUpdate t x ix y }=execOp a.eval o:=by
  cases o;simp only at ho;subst ho;rfl
 unfold OpOk at this ⊢
 rw[e] at this
 exact this
theorem ok_range(hS:ESt X E nt H β tm h a w){t:TypeId}{x:Operand}(ho:o.op=.range t x){g:Nat}{r:ES}{ws:Wr}(he:eRange X.B.mp h g t (evE tm x)=some (r,ws)):OpOk X E H β h a w o r ws:=by
 have hx:=ev_okE hS x
 unfold eRange at he
 split at he
 · rename_i kd gm hmk hxe
   obtain⟨k,e,ok⟩:=kd
   rw[hxe] at hx
   obtain⟨km,hkm,hxv⟩:=hx
   split at he
   · rename_i es ck hgm hg
     rw[forceN_eq] at he
     simp only[Option.some.injEq,Prod.mk.injEq] at he
     obtain⟨rfl,rfl⟩:=he
     have hu:=(X.hmk t k e ok hmk).1
     obtain⟨km',ents,q1,q2,q3,q4,q5⟩:=hS.sim.obj gm _ hgm
     rw[hkm] at q1;cases q1
     have hbe:Below w.heap.size w (w.alloc (.mapIter (some km.1) ck #[] ck)):=(Below.refl _ _).alloc (Nat.le_refl _) _
     have hnew:H w.heap.size=none:=by
      cases hx:H w.heap.size with
      |none=>rfl
      |some arr'=>have:=hS.sim.has.lt hx;omega
     have hne:¬(gm=g∧0=0):=fun e=>by rw[e.1,hg] at hgm;cases hgm
     obtain⟨hb,hs⟩:=hS.sim.alloc hg (b:=.mapIter (some km.1) ck #[] ck) (s:=0) (o:=.iter gm ck [] ck none) Nat.one_pos ⟨_,km,#[],updB_same _ _ _ _,by rw[updB_other _ _ _ _ hne];exact hkm,hS.sim.lo _ (Nat.le_refl _),hnew,heap_alloc_new _ _,fun b=>Iff.rfl,fun b hb=>by cases hb⟩
     refine⟨.pointer (some ⟨w.heap.size,0,none⟩),_,_,.inl ?_,hb,hs,MarkSame.below hbe,_,updB_same _ _ _ _,rfl⟩
     simp only[execOp,ho,hxv,Instr.range,Sem.run_bind,run_underlying hu w,Result.andThen_ok,run_getMap q4,run_newObj,Sem.run_pure];rfl
   · cases he
 · cases he
theorem findB_ok{b:Nat}:∀{es:List (EW×EW×Nat)} {ents:List MapEntry} {k v:EW},MRL X.Z H β ents es→findB b es=some (k,v)→∃en,ents.find? (fun e=>e.born==b)=some en∧WR X.Z H β en.key k∧WR X.Z H β en.val v∧en.born=b
 | [],_,_,_,_,h=>by cases h
 | (k',v',b')::es,[],_,_,hm,_=>hm.elim
 | (k',v',b')::es,en::ents,k,v,⟨⟨h1,h2,h3⟩,ht⟩,h=>by
   unfold findB at h
   cases hb:Nat.beq b' b with
   |true =>
    rw[hb] at h
    simp only[cond_true,Option.some.injEq,Prod.mk.injEq] at h
    obtain⟨rfl,rfl⟩:=h
    have:=Nat.eq_of_beq_eq_true hb;subst this
    exact⟨en,by simp[List.find?_cons,h3],h1,h2,h3⟩
   |false =>
    rw[hb] at h
    obtain⟨en',e1,e2⟩:=findB_ok ht h
    refine⟨en',?_,e2⟩
    have:(en.born==b)=false:=by
     simp only[beq_eq_false_iff_ne,ne_eq]
     intro e';rw[h3] at e'
     have h':b'=b:=e'
     subst h';rw[Nat.beq_refl] at hb;cases hb
    rw[List.find?_cons,this];exact e1
theorem ok_entry(hS:ESt X E nt H β tm h a w){x:Operand}(ho:o.op=.entry x){r:ES}{ws:Wr}(he:eEntry h (evE tm x)=some (r,ws)):OpOk X E H β h a w o r ws:=by
 have hx:=ev_okE hS x
 unfold eEntry at he
 split at he
 · rename_i gi hxe
   rw[hxe] at hx
   obtain⟨ki,hki,hxv⟩:=hx
   split at he
   · rename_i gm since seen last b hgi
     obtain⟨ki',km,sn,p1,p2,p3,p4,p5,p6,p7⟩:=hS.sim.obj gi _ hgi
     rw[hki] at p1;cases p1
     split at he
     · rename_i es ck hgm
       obtain⟨km',ents,q1,q2,q3,q4,q5⟩:=hS.sim.obj gm _ hgm
       rw[p2] at q1;cases q1
       cases hck:Nat.beq ck last with
       |false=>rw[hck] at he;cases he
       |true =>
        rw[hck] at he
        simp only[cond_true] at he
        have hck:=Nat.eq_of_beq_eq_true hck
        subst hck
        split at he
        · rename_i kx v hf
          simp only[Option.some.injEq,Prod.mk.injEq] at he
          obtain⟨rfl,rfl⟩:=he
          obtain⟨en,f1,f2,f3,_⟩:=findB_ok q5 hf
          have f1':ents.find? (fun e=>e.born==b)=some en:=by rw[←Array.find?_toList];exact f1
          refine OpOk.pure hS (v:=.tuple #[en.key,en.val]) ?_ ⟨[en.key,en.val],rfl,f2,f3,trivial⟩
          have hgo:(getObj ki.1).run X.P w=.ok (.mapIter (some km.1) since sn ck) w:=by simp[getObj,Sem.run,p5]
          simp only[execOp,ho,hxv,Instr.entry,Sem.run_bind,hgo,Result.andThen_ok,p7 b rfl,run_getMap q4,bne_self_eq_false,Bool.false_eq_true,if_false,f1',Sem.run_pure]
        · cases he
     · cases he
   · cases he
 · cases he
theorem ok_index(hS:ESt X E nt H β tm h a w){t:TypeId}{x ix:Operand}(ho:o.op=.index t x ix){r:ES}{ws:Wr}(he:eIndex X.T t (evE tm x) (evE tm ix)=some (r,ws)):OpOk X E H β h a w o r ws:=by
 have hx:=ev_okE hS x
 have hi:=ev_okE hS ix
 unfold eIndex at he
 split at he
 · rename_i ty cs k i ht hxe hie
   rw[hxe] at hx
   rw[hie] at hi
   have hi:=hi.int
   obtain⟨vs,hx,hvs⟩:=hx
   obtain⟨ti,d,z,ok⟩:=tyOf_ok (X.hT t ty ht)
   split at he
   · rename_i n e hsh
     have hd':=ok.sh
     rw[hsh] at hd'
     obtain rfl:=shOf_array hd'
     split at he
     · rename_i te hte
       obtain⟨ie,de,ze,oke⟩:=tyOf_ok (X.hT e te hte)
       cases hb:(Nat.blt i n&&(Nat.beq te.size 1 && !te.sh.agg)) with
       |false=>rw[hb] at he;cases he
       |true =>
        rw[hb] at he
        simp only[cond_true] at he
        simp only[Bool.and_eq_true,Bool.not_eq_true'] at hb
        obtain⟨b1,b2,b3⟩:=hb
        have b1:i<n:=by rwa[Nat.blt_eq] at b1
        have b2:=Nat.eq_of_beq_eq_true b2
        split at he
        · rename_i c hc
          simp only[Option.some.injEq,Prod.mk.injEq] at he
          obtain⟨rfl,rfl⟩:=he
          obtain⟨v,hv1,hv2⟩:=hvs.get i c hc
          refine OpOk.pure hS (v:=v) ?_ hv2
          have hag:=oke.run_agg w
          rw[b3] at hag
          have hv1':vs.toArray[i]?=some v:=by simpa using hv1
          have hcond:(0:Int)≤(i:Int)∧(i:Int)<(n:Int):=by omega
          simp only[execOp,ho,hx,hi,Instr.index,asIntOf,Sem.run_bind,ok.run_und,Result.andThen_ok,Sem.run_pure,Int.ofNat_eq_natCast,if_pos hcond,oke.run_size,b2,part,hag,Bool.false_eq_true,if_false,Int.ofNat_eq_natCast,Int.toNat_natCast,Nat.mul_one,hv1']
        · cases he
     · cases he
   · cases he
 · cases he
theorem eOp_ok(hS:ESt X E nt H β tm h a w){g:Nat}{r:ES}{ws:Wr}(he:eOp X.Z X.B o.op (evE tm) h g=some (r,ws)):OpOk X E H β h a w o r ws:=by
 unfold eOp at he
 split at he
 · rename_i x ho
   simp only[Option.some.injEq,Prod.mk.injEq] at he
   obtain⟨rfl,rfl⟩:=he
   exact ok_move hS (.inl ho)
 · rename_i x ho
   simp only[Option.some.injEq,Prod.mk.injEq] at he
   obtain⟨rfl,rfl⟩:=he
   exact ok_move hS (.inr ho)
 · rename_i ho;exact ok_pick hS ho he
 · rename_i ho;exact ok_alloc hS ho he
 · rename_i ho;exact ok_box hS ho he
 · rename_i ho;exact ok_build hS ho he
 · rename_i ho;exact ok_buildSlice hS ho he
 · rename_i ho;exact ok_load hS ho he
 · rename_i ho;exact ok_store hS ho he
 · rename_i ho;exact ok_nil hS ho he
 · rename_i ho;exact ok_binOp hS ho he
 · rename_i ho;exact ok_unOp hS ho he
 · rename_i ho;exact ok_convert hS ho he
 · rename_i ho;exact ok_makeFunc hS ho he
 · rename_i ho;exact ok_makeSlice hS ho he
 · rename_i ho;exact ok_slice hS ho he
 · rename_i ho;exact ok_fieldAddr hS ho he
 · rename_i ho;exact ok_field hS ho he
 · rename_i ho;exact ok_indexAddr hS ho he
 · rename_i ho;exact ok_extract hS ho he
 · rename_i ho;exact ok_builtin hS ho he
 · rename_i ho;exact ok_makeMap hS ho he
 · rename_i ho;exact ok_lookup hS ho he
 · rename_i ho;exact ok_mapUpdate hS ho he
 · rename_i ho;exact ok_insert hS ho he
 · rename_i ho;exact ok_range hS ho he
 · rename_i ho;exact ok_entry hS ho he
 · rename_i ho;exact ok_index hS ho he
 · cases he
end
end Go.Proofs.En
