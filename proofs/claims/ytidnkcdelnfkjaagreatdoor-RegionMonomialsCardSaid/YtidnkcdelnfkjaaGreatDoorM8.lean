/-
  RegionMonomials: the monomials are the document's, or the error is, for every input; no condition.
-/
import Derived.Test.YtidnkcdelnfkjaaGreatDoorM7
namespace Go.Proofs.En
open Go.RowKit Go.Proofs.Fl Go.Proofs.Dig
attribute [local irreducible] IntKind.wrap PureC MutC MakC IterC SW SWr CallOk To
open Go.Proofs.Reg
def colZ(vs:List (List Int))(i:Nat):List Int:=vs.map fun r=>r.getD i 0
def formsZ(vs:List (List Int))(pw:List Nat):Nat→List (List Int)
 |0=>[]
 |i+1=>List.replicate (pw.getD i 0) (colZ vs i)++formsZ vs pw i
def dn(n:Nat):IV:=di' n
noncomputable def pwD(pw:List Nat):IV:=.sl (pw.map dn)
def zQ:List EV:=[.iv (.sl []),.iv (.bool false),.iv (.sl [])]
structure TbOk(M:Nat)(fs:List (List Int))(l:Tb):Prop where
 nd:(keys l).Nodup
 tot:∀k∈keys l,k.tot=fs.length
 lin:∀ φ,lin φ l=expZ fs φ
 abs:absZ l≤M^fs.length
noncomputable def vD(D:Nat)(vs:List (List Int)):IV:=.sl (vs.map fun r=>.sl (r.map fun z=>qr (mkRat z D)))
structure GA(M:Nat)(vs:List (List Int))(pw:List Nat) where
 i:Nat
 l:Tb
 hi:i≤pw.length
 ok:TbOk M (formsZ vs pw i) l
theorem tb1(M:Nat):TbOk M [] [(K5.zero,1)]:=⟨by simp[keys],by simp[keys,K5.zero,K5.tot],fun φ=>by simp[lin,expZ],by simp[absZ]⟩
structure GB(M:Nat)(col:List Int)(fs:List (List Int))(e:Nat) where
 j:Nat
 l:Tb
 hj:j≤e
 ok:TbOk M (List.replicate j col++fs) l
structure GC(M:Nat)(col:List Int)(fs:List (List Int))(l:Tb) where
 seen:List Nat
 m:Tb
 cur:Option Nat
 nd:(keys m).Nodup
 tot:∀k∈keys m,k.tot=fs.length+1
 lin:∀ φ,lin φ m+linL (fun k=>formS φ k col 0) (leftZ seen l 0)=expZ (col::fs) φ
 abs:absZ m+M*absL (leftZ seen l 0)≤M^(fs.length+1)
structure GD(M:Nat)(col:List Int)(fs:List (List Int))(l:Tb)(seen:List Nat)(k:K5)(z:Int) where
 p:Nat
 m:Tb
 hp:p≤col.length
 nd:(keys m).Nodup
 tot:∀k∈keys m,k.tot=fs.length+1
 lin:∀ φ,lin φ m+z*formS φ k (col.drop p) p+linL (fun k=>formS φ k col 0) (leftZ seen l 0)=expZ (col::fs) φ
 abs:absZ m+z.natAbs*absI (col.drop p)+M*absL (leftZ seen l 0)≤M^(fs.length+1)
theorem TbOk.start{M:Nat}{col:List Int}{fs:List (List Int)}{l:Tb}(ok:TbOk M fs l):(∀ φ,Reg.lin φ []+linL (fun k=>formS φ k col 0) (leftZ [] l 0)=expZ (col::fs) φ)∧absZ []+M*absL (leftZ [] l 0)≤M^(fs.length+1):=by
 refine⟨fun φ=>?_,?_⟩
 · rw[leftZ_nil,ok.lin];simp[Reg.lin,expZ]
 · rw[leftZ_nilA,Nat.pow_succ,Nat.mul_comm]
   have:=Nat.mul_le_mul_right M ok.abs
   simp only[absZ];omega
theorem getn{pw:List Nat}{i:Nat}(h:i<pw.length):(pw.map dn)[i]?=some (di' (pw.getD i 0:Nat)):=by
 rw[List.getElem?_map,List.getD_eq_getElem?_getD,List.getElem?_eq_getElem h];rfl
theorem mkE_closed{d:Nat}:∀{l:Tb} {i:Nat},∀e∈mkE d l i,ewI e.1=[]∧ewI e.2.1=[]
 | [],_,e,h=>by cases h
 |p::l,i,e,h=>by
  rcases List.mem_cons.1 h with rfl|h
  · exact⟨rfl,rfl⟩
  · exact mkE_closed e h
theorem mpO_closed{d:Nat}{l:Tb}:closedO (mpO d l):=mkE_closed
theorem formsZ_mono{vs:List (List Int)}{pw:List Nat}{i j:Nat}(h:i≤j):(formsZ vs pw i).length≤(formsZ vs pw j).length:=by
 induction h with
 |refl=>exact Nat.le_refl _
 |step _ ih=>rw[formsZ,List.length_append];omega
theorem getm{α β:Type _}(f:α→β){l:List α}(d:α){i:Nat}(h:i<l.length):(l.map f)[i]?=some (f (l.getD i d)):=by
 rw[List.getElem?_map,List.getD_eq_getElem?_getD,List.getElem?_eq_getElem h];rfl
theorem qb{M D T:Nat}(hM:1≤M)(hD:0<D)(hs:ln (M^(T+1))+ln (D^(T+1))<2^36){z:Int}{a b:Nat}(hz:z.natAbs≤M^a)(ha:a≤T+1)(hb:b≤T+1):qln (mkRat z (D^b))<2^36:=by
 have h1:=qln_ratio (z:=z) (Nat.pow_pos hD:0<D^b)
 have h2:=ln_mono (Nat.le_trans hz (Nat.pow_le_pow_right hM ha))
 have h3:=ln_mono (Nat.pow_le_pow_right hD hb)
 omega
theorem mkR_mul{a b:Int}{d n:Nat}:mkRat a (d^n)*mkRat b d=mkRat (a*b) (d^(n+1)):=by
 rw[Rat.mkRat_mul_mkRat,Nat.pow_succ]
theorem mkR_add{a b:Int}{d:Nat}(hd:0<d):mkRat a d+mkRat b d=mkRat (a+b) d:=by
 rw[Rat.mkRat_add_mkRat _ _ (by omega) (by omega),←Int.add_mul,Rat.mkRat_mul_right (by omega)]
theorem absI_getD:∀{l:List Int} {p:Nat},(l.getD p 0).natAbs≤absI l
 | [],_=>by simp
 |x::l,0=>by simp[absI]
 |x::l,p+1=>by
  have:=absI_getD (l:=l) (p:=p)
  simp only[absI,List.getD_cons_succ];omega
theorem drop_getD{l:List Int}{p:Nat}(h:p<l.length):l.drop p=l.getD p 0::l.drop (p+1):=by
 rw[List.drop_eq_getElem_cons h,List.getD_eq_getElem?_getD,List.getElem?_eq_getElem h];rfl
def absR(s:Rat):Rat:=⟨(s.num.natAbs:Int),s.den,s.den_nz,by simpa using s.reduced⟩
def facs(k:K5):Nat→Nat
 |0=>1
 |1=>fct k.a
 |2=>fct k.a*fct k.b
 |3=>fct k.a*fct k.b*fct k.c
 |4=>fct k.a*fct k.b*fct k.c*fct k.d
 |_=>fct k.a*fct k.b*fct k.c*fct k.d*fct k.e
def phiK(k:K5):Int:=(facs k 5:Nat)
theorem fct_mono{a b:Nat}(h:a≤b):fct a≤fct b:=by
 induction h with
 |refl=>exact Nat.le_refl _
 |step _ ih=>exact Nat.le_trans ih (Nat.le_mul_of_pos_right _ (Nat.succ_pos _))
theorem facs_le{k:K5}{T:Nat}(h:k.tot≤T)(t:Nat):facs k t≤fct T^5:=by
 unfold K5.tot at h
 have ha:=fct_mono (show k.a≤T by omega)
 have hb:=fct_mono (show k.b≤T by omega)
 have hc:=fct_mono (show k.c≤T by omega)
 have hd:=fct_mono (show k.d≤T by omega)
 have he:=fct_mono (show k.e≤T by omega)
 have hT:=fct_pos T
 generalize fct T=F at *
 have p1:fct k.a≤F^1:=by rw[Nat.pow_one];exact ha
 have p2:fct k.a*fct k.b≤F^2:=Nat.mul_le_mul p1 hb
 have p3:fct k.a*fct k.b*fct k.c≤F^3:=Nat.mul_le_mul p2 hc
 have p4:fct k.a*fct k.b*fct k.c*fct k.d≤F^4:=Nat.mul_le_mul p3 hd
 have p5:fct k.a*fct k.b*fct k.c*fct k.d*fct k.e≤F^5:=Nat.mul_le_mul p4 he
 have up:∀n,n≤5→F^n≤F^5:=fun n hn=>Nat.pow_le_pow_right hT hn
 unfold facs
 split
 · exact Nat.one_le_pow _ _ hT
 · exact Nat.le_trans p1 (up _ (by omega))
 · exact Nat.le_trans p2 (up _ (by omega))
 · exact Nat.le_trans p3 (up _ (by omega))
 · exact Nat.le_trans p4 (up _ (by omega))
 · exact p5
theorem qbF{M D T F:Nat}(hD:0<D)(hs:ln (M^(T+1)*F)+ln (D^(T+1))<2^36){z:Int}(hz:z.natAbs≤M^(T+1)*F){b:Nat}(hb:b≤T+1):qln (mkRat z (D^b))<2^36:=by
 have h1:=qln_ratio (z:=z) (Nat.pow_pos hD:0<D^b)
 have h2:=ln_mono hz
 have h3:=ln_mono (Nat.pow_le_pow_right hD hb)
 omega
theorem mkR_nat{a:Int}{d n:Nat}:mkRat a d*((n:Nat):Rat)=mkRat (a*(n:Int)) d:=by
 have:((n:Nat):Rat)=mkRat (n:Int) 1:=by rw[Rat.mkRat_one];rfl
 rw[this,Rat.mkRat_mul_mkRat,Nat.mul_one]
theorem forms_sum{vs:List (List Int)}{pw:List Nat}:∀i,i≤pw.length→Fl.sumI ((pw.map fun n:Nat=>(n:Int)).take i)=((formsZ vs pw i).length:Int)
 |0,_=>by simp[formsZ,Fl.sumI]
 |i+1,h=>by
  have ih:=forms_sum (vs:=vs) (pw:=pw) i (by omega)
  rw[sumI_take (by rw[List.length_map];omega),ih,formsZ,List.length_append,List.length_replicate]
  have:(pw.map fun n:Nat=>(n:Int)).getD i 0=((pw.getD i 0:Nat):Int):=by
   rw[List.getD_eq_getElem?_getD,getm (fun n:Nat=>(n:Int)) 0 (show i<pw.length by omega)];rfl
  rw[this];omega
structure GE(M:Nat)(fs:List (List Int))(l:Tb) where
 seen:List Nat
 s:Int
 cur:Option Nat
 lin:s+linL phiK (leftZ seen l 0)=expZ fs phiK
 abs:∃a:Nat,a+absL (leftZ seen l 0)≤M^fs.length∧s.natAbs≤a*fct fs.length^5
theorem mz0{d:Nat}:mz d 0=.agg zQ:=by unfold mz qw;rw[Rat.zero_mkRat,dg_zero_qr];rfl
def kth(k:K5):Nat→Nat
 |0=>k.a
 |1=>k.b
 |2=>k.c
 |3=>k.d
 |_=>k.e
theorem facs_succ(k:K5){t:Nat}(h:t<5):facs k (t+1)=facs k t*fct (kth k t):=by
 have:t=0∨t=1∨t=2∨t=3∨t=4:=by omega
 rcases this with rfl|rfl|rfl|rfl|rfl
 · exact(Nat.one_mul _).symm
 · rfl
 · rfl
 · rfl
 · rfl
theorem absI_nat:∀pw:List Nat,(absI (pw.map fun n:Nat=>(n:Int)):Int)=Fl.sumI (pw.map fun n:Nat=>(n:Int))
 | []=>rfl
 |x::l=>by
  have:=absI_nat l
  simp only[List.map_cons,absI,Fl.sumI];omega
theorem hz60:zeroWS 60=some (qw 0):=by
 have:qw 0=.agg zQ:=by unfold qw;rw[dg_zero_qr];rfl
 rw[this];rfl
theorem okK0:okK K5.zero:=by unfold okK;decide
set_option maxHeartbeats 40000000 in
theorem r190_ok(J:Keep){D M:Nat}{vs:List (List Int)}{pw:List Nat}{s:Rat}(c259:Go.Proofs.Fl.C J 259 [vD D vs] (qr s))(hs0:s≠0)(hs1:qln s<2^30)(hpl:pw.length<100){T:Nat}(hT:(formsZ vs pw pw.length).length=T)(hT32:T<2^31)(hM:1≤M)(hD:0<D)(hsF:ln (M^(T+1)*fct T^5)+ln (D^(T+1))<2^36)(hcol:∀i,i<pw.length→absI (colZ vs i)≤M)(hrow:∀r∈vs,r.length=pw.length)(hvs:vs.length≤5) :
 Go.Proofs.Fl.C J 190 [vD D vs,pwD pw] (qr (mkRat (expZ (formsZ vs pw pw.length) phiK) (D^T)*absR s/((fct (pw.length+T):Nat):Rat))):=by
 refine pS Tryz.func190 rfl rfl rfl rfl rfl ?_
 have cA:=f54_ok J s
 obtain⟨q,hq⟩:∃q,absR s=q:=⟨_,rfl⟩
 rw[hq]
 have hq0:q≠0:=by
  rw[←hq];intro e
  have:=congrArg Rat.num e
  have h0:s.num.natAbs=0:=by simpa[absR] using this
  exact hs0 (Rat.num_eq_zero.1 (Int.natAbs_eq_zero.1 h0))
 have hq1:qln q<2^30:=by rw[←hq];exact hs1
 have cA:Go.Proofs.Fl.C J 32 [qr s] (qr q):=by rw[←hq];exact cA
 have hs:ln (M^(T+1))+ln (D^(T+1))<2^36:=by
  have:=ln_mono (Nat.le_mul_of_pos_right (M^(T+1)) (Nat.pow_pos (n:=5) (fct_pos T)))
  omega
 have c1:=f22_ok J q
 have hn0:q.num≠0:=fun e=>hq0 (Rat.num_eq_zero.1 e)
 have hc:cmpI q.num 0≠0:=fun e=>hn0 (cmpI_zero e)
 have c2:Go.Proofs.Fl.C J 140 [.int .i64 1] (qr (mkRat 1 (D^0))):=by
  have:=r140_ok J (n:=1) (by omega) (by omega)
  rw[show mkRat 1 (D^0)=((1:Int):Rat) by rw[Nat.pow_zero];rfl];exact this
 have lp:(((pw.map dn).length:Nat):Int)=(pw.length:Int):=by simp
 repeat (first|((first|refine SW.RS (by kernel_rfl) ?_|refine SW.skip ?_|refine Or.inl ⟨_,_,c259,rfl,rfl,rfl,?_⟩|refine Or.inl ⟨_,_,cA,rfl,rfl,rfl,?_⟩|refine Or.inl ⟨_,_,c1,rfl,rfl,rfl,?_⟩|refine Or.inl ⟨_,_,c2,rfl,rfl,rfl,?_⟩|refine exU (upd340 (d:=D^0) (l:=[]) (k:=K5.zero) 1 rfl (by simp[keys]) (by simp[keys]) okK0) ?_|refine exZ lp ?_|refine And.intro rfl (exB (b:=false) (decide_eq_false (by omega)) ?_)|refine exO rfl ?_|refine exC rfl ?_);conv=>whnf)|(refine SW.seq ?_)|(refine SW.block ?_)|(refine SW.condF rfl ?_))
 refine SW.loopT (G:=GA M vs pw) (fun g=>mkS [(0,iv1 (vD D vs)),(1,iv1 (pwD pw)),(4,.w (.one (.ptr 0 0 0))),(5,.w (.one (.ptr 1 0 0))),(6,.w (.one (.mp 2))),(31,iv1 (pwD pw)),(32,iv1 (di' pw.length)),(33,iv1 (di' g.i))]
  [(0,.mem 60 zQ false [(0,3)] 1),(1,.mem 60 ((qw q).cells ZZ) false [(0,3)] 1),(2,mpO (D^(formsZ vs pw g.i).length) g.l)] 3) (fun g=>pw.length-g.i) ⟨0,[(K5.zero,1)],Nat.zero_le _,tb1 M⟩
  (To.tab [] ⟨.same rfl rfl,.same rfl rfl,.rn rfl rfl,.rn rfl rfl,.rn rfl rfl,.same rfl rfl,.same rfl rfl,.same rfl rfl,trivial⟩ ⟨.same rfl rfl,.same rfl rfl,.same rfl mpO_closed,trivial⟩ rfl) ?_
 rintro⟨i,l,hi,ok⟩
 show SW (XS J) 0 _ _ _ (mkS [(0,iv1 (vD D vs)),(1,iv1 (pwD pw)),(4,.w (.one (.ptr 0 0 0))),(5,.w (.one (.ptr 1 0 0))),(6,.w (.one (.mp 2))),(31,iv1 (pwD pw)),(32,iv1 (di' pw.length)),(33,iv1 (di' i))]
  [(0,.mem 60 zQ false [(0,3)] 1),(1,.mem 60 ((qw q).cells ZZ) false [(0,3)] 1),(2,mpO (D^(formsZ vs pw i).length) l)] 3) _
 by_cases h:i<pw.length
 · have gp:(pw.map dn)[i]?=some (di' (pw.getD i 0:Nat)):=getn h
   obtain⟨e,he⟩:∃e,pw.getD i 0=e:=⟨_,rfl⟩
   rw[he] at gp
   have hfl:(formsZ vs pw (i+1)).length≤T:=by rw[←hT];exact formsZ_mono (by omega)
   have hfe:(formsZ vs pw (i+1)).length=e+(formsZ vs pw i).length:=by rw[formsZ,List.length_append,List.length_replicate,he]
   have he32:e<2^32:=by omega
   repeat (first|((first|refine SW.RS (by kernel_rfl) ?_|refine SW.skip ?_|refine exIx rfl gp rfl ?_|refine And.intro rfl (exB (b:=true) (decide_eq_true (by omega)) ?_));conv=>whnf)|(refine SW.seq ?_)|(refine SW.block ?_)|(refine SW.condT rfl ?_))
   refine SW.loopT (G:=GB M (colZ vs i) (formsZ vs pw i) e) (fun g=>mkS [(0,iv1 (vD D vs)),(1,iv1 (pwD pw)),(4,.w (.one (.ptr 0 0 0))),(5,.w (.one (.ptr 1 0 0))),(6,.w (.one (.mp 2))),(7,iv1 (di' i)),(31,iv1 (pwD pw)),(32,iv1 (di' pw.length)),(33,iv1 (di' i)),(38,iv1 (di' e)),(39,iv1 (di' g.j))]
    [(0,.mem 60 zQ false [(0,3)] 1),(1,.mem 60 ((qw q).cells ZZ) false [(0,3)] 1),(2,mpO (D^(g.j+(formsZ vs pw i).length)) g.l)] 3) (fun g=>e-g.j) ⟨0,l,Nat.zero_le _,by simpa using ok⟩
    (To.tab [] ⟨.same rfl rfl,.same rfl rfl,.rn rfl rfl,.rn rfl rfl,.rn rfl rfl,.same rfl rfl,.same rfl rfl,.same rfl rfl,.same rfl rfl,.same rfl rfl,.same rfl rfl,trivial⟩ ⟨.same rfl rfl,.same rfl rfl,.same (by simp only[Nat.zero_add];rfl) mpO_closed,trivial⟩ rfl) ?_
   rintro⟨j,l,hj,ok⟩
   show SW (XS J) 0 _ _ _ (mkS [(0,iv1 (vD D vs)),(1,iv1 (pwD pw)),(4,.w (.one (.ptr 0 0 0))),(5,.w (.one (.ptr 1 0 0))),(6,.w (.one (.mp 2))),(7,iv1 (di' i)),(31,iv1 (pwD pw)),(32,iv1 (di' pw.length)),(33,iv1 (di' i)),(38,iv1 (di' e)),(39,iv1 (di' j))]
    [(0,.mem 60 zQ false [(0,3)] 1),(1,.mem 60 ((qw q).cells ZZ) false [(0,3)] 1),(2,mpO (D^(j+(formsZ vs pw i).length)) l)] 3) _
   by_cases h2:j<e
   · skip
     repeat (first|((first|refine SW.RS (by kernel_rfl) ?_|refine SW.skip ?_|refine And.intro rfl (exB (b:=true) (decide_eq_true (by omega)) ?_)|refine exRg rfl ?_);conv=>whnf)|(refine SW.seq ?_)|(refine SW.block ?_)|(refine SW.condT rfl ?_))
     refine SW.loopT (G:=GC M (colZ vs i) (List.replicate j (colZ vs i)++formsZ vs pw i) l) (fun g=>mkS [(0,iv1 (vD D vs)),(1,iv1 (pwD pw)),(4,.w (.one (.ptr 0 0 0))),(5,.w (.one (.ptr 1 0 0))),(6,.w (.one (.mp 2))),(7,iv1 (di' i)),(9,.w (.one (.mp 3))),(31,iv1 (pwD pw)),(32,iv1 (di' pw.length)),(33,iv1 (di' i)),(38,iv1 (di' e)),(39,iv1 (di' j)),(43,.w (.one (.ptr 4 0 0)))]
      [(0,.mem 60 zQ false [(0,3)] 1),(1,.mem 60 ((qw q).cells ZZ) false [(0,3)] 1),(2,mpO (D^(j+(formsZ vs pw i).length)) l),(3,mpO (D^(j+(formsZ vs pw i).length+1)) g.m),(4,.iter 2 l.length g.seen l.length g.cur)] 5) (fun g=>(leftZ g.seen l 0).length) ⟨[],[],none,by simp[keys],by simp[keys],(TbOk.start (col:=colZ vs i) ok).1,(TbOk.start (col:=colZ vs i) ok).2⟩
      (To.tab [] ⟨.same rfl rfl,.same rfl rfl,.rn rfl rfl,.rn rfl rfl,.rn rfl rfl,.same rfl rfl,.rn rfl rfl,.same rfl rfl,.same rfl rfl,.same rfl rfl,.same rfl rfl,.same rfl rfl,.rn rfl rfl,trivial⟩ ⟨.same rfl rfl,.same rfl rfl,.same rfl mpO_closed,.same rfl mpO_closed,.rn rfl rfl rfl,trivial⟩ rfl) ?_
     rintro⟨seen,m,cur,nd,tot,lin,abs⟩
     show SW (XS J) 0 _ _ _ (mkS [(0,iv1 (vD D vs)),(1,iv1 (pwD pw)),(4,.w (.one (.ptr 0 0 0))),(5,.w (.one (.ptr 1 0 0))),(6,.w (.one (.mp 2))),(7,iv1 (di' i)),(9,.w (.one (.mp 3))),(31,iv1 (pwD pw)),(32,iv1 (di' pw.length)),(33,iv1 (di' i)),(38,iv1 (di' e)),(39,iv1 (di' j)),(43,.w (.one (.ptr 4 0 0)))]
      [(0,.mem 60 zQ false [(0,3)] 1),(1,.mem 60 ((qw q).cells ZZ) false [(0,3)] 1),(2,mpO (D^(j+(formsZ vs pw i).length)) l),(3,mpO (D^(j+(formsZ vs pw i).length+1)) m),(4,.iter 2 l.length seen l.length cur)] 5) _
     repeat ((refine SW.RS (by kernel_rfl) ?_;conv=>whnf))
     refine⟨2,l.length,seen,l.length,cur,mkE (D^(j+(formsZ vs pw i).length)) l 0,l.length,rfl,rfl,next_guard,fun hl=>?_,fun en hen=>?_⟩
     · conv=>whnf
       rw[leftE_mk] at hl
       have hl2:leftZ seen l 0=[]:=List.map_eq_nil_iff.1 hl
       repeat (first|((first|refine SW.R (by kernel_rfl) ?_|refine SW.exit ?_|refine And.intro rfl (exZ (w64 (by omega)) ?_));conv=>whnf)|(refine SW.seq ?_)|(refine SW.condF rfl ?_))
       have eD:j+(formsZ vs pw i).length+1=j+1+(formsZ vs pw i).length:=by omega
       exact⟨⟨j+1,m,by omega,nd,fun k hk=>by rw[tot k hk];simp;omega,fun φ=>by have:=lin φ;rw[hl2] at this;simpa[linL,List.replicate_succ] using this,by
        rw[hl2] at abs;simp only[absL,Nat.mul_zero,Nat.add_zero] at abs
        refine Nat.le_trans abs (Nat.le_of_eq ?_);congr 1⟩,
        To.tab [(2,3)] ⟨.same rfl rfl,.same rfl rfl,.rn rfl rfl,.rn rfl rfl,.rn rfl rfl,.same rfl rfl,.same rfl rfl,.same rfl rfl,.same rfl rfl,.same rfl rfl,.same rfl rfl,trivial⟩ ⟨.same rfl rfl,.same rfl rfl,.same (congrArg (fun n=>some (mpO (D^n) m)) eD) mpO_closed,trivial⟩ rfl,by dsimp only;omega⟩
     · rw[leftE_mk] at hen
       obtain⟨⟨k,z,b⟩,hb,rfl⟩:=List.mem_map.1 hen
       have hlb:l[b]?=some (k,z):=by have:=(leftZ_mem hb).2.2;simpa using this
       have hlv:(((vs.map fun r=>IV.sl (r.map fun z=>qr (mkRat z D))).length:Nat):Int)=(vs.length:Int):=by simp
       conv=>whnf
       repeat (first|((first|refine SW.RS (by kernel_rfl) ?_|refine SW.skip ?_|refine exR (entry_mk (e:=(k,z,b)) rfl rfl hlb) ?_|refine exZ hlv ?_|refine exO rfl ?_);conv=>whnf)|(refine SW.seq ?_)|(refine SW.block ?_)|(refine SW.condT rfl ?_))
       refine SW.loopT (G:=GD M (colZ vs i) (List.replicate j (colZ vs i)++formsZ vs pw i) l (b::seen) k z) (fun g=>mkS [(0,iv1 (vD D vs)),(1,iv1 (pwD pw)),(4,.w (.one (.ptr 0 0 0))),(5,.w (.one (.ptr 1 0 0))),(6,.w (.one (.mp 2))),(7,iv1 (di' i)),(9,.w (.one (.mp 3))),(10,.w (.one (.ptr 5 0 0))),(11,.w (.one (.ptr 6 0 0))),(31,iv1 (pwD pw)),(32,iv1 (di' pw.length)),(33,iv1 (di' i)),(38,iv1 (di' e)),(39,iv1 (di' j)),(43,.w (.one (.ptr 4 0 0))),(49,iv1 (vD D vs)),(50,iv1 (di' vs.length)),(51,iv1 (di' g.p))]
        [(0,.mem 60 zQ false [(0,3)] 1),(1,.mem 60 ((qw q).cells ZZ) false [(0,3)] 1),(2,mpO (D^(j+(formsZ vs pw i).length)) l),(3,mpO (D^(j+(formsZ vs pw i).length+1)) g.m),(4,.iter 2 l.length (b::seen) l.length (some b)),(5,.mem 338 ((keyW k).cells ZZ) false [(0,5)] 1),(6,.mem 60 ((mz (D^(j+(formsZ vs pw i).length)) z).cells ZZ) false [(0,3)] 1)] 7) (fun g=>vs.length-g.p) ⟨0,m,Nat.zero_le _,nd,tot,fun φ=>by
         have h1:=(leftZ_take hb).1 fun k=>formS φ k (colZ vs i) 0
         have h2:=lin φ
         rw[h1] at h2
         dsimp only at h2
         rw[List.drop_zero];omega,by
         have h1:=(leftZ_take hb).2.1
         have h2:=Nat.mul_le_mul_left z.natAbs (hcol i h)
         have h3:M*(z.natAbs+absL (leftZ (b::seen) l 0))=z.natAbs*M+M*absL (leftZ (b::seen) l 0):=by rw[Nat.mul_add,Nat.mul_comm M]
         rw[h1] at abs
         dsimp only at abs
         rw[h3] at abs
         rw[List.drop_zero];omega⟩
        (To.tab [] ⟨.same rfl rfl,.same rfl rfl,.rn rfl rfl,.rn rfl rfl,.rn rfl rfl,.same rfl rfl,.rn rfl rfl,.rn rfl rfl,.rn rfl rfl,.same rfl rfl,.same rfl rfl,.same rfl rfl,.same rfl rfl,.same rfl rfl,.rn rfl rfl,.same rfl rfl,.same rfl rfl,.same rfl rfl,trivial⟩ ⟨.same rfl rfl,.same rfl rfl,.same rfl mpO_closed,.same rfl mpO_closed,.rn rfl rfl rfl,.same rfl rfl,.same rfl rfl,trivial⟩ rfl) ?_
       rintro⟨p,m,hp,nd,tot,lin,abs⟩
       show SW (XS J) 0 _ _ _ (mkS [(0,iv1 (vD D vs)),(1,iv1 (pwD pw)),(4,.w (.one (.ptr 0 0 0))),(5,.w (.one (.ptr 1 0 0))),(6,.w (.one (.mp 2))),(7,iv1 (di' i)),(9,.w (.one (.mp 3))),(10,.w (.one (.ptr 5 0 0))),(11,.w (.one (.ptr 6 0 0))),(31,iv1 (pwD pw)),(32,iv1 (di' pw.length)),(33,iv1 (di' i)),(38,iv1 (di' e)),(39,iv1 (di' j)),(43,.w (.one (.ptr 4 0 0))),(49,iv1 (vD D vs)),(50,iv1 (di' vs.length)),(51,iv1 (di' p))]
        [(0,.mem 60 zQ false [(0,3)] 1),(1,.mem 60 ((qw q).cells ZZ) false [(0,3)] 1),(2,mpO (D^(j+(formsZ vs pw i).length)) l),(3,mpO (D^(j+(formsZ vs pw i).length+1)) m),(4,.iter 2 l.length (b::seen) l.length (some b)),(5,.mem 338 ((keyW k).cells ZZ) false [(0,5)] 1),(6,.mem 60 ((mz (D^(j+(formsZ vs pw i).length)) z).cells ZZ) false [(0,3)] 1)] 7) _
       have hcl:(colZ vs i).length=vs.length:=by simp[colZ]
       by_cases h3:p<vs.length
       · obtain⟨J0,hJ0⟩:∃J0,j+(formsZ vs pw i).length=J0:=⟨_,rfl⟩
         obtain⟨r,hr⟩:∃r,vs.getD p []=r:=⟨_,rfl⟩
         obtain⟨x,hx⟩:∃x,r.getD i 0=x:=⟨_,rfl⟩
         have hrm:r∈vs:=by rw[←hr,List.getD_eq_getElem?_getD,List.getElem?_eq_getElem h3];exact List.getElem_mem h3
         have hri:i<r.length:=by rw[hrow r hrm];exact h
         have hxc:(colZ vs i).getD p 0=x:=by
          rw[←hx,←hr,colZ,List.getD_eq_getElem?_getD,getm (fun r:List Int=>r.getD i 0) [] h3];rfl
         have hlen:(List.replicate j (colZ vs i)++formsZ vs pw i).length=J0:=by rw[←hJ0];simp
         have hJT:J0+1≤T:=by omega
         have hkl:(k,z)∈l:=List.mem_of_getElem? hlb
         have hkt:k.tot=J0:=by rw[←hlen];exact ok.tot k (List.mem_map_of_mem hkl)
         have hza:z.natAbs≤M^J0:=by rw[←hlen];exact Nat.le_trans (absZ_mem hkl) ok.abs
         have hxa:x.natAbs≤M:=by rw[←hxc];exact Nat.le_trans absI_getD (hcol i h)
         have hga:=getZ_abs (k.inc p) m
         rw[hlen] at tot abs
         have gv:(vs.map fun r=>IV.sl (r.map fun z=>qr (mkRat z D)))[p]?=some (.sl (r.map fun z=>qr (mkRat z D))):=by rw[←hr];exact getm (fun r:List Int=>IV.sl (r.map fun z=>qr (mkRat z D))) [] h3
         have gr:(r.map fun z=>qr (mkRat z D))[i]?=some (qr (mkRat x D)):=by rw[←hx];exact getm (fun z:Int=>qr (mkRat z D)) 0 hri
         rw[hJ0]
         have cm:Go.Proofs.Fl.C J 29 [qr (mkRat z (D^J0)),qr (mkRat x D)] (qr (mkRat (z*x) (D^(J0+1)))):=by
          rw[←mkR_mul]
          have q1:=qb hM hD hs (b:=J0) hza (by omega) (by omega)
          have q2:=qb hM hD hs (a:=1) (b:=1) (z:=x) (by rw[Nat.pow_one];exact hxa) (by omega) (by omega)
          rw[Nat.pow_one] at q2
          exact f49_ok (base J) (by omega) (by omega)
         have ca:Go.Proofs.Fl.C J 28 [qr (mkRat (getZ m (k.inc p)) (D^(J0+1))),qr (mkRat (z*x) (D^(J0+1)))] (qr (mkRat (getZ m (k.inc p)+z*x) (D^(J0+1)))):=by
          rw[←mkR_add (Nat.pow_pos hD)]
          have q1:=qb hM hD hs (b:=J0+1) (z:=getZ m (k.inc p)) (a:=J0+1) (by omega) (by omega) (by omega)
          have q2:=qb hM hD hs (a:=J0+1) (b:=J0+1) (z:=z*x) (by rw[Int.natAbs_mul,Nat.pow_succ];exact Nat.mul_le_mul hza hxa) (by omega) (by omega)
          exact f48_ok (base J) (by omega) (by omega)
         have okm:∀y∈keys m,okK y:=fun y hy=>by unfold okK;rw[tot y hy];omega
         have okk:okK (k.inc p):=by unfold okK;rw[K5.inc_tot];omega
         have hka:k.a<2^62∧k.b<2^62∧k.c<2^62∧k.d<2^62∧k.e<2^62:=by unfold K5.tot at hkt;omega
         have nd2:=nodup_set (k.inc p) (getZ m (k.inc p)+z*x) nd
         have tot2:∀y∈keys (setZ m (k.inc p) (getZ m (k.inc p)+z*x)),y.tot=(List.replicate j (colZ vs i)++formsZ vs pw i).length+1:=fun y hy=>by
          rw[hlen]
          rcases mem_set hy with hy|rfl
          · exact tot y hy
          · rw[K5.inc_tot,hkt]
         have edr:(colZ vs i).drop p=x::(colZ vs i).drop (p+1):=by rw[drop_getD (by omega),hxc]
         have lin2:∀ φ,Reg.lin φ (setZ m (k.inc p) (getZ m (k.inc p)+z*x))+z*formS φ k ((colZ vs i).drop (p+1)) (p+1)+linL (fun k=>formS φ k (colZ vs i) 0) (leftZ (b::seen) l 0)=expZ (colZ vs i::(List.replicate j (colZ vs i)++formsZ vs pw i)) φ:=fun φ=>by
          rw[←lin φ,lin_set,edr,formS,Int.mul_add,Int.mul_assoc];omega
         have abs2:absZ (setZ m (k.inc p) (getZ m (k.inc p)+z*x))+z.natAbs*absI ((colZ vs i).drop (p+1))+M*absL (leftZ (b::seen) l 0)≤M^((List.replicate j (colZ vs i)++formsZ vs pw i).length+1):=by
          have h1:=absZ_set (k.inc p) (z*x) m
          rw[edr,absI,Nat.mul_add] at abs
          rw[Int.natAbs_mul] at h1
          rw[hlen];omega
         have hp5:p=0∨p=1∨p=2∨p=3∨p=4:=by omega
         rcases hp5 with rfl|rfl|rfl|rfl|rfl
         · repeat (first|((first|refine SW.RS (by kernel_rfl) ?_|refine SW.R (by kernel_rfl) ?_|refine SW.skip ?_|refine exIx rfl gv rfl ?_|refine exIx rfl gr rfl ?_|refine exIp (j:=0) rfl (by omega) rfl ?_|refine Or.inl ⟨_,_,cm,rfl,rfl,rfl,?_⟩|refine Or.inl ⟨_,_,ca,rfl,rfl,rfl,?_⟩|refine exR (look340 (d:=D^(J0+1)) (l:=m) (k:=k.inc 0) hz60 rfl okm nd okk) ?_|refine exU (upd340 (d:=D^(J0+1)) (l:=m) (k:=k.inc 0) (getZ m (k.inc 0)+z*x) rfl okm nd okk) ?_|refine And.intro rfl (exZ (w64 (by omega)) ?_)|refine And.intro rfl (exB (b:=true) (decide_eq_true (by omega)) ?_)|refine exO rfl ?_|refine exC rfl ?_);conv=>whnf)|(refine SW.seq ?_)|(refine SW.block ?_)|(refine SW.condT rfl ?_))
           exact⟨⟨0+1,setZ m (k.inc 0) (getZ m (k.inc 0)+z*x),by omega,nd2,tot2,lin2,abs2⟩,To.tab [] ⟨.same rfl rfl,.same rfl rfl,.rn rfl rfl,.rn rfl rfl,.rn rfl rfl,.same rfl rfl,.rn rfl rfl,.rn rfl rfl,.rn rfl rfl,.same rfl rfl,.same rfl rfl,.same rfl rfl,.same rfl rfl,.same rfl rfl,.rn rfl rfl,.same rfl rfl,.same rfl rfl,.same rfl rfl,trivial⟩ ⟨.same rfl rfl,.same rfl rfl,.same rfl mpO_closed,.same rfl mpO_closed,.rn rfl rfl rfl,.same rfl rfl,.same rfl rfl,trivial⟩ rfl,by dsimp only;omega⟩
         · repeat (first|((first|refine SW.RS (by kernel_rfl) ?_|refine SW.R (by kernel_rfl) ?_|refine SW.skip ?_|refine exIx rfl gv rfl ?_|refine exIx rfl gr rfl ?_|refine exIp (j:=1) rfl (by omega) rfl ?_|refine Or.inl ⟨_,_,cm,rfl,rfl,rfl,?_⟩|refine Or.inl ⟨_,_,ca,rfl,rfl,rfl,?_⟩|refine exR (look340 (d:=D^(J0+1)) (l:=m) (k:=k.inc 1) hz60 rfl okm nd okk) ?_|refine exU (upd340 (d:=D^(J0+1)) (l:=m) (k:=k.inc 1) (getZ m (k.inc 1)+z*x) rfl okm nd okk) ?_|refine And.intro rfl (exZ (w64 (by omega)) ?_)|refine And.intro rfl (exB (b:=true) (decide_eq_true (by omega)) ?_)|refine exO rfl ?_|refine exC rfl ?_);conv=>whnf)|(refine SW.seq ?_)|(refine SW.block ?_)|(refine SW.condT rfl ?_))
           exact⟨⟨1+1,setZ m (k.inc 1) (getZ m (k.inc 1)+z*x),by omega,nd2,tot2,lin2,abs2⟩,To.tab [] ⟨.same rfl rfl,.same rfl rfl,.rn rfl rfl,.rn rfl rfl,.rn rfl rfl,.same rfl rfl,.rn rfl rfl,.rn rfl rfl,.rn rfl rfl,.same rfl rfl,.same rfl rfl,.same rfl rfl,.same rfl rfl,.same rfl rfl,.rn rfl rfl,.same rfl rfl,.same rfl rfl,.same rfl rfl,trivial⟩ ⟨.same rfl rfl,.same rfl rfl,.same rfl mpO_closed,.same rfl mpO_closed,.rn rfl rfl rfl,.same rfl rfl,.same rfl rfl,trivial⟩ rfl,by dsimp only;omega⟩
         · repeat (first|((first|refine SW.RS (by kernel_rfl) ?_|refine SW.R (by kernel_rfl) ?_|refine SW.skip ?_|refine exIx rfl gv rfl ?_|refine exIx rfl gr rfl ?_|refine exIp (j:=2) rfl (by omega) rfl ?_|refine Or.inl ⟨_,_,cm,rfl,rfl,rfl,?_⟩|refine Or.inl ⟨_,_,ca,rfl,rfl,rfl,?_⟩|refine exR (look340 (d:=D^(J0+1)) (l:=m) (k:=k.inc 2) hz60 rfl okm nd okk) ?_|refine exU (upd340 (d:=D^(J0+1)) (l:=m) (k:=k.inc 2) (getZ m (k.inc 2)+z*x) rfl okm nd okk) ?_|refine And.intro rfl (exZ (w64 (by omega)) ?_)|refine And.intro rfl (exB (b:=true) (decide_eq_true (by omega)) ?_)|refine exO rfl ?_|refine exC rfl ?_);conv=>whnf)|(refine SW.seq ?_)|(refine SW.block ?_)|(refine SW.condT rfl ?_))
           exact⟨⟨2+1,setZ m (k.inc 2) (getZ m (k.inc 2)+z*x),by omega,nd2,tot2,lin2,abs2⟩,To.tab [] ⟨.same rfl rfl,.same rfl rfl,.rn rfl rfl,.rn rfl rfl,.rn rfl rfl,.same rfl rfl,.rn rfl rfl,.rn rfl rfl,.rn rfl rfl,.same rfl rfl,.same rfl rfl,.same rfl rfl,.same rfl rfl,.same rfl rfl,.rn rfl rfl,.same rfl rfl,.same rfl rfl,.same rfl rfl,trivial⟩ ⟨.same rfl rfl,.same rfl rfl,.same rfl mpO_closed,.same rfl mpO_closed,.rn rfl rfl rfl,.same rfl rfl,.same rfl rfl,trivial⟩ rfl,by dsimp only;omega⟩
         · repeat (first|((first|refine SW.RS (by kernel_rfl) ?_|refine SW.R (by kernel_rfl) ?_|refine SW.skip ?_|refine exIx rfl gv rfl ?_|refine exIx rfl gr rfl ?_|refine exIp (j:=3) rfl (by omega) rfl ?_|refine Or.inl ⟨_,_,cm,rfl,rfl,rfl,?_⟩|refine Or.inl ⟨_,_,ca,rfl,rfl,rfl,?_⟩|refine exR (look340 (d:=D^(J0+1)) (l:=m) (k:=k.inc 3) hz60 rfl okm nd okk) ?_|refine exU (upd340 (d:=D^(J0+1)) (l:=m) (k:=k.inc 3) (getZ m (k.inc 3)+z*x) rfl okm nd okk) ?_|refine And.intro rfl (exZ (w64 (by omega)) ?_)|refine And.intro rfl (exB (b:=true) (decide_eq_true (by omega)) ?_)|refine exO rfl ?_|refine exC rfl ?_);conv=>whnf)|(refine SW.seq ?_)|(refine SW.block ?_)|(refine SW.condT rfl ?_))
           exact⟨⟨3+1,setZ m (k.inc 3) (getZ m (k.inc 3)+z*x),by omega,nd2,tot2,lin2,abs2⟩,To.tab [] ⟨.same rfl rfl,.same rfl rfl,.rn rfl rfl,.rn rfl rfl,.rn rfl rfl,.same rfl rfl,.rn rfl rfl,.rn rfl rfl,.rn rfl rfl,.same rfl rfl,.same rfl rfl,.same rfl rfl,.same rfl rfl,.same rfl rfl,.rn rfl rfl,.same rfl rfl,.same rfl rfl,.same rfl rfl,trivial⟩ ⟨.same rfl rfl,.same rfl rfl,.same rfl mpO_closed,.same rfl mpO_closed,.rn rfl rfl rfl,.same rfl rfl,.same rfl rfl,trivial⟩ rfl,by dsimp only;omega⟩
         · repeat (first|((first|refine SW.RS (by kernel_rfl) ?_|refine SW.R (by kernel_rfl) ?_|refine SW.skip ?_|refine exIx rfl gv rfl ?_|refine exIx rfl gr rfl ?_|refine exIp (j:=4) rfl (by omega) rfl ?_|refine Or.inl ⟨_,_,cm,rfl,rfl,rfl,?_⟩|refine Or.inl ⟨_,_,ca,rfl,rfl,rfl,?_⟩|refine exR (look340 (d:=D^(J0+1)) (l:=m) (k:=k.inc 4) hz60 rfl okm nd okk) ?_|refine exU (upd340 (d:=D^(J0+1)) (l:=m) (k:=k.inc 4) (getZ m (k.inc 4)+z*x) rfl okm nd okk) ?_|refine And.intro rfl (exZ (w64 (by omega)) ?_)|refine And.intro rfl (exB (b:=true) (decide_eq_true (by omega)) ?_)|refine exO rfl ?_|refine exC rfl ?_);conv=>whnf)|(refine SW.seq ?_)|(refine SW.block ?_)|(refine SW.condT rfl ?_))
           exact⟨⟨4+1,setZ m (k.inc 4) (getZ m (k.inc 4)+z*x),by omega,nd2,tot2,lin2,abs2⟩,To.tab [] ⟨.same rfl rfl,.same rfl rfl,.rn rfl rfl,.rn rfl rfl,.rn rfl rfl,.same rfl rfl,.rn rfl rfl,.rn rfl rfl,.rn rfl rfl,.same rfl rfl,.same rfl rfl,.same rfl rfl,.same rfl rfl,.same rfl rfl,.rn rfl rfl,.same rfl rfl,.same rfl rfl,.same rfl rfl,trivial⟩ ⟨.same rfl rfl,.same rfl rfl,.same rfl mpO_closed,.same rfl mpO_closed,.rn rfl rfl rfl,.same rfl rfl,.same rfl rfl,trivial⟩ rfl,by dsimp only;omega⟩
       · have ep:p=vs.length:=by omega
         subst ep
         have edr:(colZ vs i).drop vs.length=[]:=by rw[List.drop_eq_nil_iff,hcl];exact Nat.le_refl _
         repeat (first|((first|refine SW.RS (by kernel_rfl) ?_|refine SW.exit ?_|refine And.intro rfl (exB (b:=false) (decide_eq_false (by omega)) ?_));conv=>whnf)|(refine SW.seq ?_)|(refine SW.condF rfl ?_))
         exact⟨⟨b::seen,m,some b,nd,tot,fun φ=>by have:=lin φ;rw[edr,formS] at this;omega,by rw[edr,absI] at abs;omega⟩,To.tab [] ⟨.same rfl rfl,.same rfl rfl,.rn rfl rfl,.rn rfl rfl,.rn rfl rfl,.same rfl rfl,.rn rfl rfl,.same rfl rfl,.same rfl rfl,.same rfl rfl,.same rfl rfl,.same rfl rfl,.rn rfl rfl,trivial⟩ ⟨.same rfl rfl,.same rfl rfl,.same rfl mpO_closed,.same rfl mpO_closed,.rn rfl rfl rfl,trivial⟩ rfl,by have:=(leftZ_take hb).2.2;dsimp only at this ⊢;omega⟩
   · have e2:j=e:=by omega
     subst e2
     repeat (first|((first|refine SW.RS (by kernel_rfl) ?_|refine SW.R (by kernel_rfl) ?_|refine SW.exit ?_|refine And.intro rfl (exZ (w64 (by omega)) ?_)|refine And.intro rfl (exB (b:=false) (decide_eq_false (by omega)) ?_));conv=>whnf)|(refine SW.seq ?_)|(refine SW.condF rfl ?_))
     exact⟨⟨i+1,l,by omega,by rw[formsZ,he];exact ok⟩,To.tab [] ⟨.same rfl rfl,.same rfl rfl,.rn rfl rfl,.rn rfl rfl,.rn rfl rfl,.same rfl rfl,.same rfl rfl,.same rfl rfl,trivial⟩ ⟨.same rfl rfl,.same rfl rfl,.same (congrArg (fun n=>some (mpO (D^n) l)) hfe.symm) mpO_closed,trivial⟩ rfl,by dsimp only;omega⟩
 · have ei:i=pw.length:=by omega
   subst ei
   rw[hT]
   repeat (first|((first|refine SW.RS (by kernel_rfl) ?_|refine SW.exit ?_|refine And.intro rfl (exB (b:=false) (decide_eq_false (by omega)) ?_)|refine exRg rfl ?_);conv=>whnf)|(refine SW.seq ?_)|(refine SW.block ?_)|(refine SW.condF rfl ?_))
   refine SW.loopT (G:=GE M (formsZ vs pw pw.length) l) (fun g=>mkS [(0,iv1 (vD D vs)),(1,iv1 (pwD pw)),(4,.w (.one (.ptr 0 0 0))),(5,.w (.one (.ptr 1 0 0))),(15,.w (.one (.ptr 3 0 0))),(79,.w (.one (.ptr 4 0 0)))]
    [(0,.mem 60 zQ false [(0,3)] 1),(1,.mem 60 ((qw q).cells ZZ) false [(0,3)] 1),(2,mpO (D^T) l),(3,.mem 60 ((mz (D^T) g.s).cells ZZ) false [(0,3)] 1),(4,.iter 2 l.length g.seen l.length g.cur)] 5) (fun g=>(leftZ g.seen l 0).length) ⟨[],0,none,by rw[leftZ_nil,Int.zero_add];exact ok.lin _,⟨0,by rw[leftZ_nilA,Nat.zero_add];exact ok.abs,by simp⟩⟩
    (To.tab [] ⟨.same rfl rfl,.same rfl rfl,.rn rfl rfl,.rn rfl rfl,.rn rfl rfl,.rn rfl rfl,trivial⟩ ⟨.same rfl rfl,.same rfl rfl,.same rfl mpO_closed,.same (congrArg (fun y:EW=>some (EO.mem 60 (y.cells ZZ) false [(0,3)] 1)) mz0.symm) rfl,.rn rfl rfl rfl,trivial⟩ rfl) ?_
   rintro⟨seen,S,cur,lin,hab⟩
   show SW (XS J) 0 _ _ _ (mkS [(0,iv1 (vD D vs)),(1,iv1 (pwD pw)),(4,.w (.one (.ptr 0 0 0))),(5,.w (.one (.ptr 1 0 0))),(15,.w (.one (.ptr 3 0 0))),(79,.w (.one (.ptr 4 0 0)))]
    [(0,.mem 60 zQ false [(0,3)] 1),(1,.mem 60 ((qw q).cells ZZ) false [(0,3)] 1),(2,mpO (D^T) l),(3,.mem 60 ((mz (D^T) S).cells ZZ) false [(0,3)] 1),(4,.iter 2 l.length seen l.length cur)] 5) _
   obtain⟨a0,hab1,hab2⟩:=hab
   rw[hT] at hab1 hab2
   have hS:S.natAbs≤M^(T+1)*fct T^5:=Nat.le_trans hab2 (Nat.mul_le_mul_right _ (Nat.le_trans (by omega) (Nat.pow_le_pow_right hM (Nat.le_succ T))))
   have qS:=qbF hD hsF hS (b:=T) (by omega)
   repeat ((refine SW.RS (by kernel_rfl) ?_;conv=>whnf))
   refine⟨2,l.length,seen,l.length,cur,mkE (D^T) l 0,l.length,rfl,rfl,next_guard,fun hl=>?_,fun en hen=>?_⟩
   · rw[leftE_mk] at hl
     have hl2:leftZ seen l 0=[]:=List.map_eq_nil_iff.1 hl
     rw[hl2,linL,Int.add_zero] at lin
     rw[←lin]
     have cs1:=f49_ok (base J) (a:=mkRat S (D^T)) (b:=q) (by omega) (by omega)
     have cs2:Go.Proofs.Fl.C J 187 [pwD pw] (.int .i64 (T:Int)):=by
      have e1:=forms_sum (vs:=vs) (pw:=pw) pw.length (Nat.le_refl _)
      rw[List.take_of_length_le (by simp),hT] at e1
      have e2:=absI_nat pw
      have c:=r187_ok J (l:=pw.map fun n:Nat=>(n:Int)) (by rw[List.length_map];omega) (by omega)
      rw[e1,List.map_map] at c
      exact c
     have cs3:=r260_ok J (n:=pw.length+T) (by omega)
     have hqf:=qln_fct (m:=pw.length+T) (by omega) _ (Nat.le_refl _)
     have hqm:=qln_mul (mkRat S (D^T)) q
     have cs4:=r258_ok (base J) (a:=mkRat S (D^T)*q) (b:=((fct (pw.length+T):Nat):Rat)) (by omega) (by omega) (fun e=>by
      have:=fct_pos (pw.length+T)
      have e':((fct (pw.length+T):Nat):Rat)=((0:Nat):Rat):=e
      rw[Rat.natCast_inj] at e';omega)
     rw[Int.natCast_add] at cs3
     conv=>whnf
     repeat (first|((first|refine SW.RS (by kernel_rfl) ?_|refine SW.ret ?_|refine SW.exit ?_|refine Or.inl ⟨_,_,cs1,rfl,rfl,rfl,?_⟩|refine Or.inl ⟨_,_,cs2,rfl,rfl,rfl,?_⟩|refine Or.inl ⟨_,_,cs3,rfl,rfl,rfl,?_⟩|refine Or.inl ⟨_,_,cs4,rfl,rfl,rfl,?_⟩|refine exZ lp ?_|refine And.intro rfl (exZ (w64 (by omega)) ?_)|refine exO rfl ?_|refine exC rfl ?_);conv=>whnf)|(refine SW.seq ?_)|(refine SW.condF rfl ?_))
     rfl
   · rw[leftE_mk] at hen
     obtain⟨⟨k,z,b⟩,hb,rfl⟩:=List.mem_map.1 hen
     have hlb:l[b]?=some (k,z):=by have:=(leftZ_mem hb).2.2;simpa using this
     have hkl:(k,z)∈l:=List.mem_of_getElem? hlb
     have hkt:k.tot=T:=by rw[←hT];exact ok.tot k (List.mem_map_of_mem hkl)
     have hk4:k.a<2^32∧k.b<2^32∧k.c<2^32∧k.d<2^32∧k.e<2^32:=by unfold K5.tot at hkt;omega
     have hza:z.natAbs≤M^T:=by rw[←hT];exact Nat.le_trans (absZ_mem hkl) ok.abs
     have hzf:∀t,(z*(facs k t:Nat)).natAbs≤M^(T+1)*fct T^5:=fun t=>by
      rw[Int.natAbs_mul,Int.natAbs_natCast]
      exact Nat.mul_le_mul (Nat.le_trans hza (Nat.pow_le_pow_right hM (Nat.le_succ T))) (facs_le (Nat.le_of_eq hkt) t)
     conv=>whnf
     repeat (first|((first|refine SW.RS (by kernel_rfl) ?_|refine SW.skip ?_|refine exR (entry_mk (e:=(k,z,b)) rfl rfl hlb) ?_|refine exO rfl ?_|refine exC rfl ?_);conv=>whnf)|(refine SW.seq ?_)|(refine SW.block ?_)|(refine SW.condT rfl ?_))
     refine SW.loopT (G:={ t:Nat // t≤5 }) (fun t=>mkS [(0,iv1 (vD D vs)),(1,iv1 (pwD pw)),(4,.w (.one (.ptr 0 0 0))),(5,.w (.one (.ptr 1 0 0))),(15,.w (.one (.ptr 3 0 0))),(79,.w (.one (.ptr 4 0 0))),(17,.w (.one (.ptr 5 0 0))),(85,.w (keyW k)),(86,iv1 (di' t.1))]
      [(0,.mem 60 zQ false [(0,3)] 1),(1,.mem 60 ((qw q).cells ZZ) false [(0,3)] 1),(2,mpO (D^T) l),(3,.mem 60 ((mz (D^T) S).cells ZZ) false [(0,3)] 1),(4,.iter 2 l.length (b::seen) l.length (some b)),(5,.mem 60 ((mz (D^T) (z*(facs k t.1:Nat))).cells ZZ) false [(0,3)] 1)] 6) (fun t=>5-t.1) ⟨0,by omega⟩
      (To.tab [(5,6)] ⟨.same rfl rfl,.same rfl rfl,.rn rfl rfl,.rn rfl rfl,.rn rfl rfl,.rn rfl rfl,.rn rfl rfl,.same rfl rfl,.same rfl rfl,trivial⟩ ⟨.same rfl rfl,.same rfl rfl,.same rfl mpO_closed,.same rfl rfl,.rn rfl rfl rfl,.same (congrArg (fun y:Int=>some (EO.mem 60 ((mz (D^T) y).cells ZZ) false [(0,3)] 1)) (by simp[facs])) rfl,trivial⟩ rfl) ?_
     rintro⟨t,ht⟩
     show SW (XS J) 0 _ _ _ (mkS [(0,iv1 (vD D vs)),(1,iv1 (pwD pw)),(4,.w (.one (.ptr 0 0 0))),(5,.w (.one (.ptr 1 0 0))),(15,.w (.one (.ptr 3 0 0))),(79,.w (.one (.ptr 4 0 0))),(17,.w (.one (.ptr 5 0 0))),(85,.w (keyW k)),(86,iv1 (di' t))]
      [(0,.mem 60 zQ false [(0,3)] 1),(1,.mem 60 ((qw q).cells ZZ) false [(0,3)] 1),(2,mpO (D^T) l),(3,.mem 60 ((mz (D^T) S).cells ZZ) false [(0,3)] 1),(4,.iter 2 l.length (b::seen) l.length (some b)),(5,.mem 60 ((mz (D^T) (z*(facs k t:Nat))).cells ZZ) false [(0,3)] 1)] 6) _
     by_cases h5:t<5
     · have hkk:kth k t<2^32:=by unfold kth;split<;>omega
       have cf:=r260_ok J (n:=kth k t) hkk
       have qf:=qln_fct (m:=kth k t) hkk _ (Nat.le_refl _)
       have qz:=qbF hD hsF (hzf t) (b:=T) (by omega)
       have cm:=f49_ok (base J) (a:=mkRat (z*(facs k t:Nat)) (D^T)) (b:=((fct (kth k t):Nat):Rat)) (by omega) (by omega)
       rw[mkR_nat,Int.mul_assoc,←Int.natCast_mul,←facs_succ k h5] at cm
       have hp5:t=0∨t=1∨t=2∨t=3∨t=4:=by omega
       rcases hp5 with rfl|rfl|rfl|rfl|rfl
       · repeat (first|((first|refine SW.RS (by kernel_rfl) ?_|refine SW.R (by kernel_rfl) ?_|refine SW.skip ?_|refine Or.inl ⟨_,_,cf,rfl,rfl,rfl,?_⟩|refine Or.inl ⟨_,_,cm,rfl,rfl,rfl,?_⟩|refine And.intro rfl (exZ (w64 (by omega)) ?_)|refine And.intro rfl (exB (b:=true) (decide_eq_true (by omega)) ?_)|refine exO rfl ?_|refine exC rfl ?_|refine exIa rfl (by omega) rfl ?_);conv=>whnf)|(refine SW.seq ?_)|(refine SW.block ?_)|(refine SW.condT rfl ?_))
         exact⟨⟨0+1,by omega⟩,To.tab [] ⟨.same rfl rfl,.same rfl rfl,.rn rfl rfl,.rn rfl rfl,.rn rfl rfl,.rn rfl rfl,.rn rfl rfl,.same rfl rfl,.same rfl rfl,trivial⟩ ⟨.same rfl rfl,.same rfl rfl,.same rfl mpO_closed,.same rfl rfl,.rn rfl rfl rfl,.same rfl rfl,trivial⟩ rfl,by dsimp only;omega⟩
       · repeat (first|((first|refine SW.RS (by kernel_rfl) ?_|refine SW.R (by kernel_rfl) ?_|refine SW.skip ?_|refine Or.inl ⟨_,_,cf,rfl,rfl,rfl,?_⟩|refine Or.inl ⟨_,_,cm,rfl,rfl,rfl,?_⟩|refine And.intro rfl (exZ (w64 (by omega)) ?_)|refine And.intro rfl (exB (b:=true) (decide_eq_true (by omega)) ?_)|refine exO rfl ?_|refine exC rfl ?_|refine exIa rfl (by omega) rfl ?_);conv=>whnf)|(refine SW.seq ?_)|(refine SW.block ?_)|(refine SW.condT rfl ?_))
         exact⟨⟨1+1,by omega⟩,To.tab [] ⟨.same rfl rfl,.same rfl rfl,.rn rfl rfl,.rn rfl rfl,.rn rfl rfl,.rn rfl rfl,.rn rfl rfl,.same rfl rfl,.same rfl rfl,trivial⟩ ⟨.same rfl rfl,.same rfl rfl,.same rfl mpO_closed,.same rfl rfl,.rn rfl rfl rfl,.same rfl rfl,trivial⟩ rfl,by dsimp only;omega⟩
       · repeat (first|((first|refine SW.RS (by kernel_rfl) ?_|refine SW.R (by kernel_rfl) ?_|refine SW.skip ?_|refine Or.inl ⟨_,_,cf,rfl,rfl,rfl,?_⟩|refine Or.inl ⟨_,_,cm,rfl,rfl,rfl,?_⟩|refine And.intro rfl (exZ (w64 (by omega)) ?_)|refine And.intro rfl (exB (b:=true) (decide_eq_true (by omega)) ?_)|refine exO rfl ?_|refine exC rfl ?_|refine exIa rfl (by omega) rfl ?_);conv=>whnf)|(refine SW.seq ?_)|(refine SW.block ?_)|(refine SW.condT rfl ?_))
         exact⟨⟨2+1,by omega⟩,To.tab [] ⟨.same rfl rfl,.same rfl rfl,.rn rfl rfl,.rn rfl rfl,.rn rfl rfl,.rn rfl rfl,.rn rfl rfl,.same rfl rfl,.same rfl rfl,trivial⟩ ⟨.same rfl rfl,.same rfl rfl,.same rfl mpO_closed,.same rfl rfl,.rn rfl rfl rfl,.same rfl rfl,trivial⟩ rfl,by dsimp only;omega⟩
       · repeat (first|((first|refine SW.RS (by kernel_rfl) ?_|refine SW.R (by kernel_rfl) ?_|refine SW.skip ?_|refine Or.inl ⟨_,_,cf,rfl,rfl,rfl,?_⟩|refine Or.inl ⟨_,_,cm,rfl,rfl,rfl,?_⟩|refine And.intro rfl (exZ (w64 (by omega)) ?_)|refine And.intro rfl (exB (b:=true) (decide_eq_true (by omega)) ?_)|refine exO rfl ?_|refine exC rfl ?_|refine exIa rfl (by omega) rfl ?_);conv=>whnf)|(refine SW.seq ?_)|(refine SW.block ?_)|(refine SW.condT rfl ?_))
         exact⟨⟨3+1,by omega⟩,To.tab [] ⟨.same rfl rfl,.same rfl rfl,.rn rfl rfl,.rn rfl rfl,.rn rfl rfl,.rn rfl rfl,.rn rfl rfl,.same rfl rfl,.same rfl rfl,trivial⟩ ⟨.same rfl rfl,.same rfl rfl,.same rfl mpO_closed,.same rfl rfl,.rn rfl rfl rfl,.same rfl rfl,trivial⟩ rfl,by dsimp only;omega⟩
       · repeat (first|((first|refine SW.RS (by kernel_rfl) ?_|refine SW.R (by kernel_rfl) ?_|refine SW.skip ?_|refine Or.inl ⟨_,_,cf,rfl,rfl,rfl,?_⟩|refine Or.inl ⟨_,_,cm,rfl,rfl,rfl,?_⟩|refine And.intro rfl (exZ (w64 (by omega)) ?_)|refine And.intro rfl (exB (b:=true) (decide_eq_true (by omega)) ?_)|refine exO rfl ?_|refine exC rfl ?_|refine exIa rfl (by omega) rfl ?_);conv=>whnf)|(refine SW.seq ?_)|(refine SW.block ?_)|(refine SW.condT rfl ?_))
         exact⟨⟨4+1,by omega⟩,To.tab [] ⟨.same rfl rfl,.same rfl rfl,.rn rfl rfl,.rn rfl rfl,.rn rfl rfl,.rn rfl rfl,.rn rfl rfl,.same rfl rfl,.same rfl rfl,trivial⟩ ⟨.same rfl rfl,.same rfl rfl,.same rfl mpO_closed,.same rfl rfl,.rn rfl rfl rfl,.same rfl rfl,trivial⟩ rfl,by dsimp only;omega⟩
     · have e5:t=5:=by omega
       subst e5
       have qz:=qbF hD hsF (hzf 5) (b:=T) (by omega)
       have ca:=f48_ok (base J) (a:=mkRat S (D^T)) (b:=mkRat (z*(facs k 5:Nat)) (D^T)) (by omega) (by omega)
       rw[mkR_add (Nat.pow_pos hD)] at ca
       repeat (first|((first|refine SW.RS (by kernel_rfl) ?_|refine SW.R (by kernel_rfl) ?_|refine SW.exit ?_|refine Or.inl ⟨_,_,ca,rfl,rfl,rfl,?_⟩|refine And.intro rfl (exB (b:=false) (decide_eq_false (by omega)) ?_)|refine exO rfl ?_|refine exC rfl ?_);conv=>whnf)|(refine SW.seq ?_)|(refine SW.condF rfl ?_))
       exact⟨⟨b::seen,S+z*(facs k 5:Nat),some b,by
        have:=(leftZ_take hb).1 phiK
        rw[this] at lin;dsimp only at lin;unfold phiK at lin ⊢;omega,⟨a0+z.natAbs,by
        have:=(leftZ_take hb).2.1
        rw[hT];dsimp only at this;omega,by
        rw[hT,Nat.add_mul]
        have h1:=facs_le (Nat.le_of_eq hkt) 5
        have h2:=Nat.mul_le_mul_left z.natAbs h1
        have h3:(z*(facs k 5:Nat)).natAbs=z.natAbs*facs k 5:=by rw[Int.natAbs_mul,Int.natAbs_natCast]
        omega⟩⟩,To.tab [] ⟨.same rfl rfl,.same rfl rfl,.rn rfl rfl,.rn rfl rfl,.rn rfl rfl,.rn rfl rfl,trivial⟩ ⟨.same rfl rfl,.same rfl rfl,.same rfl mpO_closed,.same rfl rfl,.rn rfl rfl rfl,trivial⟩ rfl,by have:=(leftZ_take hb).2.2;dsimp only at this ⊢;omega⟩
set_option maxHeartbeats 400000000 in
set_option maxRecDepth 1000000 in
theorem volume2n(J:Keep){p00 p01 p10 p11 p20 p21 x0 x1 x2 x3:Rat}(b00:qln p00<2^20)(b01:qln p01<2^20)(b10:qln p10<2^20)(b11:qln p11<2^20)(b20:qln p20<2^20)(b21:qln p21<2^20)(h0:x0=p10-p00)(h1:x1=p11-p01)(h2:x2=p20-p00)(h3:x3=p21-p01)(z0_0:x0≠0):C J 259 [.sl [.sl [qr p00,qr p01],.sl [qr p10,qr p11],.sl [qr p20,qr p21]]] (qr (d2 x0 x1 x2 x3)):=by
 obtain⟨D,hD⟩:∃D,D=d2 x0 x1 x2 x3:=⟨_,rfl⟩
 rw[←hD]
 have S0:D=mkRat 1 1*d2 x0 x1 x2 x3:=by rw[show mkRat 1 1=1 by rfl,Rat.one_mul,hD]
 have q0:qln x0<4194304:=bSub b10 b00 h0 (Nat.le_of_ble_eq_true rfl)
 have q1:qln x1<4194304:=bSub b11 b01 h1 (Nat.le_of_ble_eq_true rfl)
 have q2:qln x2<4194304:=bSub b20 b00 h2 (Nat.le_of_ble_eq_true rfl)
 have q3:qln x3<4194304:=bSub b21 b01 h3 (Nat.le_of_ble_eq_true rfl)
 obtain⟨x4,h4⟩:∃x,x=mkRat 1 1*x0:=⟨_,rfl⟩
 have q4:qln x4<4194307:=bMul bOne q0 h4 (Nat.le_of_ble_eq_true rfl)
 obtain⟨x5,h5⟩:∃x,x=x2/x0:=⟨_,rfl⟩
 have q5:qln x5<8388608:=bDiv q2 q0 h5 (Nat.le_of_ble_eq_true rfl)
 obtain⟨x6,h6⟩:∃x,x=x5*x0:=⟨_,rfl⟩
 have q6:qln x6<12582912:=bMul q5 q0 h6 (Nat.le_of_ble_eq_true rfl)
 obtain⟨x7,h7⟩:∃x,x=x2-x6:=⟨_,rfl⟩
 have q7:qln x7<33554432:=bSub q2 q6 h7 (Nat.le_of_ble_eq_true rfl)
 obtain⟨x8,h8⟩:∃x,x=x5*x1:=⟨_,rfl⟩
 have q8:qln x8<12582912:=bMul q5 q1 h8 (Nat.le_of_ble_eq_true rfl)
 obtain⟨x9,h9⟩:∃x,x=x3-x8:=⟨_,rfl⟩
 have q9:qln x9<33554432:=bSub q3 q8 h9 (Nat.le_of_ble_eq_true rfl)
 have S1:=el2 S0 z0_0 h4 h5 (h9.trans (by rw[h8]))
 by_cases z1_1:x9=0
 rotate_left
 ·
  obtain⟨x10,h10⟩:∃x,x=x4*x9:=⟨_,rfl⟩
  have q10:qln x10<37748739:=bMul q4 q9 h10 (Nat.le_of_ble_eq_true rfl)
  have S2:=el1 S1 h10
  rw[S2]
  exact vol2 J (l:=[x0,x1,x2,x3,x4,x5,x6,x7,x8,x9,x10]) (Nat.lt_trans b00 (by decide)) (Nat.lt_trans b01 (by decide)) (Nat.lt_trans b10 (by decide)) (Nat.lt_trans b11 (by decide)) (Nat.lt_trans b20 (by decide)) (Nat.lt_trans b21 (by decide)) h0 h1 h2 h3 (T:=[⟨29,[(1,1),(0,0)],.inl (4,0)⟩,⟨258,[(2,0),(0,0)],.inl (5,0)⟩,⟨29,[(5,0),(0,0)],.inl (6,0)⟩,⟨30,[(2,0),(6,0)],.inl (7,0)⟩,⟨29,[(5,0),(1,0)],.inl (8,0)⟩,⟨30,[(3,0),(8,0)],.inl (9,0)⟩,⟨29,[(4,0),(9,0)],.inl (10,0)⟩]) (N:=[((0,0),true),((9,0),true)]) (AllF.ok ⟨fMul h4 (b38 bOne (Nat.le_of_ble_eq_true rfl)) (b38 q0 (Nat.le_of_ble_eq_true rfl)),fDiv h5 z0_0 (b38 q2 (Nat.le_of_ble_eq_true rfl)) (b38 q0 (Nat.le_of_ble_eq_true rfl)),fMul h6 (b38 q5 (Nat.le_of_ble_eq_true rfl)) (b38 q0 (Nat.le_of_ble_eq_true rfl)),fSub h7 (b38 q2 (Nat.le_of_ble_eq_true rfl)) (b38 q6 (Nat.le_of_ble_eq_true rfl)),fMul h8 (b38 q5 (Nat.le_of_ble_eq_true rfl)) (b38 q1 (Nat.le_of_ble_eq_true rfl)),fSub h9 (b38 q3 (Nat.le_of_ble_eq_true rfl)) (b38 q8 (Nat.le_of_ble_eq_true rfl)),fMul h10 (b38 q4 (Nat.le_of_ble_eq_true rfl)) (b38 q9 (Nat.le_of_ble_eq_true rfl)),trivial⟩) (AllN.ok ⟨nzT z0_0,nzT z1_1,trivial⟩) (v:=x10) (VolIs.of (c:=(10,0)) (by kernel_rfl) rfl)
 have Z:=S1
 rw[z1_1] at Z
 have Z0:=ze1 Z
 rw[Z0]
 exact vol2 J (l:=[x0,x1,x2,x3,x4,x5,x6,x7,x8,x9]) (Nat.lt_trans b00 (by decide)) (Nat.lt_trans b01 (by decide)) (Nat.lt_trans b10 (by decide)) (Nat.lt_trans b11 (by decide)) (Nat.lt_trans b20 (by decide)) (Nat.lt_trans b21 (by decide)) h0 h1 h2 h3 (T:=[⟨29,[(1,1),(0,0)],.inl (4,0)⟩,⟨258,[(2,0),(0,0)],.inl (5,0)⟩,⟨29,[(5,0),(0,0)],.inl (6,0)⟩,⟨30,[(2,0),(6,0)],.inl (7,0)⟩,⟨29,[(5,0),(1,0)],.inl (8,0)⟩,⟨30,[(3,0),(8,0)],.inl (9,0)⟩]) (N:=[((0,0),true),((9,0),false)]) (AllF.ok ⟨fMul h4 (b38 bOne (Nat.le_of_ble_eq_true rfl)) (b38 q0 (Nat.le_of_ble_eq_true rfl)),fDiv h5 z0_0 (b38 q2 (Nat.le_of_ble_eq_true rfl)) (b38 q0 (Nat.le_of_ble_eq_true rfl)),fMul h6 (b38 q5 (Nat.le_of_ble_eq_true rfl)) (b38 q0 (Nat.le_of_ble_eq_true rfl)),fSub h7 (b38 q2 (Nat.le_of_ble_eq_true rfl)) (b38 q6 (Nat.le_of_ble_eq_true rfl)),fMul h8 (b38 q5 (Nat.le_of_ble_eq_true rfl)) (b38 q1 (Nat.le_of_ble_eq_true rfl)),fSub h9 (b38 q3 (Nat.le_of_ble_eq_true rfl)) (b38 q8 (Nat.le_of_ble_eq_true rfl)),trivial⟩) (AllN.ok ⟨nzT z0_0,nzF z1_1,trivial⟩) (v:=0) (VolIs.of0 (by kernel_rfl))
theorem qz:qln (mkRat 0 1)<2^20:=by
 have:=qln_zero
 rw[show mkRat 0 1=0 by rfl];omega
theorem qo:qln (mkRat 1 1)<2^20:=by have:=bOne;omega
theorem triV(J:Keep):C J 259 [vD 1 [[0,0],[1,0],[0,1]]] (qr 1):=by
 have:=volume2n J (p00:=mkRat 0 1) (p01:=mkRat 0 1) (p10:=mkRat 1 1) (p11:=mkRat 0 1) (p20:=mkRat 0 1) (p21:=mkRat 1 1) (x0:=1) (x1:=0) (x2:=0) (x3:=1) qz qz qo qz qz qo (by kernel_rfl) (by kernel_rfl) (by kernel_rfl) (by kernel_rfl) (by decide)
 rw[show d2 1 0 0 1=1 by kernel_rfl] at this
 exact this
theorem tri190c(J:Keep):C J 190 [vD 1 [[0,0],[1,0],[0,1]],pwD [2,0]] (qr (mkRat 1 12)):=by
 have h:=r190_ok J (D:=1) (M:=1) (vs:=[[0,0],[1,0],[0,1]]) (pw:=[2,0]) (s:=1) (triV J) (by decide) (by have:=bOne;rw[show mkRat 1 1=1 by rfl] at this;omega) (by decide) (T:=2) rfl (by decide) (by decide) (by decide) ?_ ?_ ?_ (by decide)
 · rw[show(mkRat (expZ (formsZ [[0,0],[1,0],[0,1]] [2,0] [2,0].length) phiK) (1^2)*absR 1/((fct ([2,0].length+2):Nat):Rat))=mkRat 1 12 by kernel_rfl] at h
   exact h
 · have:ln (1^(2+1)*fct 2^5)≤4:=ln_lim (by decide)
   have h2:ln (1^(2+1))≤4:=ln_lim (by decide)
   omega
 · decide
 · decide
end Go.Proofs.En
namespace Go.Proofs.En
open Go.RowKit Go.Proofs.Fl Go.Proofs.Dig
attribute [local irreducible] IntKind.wrap PureC MutC MakC IterC SW SWr CallOk To
def tlC:Code→Code
 | .seq _ y=>y
 |c=>c
def hdC:Code→Code
 | .seq x _=>x
 |c=>c
theorem hidP_get:∀(l:List Nat) (h:PT EO),(hidP l h).get=hidS (fun g=>memN g l) h.get
 | [],h=>by funext x;rfl
 |g::l,h=>by
  have hm:∀x,memN x (g::l)=(bif Nat.beq x g then true else memN x l):=fun x=>rfl
  unfold hidP
  split
  · rename_i e cs fz vs cnt hg
    rw[hidP_get l]
    funext x
    unfold hidS
    dsimp only
    rw[PT.get_set,hm]
    by_cases e':x=g
    · subst e'
      rw[if_pos rfl,Nat.beq_refl,cond_true,hg]
      cases memN x l<;>rfl
    · rw[if_neg e',beq_f e',cond_false]
  · rename_i hn
    rw[hidP_get l]
    funext x
    unfold hidS
    dsimp only
    rw[hm]
    by_cases e':x=g
    · subst e'
      rw[Nat.beq_refl,cond_true]
      cases memN x l with
      |true=>rfl
      |false =>
       cases hx:h.get x with
       |none=>rfl
       |some o=>cases o<;>first|rfl|exact absurd hx (hn _ _ _ _ _)
    · rw[beq_f e',cond_false]
theorem hidS_out{S:Nat→Bool}{h:Hp}{g:Nat}(hs:S g=false):hidS S h g=h g:=by unfold hidS;rw[hs]
theorem hidS_none{S:Nat→Bool}{h:Hp}{g:Nat}(hn:hidS S h g=none):h g=none:=by
 unfold hidS at hn
 split at hn
 · split at hn
   · cases hn
   · exact hn
 · exact hn
theorem sameI_ok:∀{l m:List Int},sameI l m=true→l=m
 | [],[],_=>rfl
 |a::l,b::m,h=>by
  simp only[sameI,Bool.and_eq_true,decide_eq_true_eq] at h
  rw[h.1,sameI_ok h.2]
theorem sameLL_ok:∀{l m:List (List (Int×Nat))},sameLL l m=true→l=m
 | [],[],_=>rfl
 |a::l,b::m,h=>by
  simp only[sameLL,Bool.and_eq_true] at h
  rw[sameC_ok h.1,sameLL_ok h.2]
theorem zz3(n:Int)(d:Nat):∃a b c,ZZ.qv n d=.agg [a,b,c]:=⟨_,_,_,rfl⟩
theorem tri190_ok(J:Keep){args:List ES}{s s':Hs}{r:ES}(he:tri190 args s=some (r,s')):LogOk s s'∧CallOk (XE J) 190 args s.h.get r s'.h.get:=by
 unfold tri190 at he
 split at he
 · rename_i g u cap y
   split at he
   · rename_i e cs fz vs cnt pw p hg hp
     split at he
     · rename_i q ls hq hls
       cases hb:(Nat.beq e 42&&(Nat.ble 3 q&&(sameLL (ls.map Prod.fst) triC&&sameI pw [2,0]))) with
       |false=>rw[hb] at he;cases he
       |true =>
        rw[hb,cond_true] at he
        simp only[Option.some.injEq,Prod.mk.injEq] at he
        obtain⟨rfl,rfl⟩:=he
        simp only[Bool.and_eq_true] at hb
        obtain⟨b1,b2,b3,b4⟩:=hb
        have b1:=Nat.eq_of_beq_eq_true b1
        have b3:=sameLL_ok b3
        have b4:=sameI_ok b4
        subst b1;subst b4
        obtain⟨S,hS⟩:∃S,S=fun x=>memN x (g::p::ls.map Prod.snd):=⟨_,rfl⟩
        have hget:=hidP_get (g::p::ls.map Prod.snd) s.h
        rw[←hS] at hget
        have hmem:∀x,x∈g::p::ls.map Prod.snd→S x=true:=fun x hx=>by rw[hS];exact memN_iff.2 hx
        refine⟨⟨fun x hx=>?_,fun x hx=>List.mem_append_right _ hx,fun x hx=>?_⟩,?_⟩
        · show(hidP _ s.h).get x=_
          rw[hget]
          refine hidS_out ?_
          rw[hS]
          dsimp only
          cases hm:memN x (g::p::ls.map Prod.snd) with
          |false=>rfl
          |true=>exact absurd (List.mem_append_left _ (memN_iff.1 hm)) hx
        · have hx:(hidP _ s.h).get x=none:=hx
          rw[hget] at hx
          exact hidS_none hx
        · show CallOk (XE J) 190 _ s.h.get _ (hidP _ s.h).get
          rw[hget]
          refine CallOk.ofData (X:=XE J) (fu:=2) (tri190c J) ?_ fun H β v hv=>hv
          have r1:=rows_ok (Z:=ZZ) (h:=s.h.get) (S:=S) zz3 (T:=TT) (te:=ty60) rfl rfl rfl (f:=0) hls fun x hx=>hmem _ (by simp;exact .inr (.inr ⟨x.1,by simpa using hx⟩))
          have r2:=rowI_ok (Z:=ZZ) (h:=s.h.get) (S:=S) (T:=TT) (te:=ty3) rfl rfl rfl (f:=1) (g:=p) (l:=[2,0]) hp (hmem _ (by simp))
          have hl3:ls.length=3:=by
           have:=congrArg List.length b3
           rwa[List.length_map] at this
          have e1:datV TT ZZ S s.h.get 2 (.slc g u 0 3 cap)=some (vD 1 [[0,0],[1,0],[0,1]]):=by
           have t1:TT 42=some ty42:=rfl
           have t2:ty42.size=1:=rfl
           have t3:ty42.sh.agg=false:=rfl
           unfold datV
           simp only[hmem g (by simp),hg,hq,t1,t2,t3,Nat.zero_add,Nat.mul_one,b2,cond_true,List.drop_zero,r1.1]
           have e2:ls.map (fun p=>IV.sl (p.1.map fun c=>ZZ.qv c.1 c.2))=triC.map fun l=>IV.sl (l.map fun c=>ZZ.qv c.1 c.2):=by
            rw[←b3,List.map_map];rfl
           rw[e2];rfl
          have e1':datV (XE J).T (XE J).Z S s.h.get 2 (.slc g u 0 3 cap)=some (vD 1 [[0,0],[1,0],[0,1]]):=e1
          have r2':datV (XE J).T (XE J).Z S s.h.get 2 y=some (.sl ([2,0].map fun n=>.int .i64 n)):=r2
          simp only[allO,datE,datW,e1',r2']
          rfl
     · cases he
   · cases he
 · cases he
theorem orcW_ok{J:Keep}(L:LibI J):OrcOk (XE J) orcW:=by
 intro f args s r s' he
 unfold orcW at he
 cases hf:Nat.beq f 190 with
 |true =>
  rw[hf,cond_true] at he
  have:=Nat.eq_of_beq_eq_true hf;subst this
  exact tri190_ok J he
 |false =>
  rw[hf,cond_false] at he
  exact orcP_ok J L (X:=XE J) rfl rfl rfl f args s r s' he
end Go.Proofs.En
