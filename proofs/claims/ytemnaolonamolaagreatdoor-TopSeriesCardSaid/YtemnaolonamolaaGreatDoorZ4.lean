/-
  The card of TopSeries is proved: the law's function returns true at every argument of its shape; no condition.
-/
import Derived.Test.YtemnaolonamolaaGreatDoorZ3
import Derived.RecoverIn
import Derived.Test.YtemnaolonamolaaGreatDoorTie
import Derived.Test.YtemnaolonamolaaGreatDoorCards
import Derived.ChangeSame
import Derived.ChangeVars
import Derived.JoinedOf
import Derived.RowKit
import Derived.RowKitTokens
import Derived.LaidLaws
import Derived.LaidMore
import Derived.LaidSub
import Derived.Stop.Joined
import Derived.Lib.LaidTab
import Derived.Lib.LaidU8
import Derived.Lib.SmallJoins
import Derived.Carry
import Derived.SevenTiedAt
namespace Go.Proofs.Fl
open Go.RowKit
section
variable {X : Cx} {nt : Nat} {σ : AS} {K : Exit → AS → Prop} {c : Code}
theorem CW.reveal {g : Nat} {v0 : Option Value} {cs es : List IV} {j : Nat} {e : TypeId} {sz : Nat} (hb : σ.bx g = some (.bld (.row v0 cs j e sz es))) (h : ∀ v, CW X nt c ⟨σ.tm, upd σ.bx g (some (.bld (.row (some v) cs j e sz es))), σ.nx⟩ K) : CW X nt c σ K :=
  fun ro E Q hI hQ M H β a w hS => by
    obtain ⟨v, S⟩ := hS.sim.reveal hb
    exact h v ro E Q hI hQ M H β a w ⟨S, hS.defers, hS.size⟩
theorem CW.opened {g : Nat} {cs : List IV} {j : Nat} (e : TypeId) (sz : Nat) (hb : σ.bx g = some (.var (.agg cs))) (hj : cs[j]? = some (.nil 3)) (h : CW X nt c ⟨σ.tm, upd σ.bx g (some (.bld (.row none cs j e sz []))), σ.nx⟩ K) : CW X nt c σ K :=
  fun ro E Q hI hQ M H β a w hS => h ro E Q hI hQ M H β a w ⟨hS.sim.opened hb hj e sz, hS.defers, hS.size⟩
theorem CW.shutRow {g : Nat} {v0 : Option Value} {cs es : List IV} {j : Nat} {e : TypeId} {sz : Nat} (x : IV) (hb : σ.bx g = some (.bld (.row v0 cs j e sz es))) (hone : ∀ g' s', σ.bx g' = some (.bld s') → g' = g) (hx : x = .agg (cs.set j (.sl es)) ∨ (cs.length = 1 ∧ j = 0 ∧ x = .sl es)) (h : CW X nt c ⟨σ.tm, upd σ.bx g (some (.var x)), σ.nx⟩ K) : CW X nt c σ K :=
  fun ro E Q hI hQ M H β a w hS => by
    obtain ⟨H', _, S⟩ := hS.sim.shutRow hb hone hx
    exact h ro E Q hI hQ M H' β a w ⟨S, hS.defers, hS.size⟩
theorem CW.newOwn (e : TypeId) (sz : Nat) {id : Nat} {o : Oper} {d : Nat} {t : TypeId} (hd : d < nt) (hdst : o.dst = some d) (hg : o.guard = none) (hop : o.op = .alloc t) {i : TypeInfo} (hinfo : X.P.info? t = some i) (hz : i.zero = some (.slice none 0 0))
    (hb : σ.bx σ.nx = none) (h : K .normal ⟨upd σ.tm d (.ptr σ.nx 0), upd σ.bx σ.nx (some (.bld (.row none [.sl []] 0 e sz []))), σ.nx + 1⟩) : CW X nt (.region id #[o] false) σ K := by
  intro ro E Q hI hQ M H β a w hS
  refine wpIn_region_list ?_
  show wpListIn (FW ro.1) 0 X.P #[o] Q [o] a w
  unfold wpListIn
  simp only [Region.wanted, hg, if_true]
  refine op_in (fun c hc => by rw [hop] at hc; cases hc) ?_
  have hno : ∀ (w' : World) (R : Nat), w'.heap[w.heap.size]? = some (.cells #[.slice none 0 0] t (0, 0)) → ¬ RowAt (.row none [.sl []] 0 e sz []) w' w.heap.size R := fun w' R hw ⟨arr, n, cap, T, fr, e1, e2⟩ => by
    rw [hw] at e1
    simp only [Option.some.injEq, Obj.cells.injEq] at e1
    obtain ⟨rfl, _, _⟩ := e1
    simp [Ow.j] at e2
  have hS1 := hS.sim.newBlock hb (b := .bld (.row none [.sl []] 0 e sz [])) (cap := 0) (arr := #[.slice none 0 0]) (e := t) (fun w' hw hn hlo => ⟨hlo, hn, ⟨[.slice none 0 0], .slice none 0 0, t, hw, .cons _ _ _ _ (.sl0 none 0) .nil, by simp [Value.oneCell'], by simp, fun v1 e => (by cases e), .inl ⟨rfl, rfl⟩⟩, fun R hR => absurd hR (hno w' R hw)⟩) (fun s R w' es hw hR => by
      cases es
      exact hno w' R hw hR)
  have hT := St.put (H := H) (a := a) ⟨hS1, hS.defers, hS.size⟩ (dst := o.dst) (fun d' hd' => by rw [hdst] at hd'; cases hd'; exact hd) (r := .ptr σ.nx 0) (v := .pointer (some ⟨w.heap.size, 0, none⟩)) ⟨by rw [upd_same]; simp, by rw [upd_same]⟩
  have hrun : (execOp a.eval o).run X.P w = .ok (.value (.pointer (some ⟨w.heap.size, 0, none⟩))) (w.alloc (.cells #[.slice none 0 0] t)) := by
    simp only [execOp, hop, Instr.alloc, Sem.run_bind, run_zeroV hinfo hz, Result.andThen_ok, newVar, newRow, run_newObj, Sem.run_pure]; rfl
  unfold Oper.wp
  rw [hrun]
  show wpListIn (FW ro.1) 0 X.P #[o] Q [] (a.put o.dst _) _
  unfold wpListIn
  rw [hdst] at hT ⊢
  exact hQ .normal _ M H _ _ _ h hT
theorem CW.app (n : Nat) {id : Nat} {all : Array Oper} {o st : Oper} {s x p : Operand} {t t2 e : TypeId} {d : Nat} {ty te ty2 : TY} (hsp : all.toList.drop n = [o, st]) (hd : dstsOk nt all.toList = true)
    (hgo : o.guard = none) (hgs : st.guard = none) (hop : o.op = .call { callee := .builtin .append, args := #[s, x], argTypes := #[t, t] }) (hod : o.dst = some d) (hst : st.op = .store t2 p (.tmp d)) (hsd : st.dst = none) (hpd : p ≠ .tmp d)
    (ht : X.T t = some ty) (hsh : ty.sh = .slice e) (hte : X.T e = some te) (ht2 : X.T t2 = some ty2) (hs2 : ty2.size = 1) (hp : Nat.blt 0 te.size = true) (hzs : te.zero.cells.length = te.size)
    {g : Nat} {v : Value} {cs es : List IV} {j : Nat}
    (h : opsP X.T X.C all (all.toList.take n) σ.nx σ.tm σ.bx [] fun tm bx _ => evS tm p = .ptr g j ∧ AppQ g v cs j e te es s x tm bx fun n bx => K .normal ⟨upd tm d (.slN n), bx, σ.nx + all.size⟩) : CW X nt (.region id all false) σ K := by
  intro ro E Q hI hQ M H β a w hS
  refine wpIn_region_list ?_
  have hsplit : all.toList = all.toList.take n ++ [o, st] := by rw [← hsp, List.take_append_drop]
  have hd1 : dstsOk nt (all.toList.take n) = true := by
    unfold dstsOk at hd ⊢
    rw [List.all_eq_true] at hd ⊢
    exact fun x hx => hd x (List.mem_of_mem_take hx)
  have hdo : d < nt := dstsOk_spec hd (o := o) (by rw [hsplit]; simp) d hod
  rw [hsplit]
  refine list_on (E := E.mks M) X.hT X.ok hI (fun H1 β1 tm bx log a1 w1 hk hS1 => ?_) hd1 hS h
  exact app_end hS1 hgo hgs hop hod hdo hst hsd hpd ht hsh hte ht2 hs2 (by simpa [Nat.blt_eq] using hp) hzs hk.1 (K := fun tm bx => K .normal ⟨tm, bx, σ.nx + all.size⟩) hk.2 (fun H β tm bx a w hk hS => hQ .normal _ M H β a w hk hS)
def waits (tab : List Nat) (m n : Nat) : Bool := (List.range n).all fun k => Nat.blt k m || (List.range k).all fun j => (tab.getD k 0).testBit j
theorem waits_spec {tab : List Nat} {m n : Nat} (h : waits tab m n = true) : ∀ k j, m ≤ k → k < n → j < k → (tab.getD k 0).testBit j = true := fun k j hm hk hj => by
  have h1 := List.all_eq_true.1 h k (List.mem_range.2 hk)
  simp only [Bool.or_eq_true, Nat.blt_eq] at h1
  exact List.all_eq_true.1 (h1.resolve_left (by omega)) j (List.mem_range.2 hj)
theorem CW.appF (n : Nat) {id : Nat} {all : Array Oper} {o fa st : Oper} {s x p : Operand} {t t2 t3 e : TypeId} {d d3 jf fo fsz : Nat} {ag : Bool} {ty te ty2 ty3 : TY} (hsp : all.toList.drop n = [o, fa, st]) (hd : dstsOk nt all.toList = true) (hfl : flowOk all (ancs all.toList) = true) (hw : waits (ancs all.toList) n all.size = true)
    (hgo : o.guard = none) (hgf : fa.guard = none) (hgs : st.guard = none) (hop : o.op = .call { callee := .builtin .append, args := #[s, x], argTypes := #[t, t] }) (hod : o.dst = some d) (hfa : fa.op = .fieldAddr t3 p jf) (hfd : fa.dst = some d3) (hst : st.op = .store t2 (.tmp d3) (.tmp d)) (hsd : st.dst = none) (hpd : p ≠ .tmp d) (hdd : d ≠ d3)
    (ht : X.T t = some ty) (hsh : ty.sh = .slice e) (hte : X.T e = some te) (ht2 : X.T t2 = some ty2) (hs2 : ty2.size = 1) (hp : Nat.blt 0 te.size = true) (hzs : te.zero.cells.length = te.size) (ht3 : X.T t3 = some ty3) (hsh3 : ty3.sh = .struct) (hf3 : ty3.fields[jf]? = some (fo, ag, fsz)) (hfsz : Nat.blt 0 fsz = true)
    {g off : Nat} {v : Value} {cs es : List IV}
    (h : opsP X.T X.C all (all.toList.take n) σ.nx σ.tm σ.bx [] fun tm bx log => noConf (ancs all.toList) log.reverse = true ∧ evS tm p = .ptr g off ∧ AppQ g v cs (off + fo) e te es s x tm bx fun n bx => K .normal ⟨upd (upd tm d (.slN n)) d3 (.ptr g (off + fo)), bx, σ.nx + all.size⟩) : CW X nt (.region id all true) σ K := by
  intro ro E Q hI hQ M H β a w hS
  have hsplit : all.toList = all.toList.take n ++ [o, fa, st] := by rw [← hsp, List.take_append_drop]
  have hfl' := flow_of hfl
  have hn : n ≤ all.size := by
    rcases Nat.lt_or_ge all.size n with h1 | h1
    · rw [List.drop_of_length_le (by simpa using Nat.le_of_lt h1)] at hsp; cases hsp
    · exact h1
  have hlt : (all.toList.take n).length = n := by simp; omega
  have hd1 : dstsOk nt (all.toList.take n) = true := by
    unfold dstsOk at hd ⊢
    rw [List.all_eq_true] at hd ⊢
    exact fun x hx => hd x (List.mem_of_mem_take hx)
  have hdo : d < nt := dstsOk_spec hd (o := o) (by rw [hsplit]; simp) d hod
  have hdf : d3 < nt := dstsOk_spec hd (o := fa) (by rw [hsplit]; simp) d3 hfd
  obtain ⟨recs, e1, e2, e3, e4⟩ := opsP_facts h
  rw [hlt] at e1
  let D : Nat → Option Nat := fun i => (all[i]?).bind (·.dst)
  have hD : ∀ i o, all[i]? = some o → D i = o.dst := fun i o ho => by simp [D, ho]
  have htk : ∀ {i : Nat} {o : Oper}, (all.toList.take n)[i]? = some o → i < n ∧ all[i]? = some o := fun {i o} ho => by
    rw [List.getElem?_take] at ho
    split at ho
    · rename_i hin; exact ⟨hin, by simpa using ho⟩
    · cases ho
  have hu : ∀ (i j : Nat) (o o' : Oper) (d : Nat), (all.toList.take n)[i]? = some o → (all.toList.take n)[j]? = some o' → o.dst = some d → o'.dst = some d → i = j := fun i j o o' d h1 h2 => hfl'.uniq i j o o' d (htk h1).2 (htk h2).2
  have zf := zip_fold (D := D) (os := all.toList.take n) (by rw [hlt]; exact e1) (fun i o ho => hD i o (htk ho).2) hu σ.tm σ.bx
  rw [hlt] at zf
  have hall := zf n (Nat.le_refl _)
  have htk2 : ((all.toList.take n).zip recs).take n = (all.toList.take n).zip recs := List.take_of_length_le (by simp only [List.length_zip, hlt]; exact Nat.min_le_left _ _)
  rw [htk2] at hall
  rw [hall.1, hall.2] at e4
  have t1 : (fun t => tmF D (fun i => recs.getD i default) (fun j => decide (j < n)) t (List.range n) (σ.tm t)) = (fun t => tmF D (fun i => recs.getD i default) (fun _ => true) t (List.range n) (σ.tm t)) :=
    funext fun t => tmF_agree fun i hi _ => by simpa using List.mem_range.1 hi
  have t2 : (fun id => bxF (fun i => recs.getD i default) (fun j => decide (j < n)) id (List.range n) (σ.bx id)) = (fun id => bxF (fun i => recs.getD i default) (fun _ => true) id (List.range n) (σ.bx id)) :=
    funext fun id => bxF_agree fun i hi hne => absurd (by simpa using List.mem_range.1 hi) hne
  rw [t1, t2] at e4
  refine wpIn_region_any X.hm (any_go_to (E := E.mks M) X.hT X.ok hI hd hfl' (g := σ.nx) (tm := σ.tm) (bx := σ.bx) n hn hD (fun i => recs.getD i default) (fun i o hin ho => ?_) (fun i j hi hj => ?_) (waits_spec hw) (fun H β a w hS => ?_) all.size _ (fun _ => false) H β a _ (fun j hj => ?_) (fun j hj => (by cases hj)) ?_ ?_ (Sim.drawn ?_))
  · have hr : recs[i]? = some (recs.getD i default) := by
      have : i < recs.length := by omega
      simp [this]
    have := e2 i o _ (by rw [List.getElem?_take, if_pos hin]; simpa using ho) hr
    rw [(zf i (by omega)).1, (zf i (by omega)).2] at this
    exact this
  · simp only [List.append_nil, List.reverse_reverse] at e3
    have hi' : recs[i]? = some (recs.getD i default) := by
      have : i < recs.length := by omega
      simp [this]
    have hj' : recs[j]? = some (recs.getD j default) := by
      have : j < recs.length := by omega
      simp [this]
    have := confFrom_spec e3 i _ hi' j _ hj'
    rwa [Nat.zero_add] at this
  · rw [hsp]
    exact app_endF hS hgo hgf hgs hop hod hdo hfa hfd hdf hst hsd hpd hdd ht hsh hte ht2 hs2 (by simpa [Nat.blt_eq] using hp) hzs ht3 hsh3 hf3 (by simpa [Nat.blt_eq] using hfsz) e4.1 (K := fun tm bx => K .normal ⟨tm, bx, σ.nx + all.size⟩) e4.2 (fun H β tm bx a w hk hS => hQ .normal _ M H β a w hk hS)
  · simp [hj]
  · refine Nat.le_trans (List.length_filter_le _ _) (by simp)
  · intro j o _ h; cases h
  · have z1 : ∀ (t : Nat) (l : List Nat) (x : SV), tmF D (fun i => recs.getD i default) (fun _ => false) t l x = x := by
      intro t l
      induction l with
      | nil => intro x; rfl
      | cons i l ih => intro x; rw [tmF, if_neg (by simp)]; exact ih x
    have z2 : ∀ (t : Nat) (l : List Nat) (x : Option Bx), bxF (fun i => recs.getD i default) (fun _ => false) t l x = x := by
      intro t l
      induction l with
      | nil => intro x; rfl
      | cons i l ih => intro x; rw [bxF, if_neg (by simp)]; exact ih x
    simp only [z1, z2]
    exact hS
theorem CW.nilEq (n : Nat) {id : Nat} {all : Array Oper} {o : Oper} {op : BinOp} {t t' e : TypeId} {ty : TY} {x : Operand} {d : Nat} (hsp : all.toList.drop n = [o]) (hd : dstsOk nt all.toList = true) (hgo : o.guard = none) (hop : o.op = .binOp op t x (.const (.slice none 0 0)) t') (hod : o.dst = some d) (ho2 : op = .eql) (ht : X.T t = some ty) (hsh : ty.sh = .slice e)
    (h : opsP X.T X.C all (all.toList.take n) σ.nx σ.tm σ.bx [] fun tm bx _ => ∃ es, evS tm x = .iv (.sl es) ∧ ∀ c : Bool, (es ≠ [] → c = false) → K .normal ⟨upd tm d (.iv (.bool c)), bx, σ.nx + all.size⟩) : CW X nt (.region id all false) σ K := by
  intro ro E Q hI hQ M H β a w hS
  refine wpIn_region_list ?_
  have hsplit : all.toList = all.toList.take n ++ [o] := by rw [← hsp, List.take_append_drop]
  have hd1 : dstsOk nt (all.toList.take n) = true := by
    unfold dstsOk at hd ⊢
    rw [List.all_eq_true] at hd ⊢
    exact fun x hx => hd x (List.mem_of_mem_take hx)
  have hdo : d < nt := dstsOk_spec hd (o := o) (by rw [hsplit]; simp) d hod
  rw [hsplit]
  refine list_on (E := E.mks M) X.hT X.ok hI (fun H1 β1 tm bx log a1 w1 hk hS1 => ?_) hd1 hS h
  obtain ⟨es, hx, hk⟩ := hk
  have hv := ev_ok hS1.sim rfl x
  rw [hx] at hv
  obtain ⟨i, dd, z, ok⟩ := tyOf_ok (X.hT t ty ht)
  have hd' := ok.sh
  rw [hsh] at hd'
  obtain rfl := shOf_slice hd'
  have key : ∃ c : Bool, (es ≠ [] → c = false) ∧ (execOp a1.eval o).run X.P w1 = .ok (.value (.bool c)) w1 := by
    subst ho2
    have hrun : ∀ (ad : Option Addr) (n cap : Nat), a1.eval x = .slice ad n cap → (execOp a1.eval o).run X.P w1 = .ok (.value (.bool ad.isNone)) w1 := fun ad n cap hxe => by
      have h2 : (binOp .eql t (.slice ad n cap) (.slice none 0 0)).run X.P w1 = .ok (.bool ad.isNone) w1 := by
        have he : ∀ d, (Op.equalIn (d + 1) t (.slice ad n cap) (.slice none 0 0)).run X.P w1 = .ok ad.isNone w1 := fun d => by
          cases ad <;> simp [Op.equalIn, run_underlying ok.und]
        have he2 : (Op.equal t (.slice ad n cap) (.slice none 0 0)).run X.P w1 = .ok ad.isNone w1 := he 9999
        simp only [binOp]
        simp [he2]
      have h4 : (eqGuard .eql t x (.const (.slice none 0 0)) (.slice ad n cap) (.slice none 0 0)).run X.P w1 = .ok () w1 := rfl
      have h3 : a1.eval (.const (.slice none 0 0)) = .slice none 0 0 := rfl
      simp only [execOp, hop, hxe, h3, h4, Sem.run_bind, Sem.run_pure, Result.andThen_ok, h2]
    rcases VR.asSl hv with ⟨rfl, ad, cap, hxe⟩ | ⟨b, off, cap, sz, arr, vs, hxe, _⟩
    · exact ⟨ad.isNone, fun h => absurd rfl h, hrun _ _ _ hxe⟩
    · exact ⟨false, fun _ => rfl, hrun _ _ _ hxe⟩
  obtain ⟨c, hc, hrun⟩ := key
  unfold wpListIn
  simp only [Region.wanted, hgo, if_true]
  refine op_in (fun c hc => by rw [hop] at hc; cases hc) ?_
  refine wp_val hrun ?_
  unfold wpListIn
  have T : St (E.mks M) nt H1 β1 (upd tm d (.iv (.bool c))) bx (a1.put o.dst (.bool c)) w1 := by
    have := St.put (dst := o.dst) (r := .iv (.bool c)) (v := .bool c) hS1 (fun d' hd' => by rw [hod] at hd'; cases hd'; exact hdo) (.bool c)
    rw [hod] at this ⊢
    exact this
  exact hQ .normal _ M H1 β1 _ _ (hk c hc) T
end
section
variable {J : Keep} {nt : Nat} {σ : AS} {K : Exit → AS → Prop} {c : Code}
theorem W.reveal {g : Nat} {v0 : Option Value} {cs es : List IV} {j : Nat} {e : TypeId} {sz : Nat} (hb : σ.bx g = some (.bld (.row v0 cs j e sz es))) (h : ∀ v, W J nt c ⟨σ.tm, upd σ.bx g (some (.bld (.row (some v) cs j e sz es))), σ.nx⟩ K) : W J nt c σ K := by
  unfold W at h ⊢
  exact CW.reveal (X := cx J) hb h
theorem W.opened {g : Nat} {cs : List IV} {j : Nat} (e : TypeId) (sz : Nat) (hb : σ.bx g = some (.var (.agg cs))) (hj : cs[j]? = some (.nil 3)) (h : W J nt c ⟨σ.tm, upd σ.bx g (some (.bld (.row none cs j e sz []))), σ.nx⟩ K) : W J nt c σ K := by
  unfold W at h ⊢
  exact CW.opened (X := cx J) e sz hb hj h
theorem W.shutRow {g : Nat} {v0 : Option Value} {cs es : List IV} {j : Nat} {e : TypeId} {sz : Nat} (x : IV) (hb : σ.bx g = some (.bld (.row v0 cs j e sz es))) (hone : ∀ g' s', σ.bx g' = some (.bld s') → g' = g) (hx : x = .agg (cs.set j (.sl es)) ∨ (cs.length = 1 ∧ j = 0 ∧ x = .sl es)) (h : W J nt c ⟨σ.tm, upd σ.bx g (some (.var x)), σ.nx⟩ K) : W J nt c σ K := by
  unfold W at h ⊢
  exact CW.shutRow (X := cx J) x hb hone hx h
theorem W.newOwn (e : TypeId) (sz : Nat) {id : Nat} {o : Oper} {d : Nat} {t : TypeId} (hd : Nat.blt d nt = true) (hdst : o.dst = some d) (hg : o.guard = none) (hop : o.op = .alloc t) {i : TypeInfo} (hinfo : Tryz.prog.info? t = some i) (hz : i.zero = some (.slice none 0 0))
    (hb : σ.bx σ.nx = none) (h : K .normal ⟨upd σ.tm d (.ptr σ.nx 0), upd σ.bx σ.nx (some (.bld (.row none [.sl []] 0 e sz []))), σ.nx + 1⟩) : W J nt (.region id #[o] false) σ K := by
  unfold W
  exact CW.newOwn (X := cx J) e sz (by simpa [Nat.blt_eq] using hd) hdst hg hop hinfo hz hb h
theorem W.app (n : Nat) {id : Nat} {all : Array Oper} {o st : Oper} {s x p : Operand} {t t2 e : TypeId} {d : Nat} {ty te ty2 : TY} (hsp : all.toList.drop n = [o, st]) (hd : dstsOk nt all.toList = true)
    (hgo : o.guard = none) (hgs : st.guard = none) (hop : o.op = .call { callee := .builtin .append, args := #[s, x], argTypes := #[t, t] }) (hod : o.dst = some d) (hst : st.op = .store t2 p (.tmp d)) (hsd : st.dst = none) (hpd : p ≠ .tmp d)
    (ht : TT t = some ty) (hsh : ty.sh = .slice e) (hte : TT e = some te) (ht2 : TT t2 = some ty2) (hs2 : ty2.size = 1) (hp : Nat.blt 0 te.size = true) (hzs : te.zero.cells.length = te.size)
    {g : Nat} {v : Value} {cs es : List IV} {j : Nat}
    (h : opsP TT (cx J).C all (all.toList.take n) σ.nx σ.tm σ.bx [] fun tm bx _ => evS tm p = .ptr g j ∧ AppQ g v cs j e te es s x tm bx fun n bx => K .normal ⟨upd tm d (.slN n), bx, σ.nx + all.size⟩) : W J nt (.region id all false) σ K := by
  unfold W
  exact CW.app (X := cx J) n hsp hd hgo hgs hop hod hst hsd hpd ht hsh hte ht2 hs2 hp hzs h
theorem W.appF (n : Nat) {id : Nat} {all : Array Oper} {o fa st : Oper} {s x p : Operand} {t t2 t3 e : TypeId} {d d3 jf fo fsz : Nat} {ag : Bool} {ty te ty2 ty3 : TY} (hsp : all.toList.drop n = [o, fa, st]) (hd : dstsOk nt all.toList = true) (hfl : flowOk all (ancs all.toList) = true) (hw : waits (ancs all.toList) n all.size = true)
    (hgo : o.guard = none) (hgf : fa.guard = none) (hgs : st.guard = none) (hop : o.op = .call { callee := .builtin .append, args := #[s, x], argTypes := #[t, t] }) (hod : o.dst = some d) (hfa : fa.op = .fieldAddr t3 p jf) (hfd : fa.dst = some d3) (hst : st.op = .store t2 (.tmp d3) (.tmp d)) (hsd : st.dst = none) (hpd : p ≠ .tmp d) (hdd : d ≠ d3)
    (ht : TT t = some ty) (hsh : ty.sh = .slice e) (hte : TT e = some te) (ht2 : TT t2 = some ty2) (hs2 : ty2.size = 1) (hp : Nat.blt 0 te.size = true) (hzs : te.zero.cells.length = te.size) (ht3 : TT t3 = some ty3) (hsh3 : ty3.sh = .struct) (hf3 : ty3.fields[jf]? = some (fo, ag, fsz)) (hfsz : Nat.blt 0 fsz = true)
    {g off : Nat} {v : Value} {cs es : List IV}
    (h : opsP TT (cx J).C all (all.toList.take n) σ.nx σ.tm σ.bx [] fun tm bx log => noConf (ancs all.toList) log.reverse = true ∧ evS tm p = .ptr g off ∧ AppQ g v cs (off + fo) e te es s x tm bx fun n bx => K .normal ⟨upd (upd tm d (.slN n)) d3 (.ptr g (off + fo)), bx, σ.nx + all.size⟩) : W J nt (.region id all true) σ K := by
  unfold W
  exact CW.appF (X := cx J) n hsp hd hfl hw hgo hgf hgs hop hod hfa hfd hst hsd hpd hdd ht hsh hte ht2 hs2 hp hzs ht3 hsh3 hf3 hfsz h
theorem W.nilEq (n : Nat) {id : Nat} {all : Array Oper} {o : Oper} {op : BinOp} {t t' e : TypeId} {ty : TY} {x : Operand} {d : Nat} (hsp : all.toList.drop n = [o]) (hd : dstsOk nt all.toList = true) (hgo : o.guard = none) (hop : o.op = .binOp op t x (.const (.slice none 0 0)) t') (hod : o.dst = some d) (ho2 : op = .eql) (ht : TT t = some ty) (hsh : ty.sh = .slice e)
    (h : opsP TT (cx J).C all (all.toList.take n) σ.nx σ.tm σ.bx [] fun tm bx _ => ∃ es, evS tm x = .iv (.sl es) ∧ ∀ c : Bool, (es ≠ [] → c = false) → K .normal ⟨upd tm d (.iv (.bool c)), bx, σ.nx + all.size⟩) : W J nt (.region id all false) σ K := by
  unfold W
  exact CW.nilEq (X := cx J) n hsp hd hgo hop hod ho2 ht hsh h
end
end Go.Proofs.Fl
namespace Go.Proofs.Fl
open Go.RowKit Go.Proofs.Dig
attribute [local irreducible] IntKind.wrap PureC MutC MakC IterC
noncomputable abbrev pq (p : List Rat) : IV := .sl (p.map qr)
theorem all3 {p : List Rat} : ∀ y ∈ p.map qr, y.cells.length = 3 ∧ y.isTup = false := by
  intro y hy
  obtain ⟨q, _, rfl⟩ := List.mem_map.1 hy
  exact ⟨rfl, rfl⟩
def trimL : List Rat → List Rat
  | [] => []
  | x :: l => match trimL l with
    | [] => if x = 0 then [] else [x]
    | y :: t => x :: y :: t
theorem trimL_zero : ∀ {p : List Rat}, (∀ i, p.getD i 0 = 0) → trimL p = []
  | [], _ => rfl
  | x :: l, h => by
    have h0 := h 0
    have h1 := trimL_zero (p := l) (fun i => by simpa using h (i + 1))
    simp at h0
    simp [trimL, h1, h0]
theorem trimL_take : ∀ {p : List Rat} {n : Nat}, n ≤ p.length → (∀ i, n ≤ i → p.getD i 0 = 0) → (n = 0 ∨ p.getD (n - 1) 0 ≠ 0) → trimL p = p.take n
  | [], n, _, _, _ => by simp [trimL]
  | x :: l, 0, _, hz, _ => by
    rw [List.take_zero]
    exact trimL_zero fun i => hz i (Nat.zero_le _)
  | x :: l, n + 1, hn, hz, h => by
    have h1 : (x :: l).getD n 0 ≠ 0 := by simpa using h
    have ih := trimL_take (p := l) (n := n) (by simpa using hn) (fun i hi => by simpa using hz (i + 1) (by omega)) (by
      cases n with
      | zero => exact .inl rfl
      | succ m => right; simpa using h1)
    rw [List.take_succ_cons, trimL, ih]
    cases n with
    | zero =>
      simp at h1
      simp [h1]
    | succ m =>
      cases l with
      | nil => simp at hn
      | cons y t => simp
theorem trimL_len (p : List Rat) : (trimL p).length ≤ p.length := by
  induction p with
  | nil => simp [trimL]
  | cons x l ih =>
    unfold trimL
    split
    · split <;> simp
    · rename_i y t e
      rw [e] at ih
      simp at ih ⊢; omega
def consT (c : Rat) (v : List Rat) : List Rat :=
  match v with
  | [] => if c = 0 then [] else [c]
  | y :: t => c :: y :: t
theorem trimL_cons (c : Rat) (v : List Rat) : trimL (c :: v) = consT c (trimL v) := by
  unfold consT
  rw [trimL]
theorem trimL_trimL (p : List Rat) : trimL (trimL p) = trimL p := by
  induction p with
  | nil => rfl
  | cons x l ih =>
    rw [trimL]
    split
    · rename_i e
      split
      · rfl
      · rename_i hx
        rw [trimL]
        simp [trimL, hx]
    · rename_i y t e
      rw [e] at ih
      rw [trimL, ih]
theorem cmp_ne {q : Rat} (h : q ≠ 0) : cmpI q.num 0 ≠ 0 := by
  have : q.num ≠ 0 := fun e => h (Rat.num_eq_zero.1 e)
  unfold cmpI
  split
  · omega
  · split <;> omega
theorem cmp_z : cmpI (0 : Rat).num 0 = 0 := rfl
theorem t46_ok (J : Keep) {es : List IV} (hz : ∀ y ∈ es, y.cells.length = 3 ∧ y.isTup = false) (hl : es.length < 2 ^ 36) : C J 46 [.sl es] (.sl es) := by
  refine fn_ok Tryz.func46 rfl rfl rfl ?_
  iterate 1 ((refine W.RS (by kernel_rfl) ?_; conv => whnf))
  refine W.S ?_
  refine W.S ?_
  refine W.nilEq 1 rfl rfl rfl rfl rfl rfl rfl rfl ?_
  conv => whnf
  refine ⟨es, rfl, fun c hc => ?_⟩
  cases c with
  | true =>
    have he : es = [] := Classical.byContradiction fun h => by have := hc h; cases this
    subst he
    repeat (first | (refine W.RS (by kernel_rfl) ?_; conv => whnf) | (refine W.ret ?_; conv => whnf) | (refine W.condT rfl ?_))
    rfl
  | false =>
    repeat (first | (refine W.RS (by kernel_rfl) ?_; conv => whnf) | (refine W.ret ?_; conv => whnf) | (refine W.skip ?_; conv => whnf) | (refine W.condF rfl ?_) | (refine ⟨List.not_mem_nil, rfl, rfl, rfl, hz, by show (0 + es.length) * 56 ≤ (140737488355328 : Nat); omega, by unfold maxLen; show 0 + es.length ≤ _; omega, ?_⟩; conv => whnf))
    show IV.sl (List.take (0 + es.length) ([] ++ es)) = _
    simp
theorem t25_ok (J : Keep) {p : List Rat} (hl : p.length < 2 ^ 36) : C J 25 [pq p] (pq (trimL p)) := by
  refine fn_ok Tryz.func25 rfl rfl rfl ?_
  have lm : (p.map qr).length = p.length := by simp
  repeat (first | (refine W.RS (by kernel_rfl) ?_; conv => whnf) | (refine W.S ?_) | (refine W.block ?_) | (refine ⟨_, rfl, ?_⟩; conv => whnf))
  refine W.loop (G := { n : Nat // n ≤ p.length ∧ ∀ i, n ≤ i → p.getD i 0 = 0 }) (fun n => mkA [(0, .iv (pq p)), (3, .iv (.int .i64 (n.1 : Nat)))] [] 10) (fun n => n.1) ⟨p.length, Nat.le_refl _, fun i hi => by simp [List.getD_eq_getElem?_getD, List.getElem?_eq_none hi]⟩
    (Wk.tab [] ⟨⟨rfl, rfl⟩, ⟨ivEq (by rw [lm]), rfl⟩, trivial⟩ trivial rfl) ?_
  rintro ⟨n, hn, hz⟩
  show W J _ _ (mkA [(0, .iv (pq p)), (3, .iv (.int .i64 (n : Nat)))] [] 10) _
  by_cases h0 : n = 0
  · subst h0
    have e := trimL_take (n := 0) hn hz (.inl rfl)
    have c1 : C J 46 [.sl (((p.map qr).take 0).drop 0)] (pq (trimL p)) := by
      rw [e]; exact t46_ok J (by simp) (by simp)
    repeat (first | (refine W.RS (by kernel_rfl) ?_; conv => whnf) | (refine W.S ?_) | (refine W.ret ?_; conv => whnf) | (refine W.exit ?_; conv => whnf) | (refine W.condF rfl ?_) | (refine ⟨_, c1, ?_⟩; conv => whnf) | (refine ⟨false, decide_eq_false (by omega), ?_⟩; conv => whnf) | (refine ⟨_, rfl, ?_⟩; conv => whnf) | (refine ⟨rfl, ?_⟩; conv => whnf) | (refine ⟨by omega, by omega, by omega, .inr (by simp), .inl rfl, ?_⟩; conv => whnf) | (refine ⟨_, fun h => absurd h Bool.false_ne_true, fun _ => rfl, ?_⟩; conv => whnf))
    rfl
  · obtain ⟨x, hx⟩ : ∃ x, p.getD (n - 1) 0 = x := ⟨_, rfl⟩
    have hg := getq (f := qr) (l := p) (k := n - 1) (by omega)
    rw [hx] at hg
    have c0 := f22_ok J x
    by_cases hx0 : x = 0
    · subst hx0
      rw [cmp_z] at c0
      repeat (first | (refine W.RS (by kernel_rfl) ?_; conv => whnf) | (refine W.R (by kernel_rfl) ?_; conv => whnf) | (refine W.S ?_) | (refine W.block ?_) | (refine W.skip ?_; conv => whnf) | (refine W.condT rfl ?_) | (refine ⟨_, c0, ?_⟩; conv => whnf) | (refine ⟨n - 1, _, by omega, hg, rfl, ?_⟩; conv => whnf) | (refine ⟨rfl, _, w64 (by omega), ?_⟩; conv => whnf) | (refine ⟨true, decide_eq_true (by omega), ?_⟩; conv => whnf) | (refine ⟨rfl, ?_⟩; conv => whnf) | (refine ⟨_, fun _ => rfl, fun h => absurd h.symm Bool.false_ne_true, ?_⟩; conv => whnf))
      exact ⟨⟨n - 1, by omega, fun i hi => by
        by_cases e : i = n - 1
        · rw [e]; exact hx
        · exact hz i (by omega)⟩, Wk.tab [] ⟨⟨rfl, rfl⟩, ⟨ivEq (by dsimp only; omega), rfl⟩, trivial⟩ trivial rfl, by dsimp only; omega⟩
    · obtain ⟨c, hc⟩ : ∃ c, cmpI x.num 0 = c := ⟨_, rfl⟩
      have hc0 := cmp_ne hx0
      rw [hc] at c0 hc0
      have e := trimL_take hn hz (.inr (by rw [hx]; exact hx0))
      have c1 : C J 46 [.sl (((p.map qr).take n).drop 0)] (pq (trimL p)) := by
        rw [e, List.drop_zero, ← List.map_take]
        exact t46_ok J all3 (by simp; omega)
      repeat (first | (refine W.RS (by kernel_rfl) ?_; conv => whnf) | (refine W.S ?_) | (refine W.ret ?_; conv => whnf) | (refine W.exit ?_; conv => whnf) | (refine W.condF rfl ?_) | (refine ⟨_, c0, ?_⟩; conv => whnf) | (refine ⟨_, c1, ?_⟩; conv => whnf) | (refine ⟨n - 1, _, by omega, hg, rfl, ?_⟩; conv => whnf) | (refine ⟨rfl, _, w64 (by omega), ?_⟩; conv => whnf) | (refine ⟨true, decide_eq_true (by omega), ?_⟩; conv => whnf) | (refine ⟨false, decide_eq_false (by omega), ?_⟩; conv => whnf) | (refine ⟨_, rfl, ?_⟩; conv => whnf) | (refine ⟨rfl, ?_⟩; conv => whnf) | (refine ⟨by omega, by omega, by omega, .inr (by simp), .inl rfl, ?_⟩; conv => whnf) | (refine ⟨_, fun _ => rfl, fun h => absurd h.symm Bool.false_ne_true, ?_⟩; conv => whnf))
      rfl
end Go.Proofs.Fl
namespace Go.Proofs.Fl
open Go.RowKit Go.Proofs.Dig
attribute [local irreducible] IntKind.wrap PureC MutC MakC IterC
theorem t49_ok (J : Keep) {p : List Rat} (hl : p.length < 2 ^ 36) : C J 49 [pq p] (.int .i64 (((trimL p).length : Int) - 1)) := by
  refine fn_ok Tryz.func49 rfl rfl rfl ?_
  have c1 := t25_ok J hl
  have l1 := trimL_len p
  have lm : ((trimL p).map qr).length = (trimL p).length := by simp
  repeat (first | (refine W.RS (by kernel_rfl) ?_; conv => whnf) | (refine W.ret ?_; conv => whnf) | (refine ⟨_, c1, ?_⟩; conv => whnf) | (refine ⟨rfl, _, w64 (by omega), ?_⟩; conv => whnf) | (refine ⟨_, rfl, ?_⟩; conv => whnf))
  show IV.int .i64 (((List.map qr (trimL p)).length : Int) - 1) = _
  rw [lm]
theorem getD_out {p : List Rat} {i : Nat} (h : p.length ≤ i) : p.getD i 0 = 0 := by
  simp [List.getD_eq_getElem?_getD, List.getElem?_eq_none h]
theorem t117_ok (J : Keep) (p : List Rat) (i : Nat) : C J 117 [pq p, .int .i64 (i : Nat)] (qr (p.getD i 0)) := by
  refine fn_ok Tryz.func117 rfl rfl rfl ?_
  have lm : (p.map qr).length = p.length := by simp
  by_cases h : i < p.length
  · have hg := getq (f := qr) h
    repeat (first | (refine W.RS (by kernel_rfl) ?_; conv => whnf) | (refine W.S ?_) | (refine W.ret ?_; conv => whnf) | (refine W.condT rfl ?_) | (refine ⟨i, _, rfl, hg, rfl, ?_⟩; conv => whnf) | (refine ⟨true, decide_eq_true (by omega), ?_⟩; conv => whnf) | (refine ⟨_, rfl, ?_⟩; conv => whnf) | (refine ⟨rfl, ?_⟩; conv => whnf))
    rfl
  · rw [getD_out (by omega), dg_zero_qr]
    repeat (first | (refine W.RS (by kernel_rfl) ?_; conv => whnf) | (refine W.S ?_) | (refine W.ret ?_; conv => whnf) | (refine W.skip ?_; conv => whnf) | (refine W.condF rfl ?_) | (refine ⟨false, decide_eq_false (by omega), ?_⟩; conv => whnf) | (refine ⟨_, rfl, ?_⟩; conv => whnf) | (refine ⟨rfl, ?_⟩; conv => whnf))
    rfl
theorem t80_ok (J : Keep) (a : Rat) : C J 80 [qr a] (pq (trimL [a])) := by
  refine fn_ok Tryz.func80 rfl rfl rfl ?_
  have c1 := t25_ok J (p := [a]) (by simp)
  repeat (first | (refine W.RS (by kernel_rfl) ?_; conv => whnf) | (refine W.ret ?_; conv => whnf) | (refine ⟨_, c1, ?_⟩; conv => whnf))
  rfl
theorem t52_ok (J : Keep) (a : Rat) : C J 52 [qr a] (pq [a, 1]) := by
  refine fn_ok Tryz.func52 rfl rfl rfl ?_
  have c1 := f61_ok J (n := 1) (by decide) (by decide)
  repeat (first | (refine W.RS (by kernel_rfl) ?_; conv => whnf) | (refine W.ret ?_; conv => whnf) | (refine ⟨_, c1, ?_⟩; conv => whnf) | (refine ⟨rfl, ?_⟩; conv => whnf))
  rfl
theorem t54_ok {J : Keep} (B : Base J) {a b : Rat} (ha : qln a < 2 ^ 38) (hb : qln b < 2 ^ 38) (hb0 : b ≠ 0) : C J 54 [qr a, qr b] (qr (a / b)) := by
  refine fn_ok Tryz.func54 rfl rfl rfl ?_
  have c1 := f52_ok B ha hb hb0
  repeat (first | (refine W.RS (by kernel_rfl) ?_; conv => whnf) | (refine W.ret ?_; conv => whnf) | (refine ⟨_, c1, ?_⟩; conv => whnf))
  rfl
theorem t34_ok {J : Keep} (B : Base J) {a b : Rat} (ha : qln a < 2 ^ 38) (hb : qln b < 2 ^ 38) (hb0 : b ≠ 0) : C J 34 [qr a, qr b] (qr (a / b)) := by
  refine fn_ok Tryz.func34 rfl rfl rfl ?_
  have c1 := f52_ok B ha hb hb0
  repeat (first | (refine W.RS (by kernel_rfl) ?_; conv => whnf) | (refine W.ret ?_; conv => whnf) | (refine ⟨_, c1, ?_⟩; conv => whnf))
  rfl
theorem t31_ok (J : Keep) : C J 31 [] (qr 1) := by
  refine fn_ok Tryz.func31 rfl rfl rfl ?_
  have c1 := f61_ok J (n := 1) (by decide) (by decide)
  repeat (first | (refine W.RS (by kernel_rfl) ?_; conv => whnf) | (refine W.ret ?_; conv => whnf) | (refine ⟨_, c1, ?_⟩; conv => whnf))
  rfl
theorem qln_i64 {z : Int} (h1 : -9223372036854775808 ≤ z) (h2 : z ≤ 9223372036854775807) : qln (z : Rat) ≤ 4 := by
  rw [qln_int]
  have : ln z.natAbs ≤ 3 := ln_le (by show z.natAbs < 1000000000 ^ 3; omega)
  omega
theorem t32_ok {J : Keep} (B : Base J) {n d : Int} (h1 : -9223372036854775808 ≤ n) (h2 : n ≤ 9223372036854775807) (h3 : -9223372036854775808 ≤ d) (h4 : d ≤ 9223372036854775807) (hd : d ≠ 0) : C J 32 [.int .i64 n, .int .i64 d] (qr ((n : Rat) / (d : Rat))) := by
  refine fn_ok Tryz.func32 rfl rfl rfl ?_
  have c1 := f61_ok J h1 h2
  have c2 := f61_ok J h3 h4
  have q1 := qln_i64 h1 h2
  have q2 := qln_i64 h3 h4
  have c3 := t34_ok B (a := n) (b := d) (by omega) (by omega) (by simpa using hd)
  repeat (first | (refine W.RS (by kernel_rfl) ?_; conv => whnf) | (refine W.ret ?_; conv => whnf) | (refine ⟨_, c1, ?_⟩; conv => whnf) | (refine ⟨_, c2, ?_⟩; conv => whnf) | (refine ⟨_, c3, ?_⟩; conv => whnf))
  rfl
def fallQ (z : Int) : Nat → Rat
  | 0 => 1
  | i + 1 => fallQ z i * ((z - (i : Int) : Int) : Rat)
theorem qln_one : qln 1 ≤ 2 := by
  have := qln_int 1
  have h1 : qln (1 : Rat) = ln 1 + 1 := this
  rw [h1, ln_one]; omega
theorem qln_fall {z : Int} (h1 : -4611686018427387904 ≤ z) (h2 : z ≤ 4611686018427387904) : ∀ {i : Nat}, i ≤ 4096 → qln (fallQ z i) ≤ 4 * i + 2
  | 0, _ => qln_one
  | i + 1, hi => by
    have h := qln_fall h1 h2 (i := i) (by omega)
    have h3 := qln_mul (fallQ z i) ((z - (i : Int) : Int) : Rat)
    have h4 := qln_i64 (z := z - (i : Int)) (by omega) (by omega)
    show qln (fallQ z i * ((z - (i : Int) : Int) : Rat)) ≤ _
    omega
theorem t55_ok {J : Keep} (B : Base J) {z : Int} (h1 : -4611686018427387904 ≤ z) (h2 : z ≤ 4611686018427387904) {i : Nat} (hi : i ≤ 4096) : C J 55 [.int .i64 z, .int .i64 (i : Nat)] (qr (fallQ z i)) := by
  refine fn_ok Tryz.func55 rfl rfl rfl ?_
  have c1 := f61_ok J (n := 1) (by decide) (by decide)
  repeat (first | (refine W.RS (by kernel_rfl) ?_; conv => whnf) | (refine W.S ?_) | (refine W.block ?_) | (refine ⟨_, c1, ?_⟩; conv => whnf))
  refine W.loop (G := { k : Nat // k ≤ i }) (fun k => mkA [(0, .iv (.int .i64 z)), (4, .ptr 0 0), (5, .ptr 2 0), (8, .iv (.int .i64 (i : Nat))), (9, .iv (.int .i64 (k.1 : Nat)))] [(0, .var (.agg [.sl [], .bool false, .sl []])), (2, .var (qr (fallQ z k.1)))] 40) (fun k => i - k.1) ⟨0, Nat.zero_le _⟩
    (Wk.tab [] ⟨⟨rfl, rfl⟩, ⟨rfl, rfl⟩, ⟨rfl, rfl⟩, ⟨rfl, rfl⟩, ⟨rfl, rfl⟩, trivial⟩ ⟨rfl, rfl, trivial⟩ rfl) ?_
  rintro ⟨k, hk⟩
  show W J _ _ (mkA [(0, .iv (.int .i64 z)), (4, .ptr 0 0), (5, .ptr 2 0), (8, .iv (.int .i64 (i : Nat))), (9, .iv (.int .i64 (k : Nat)))] [(0, .var (.agg [.sl [], .bool false, .sl []])), (2, .var (qr (fallQ z k)))] 40) _
  by_cases h : k < i
  · have q1 := qln_fall h1 h2 (i := k) (by omega)
    have q2 := qln_i64 (z := z - (k : Int)) (by omega) (by omega)
    have c2 := f61_ok J (n := z - (k : Int)) (by omega) (by omega)
    have c3 := f49_ok B (a := fallQ z k) (b := ((z - (k : Int) : Int) : Rat)) (by omega) (by omega)
    repeat (first | (refine W.RS (by kernel_rfl) ?_; conv => whnf) | (refine W.R (by kernel_rfl) ?_; conv => whnf) | (refine W.S ?_) | (refine W.block ?_) | (refine W.skip ?_; conv => whnf) | (refine W.condT rfl ?_) | (refine ⟨_, c2, ?_⟩; conv => whnf) | (refine ⟨_, c3, ?_⟩; conv => whnf) | (refine ⟨rfl, _, w64 (by omega), ?_⟩; conv => whnf) | (refine ⟨true, decide_eq_true (by omega), ?_⟩; conv => whnf) | (refine ⟨rfl, ?_⟩; conv => whnf))
    exact ⟨⟨k + 1, by omega⟩, Wk.tab [] ⟨⟨rfl, rfl⟩, ⟨rfl, rfl⟩, ⟨rfl, rfl⟩, ⟨rfl, rfl⟩, ⟨rfl, rfl⟩, trivial⟩ ⟨rfl, rfl, trivial⟩ rfl, by dsimp only; omega⟩
  · have e : k = i := by omega
    subst e
    repeat (first | (refine W.RS (by kernel_rfl) ?_; conv => whnf) | (refine W.S ?_) | (refine W.ret ?_; conv => whnf) | (refine W.exit ?_; conv => whnf) | (refine W.condF rfl ?_) | (refine ⟨false, decide_eq_false (by omega), ?_⟩; conv => whnf) | (refine ⟨rfl, ?_⟩; conv => whnf))
    rfl
end Go.Proofs.Fl
namespace Go.Proofs.Fl
open Go.RowKit Go.Proofs.Dig
attribute [local irreducible] IntKind.wrap PureC MutC MakC IterC
theorem t116_ok {J : Keep} (B : Base J) {p q : List Rat} (i : Nat) (h1 : qln (p.getD i 0) < 2 ^ 38) (h2 : qln (q.getD i 0) < 2 ^ 38) : EF J 116 [.iv (.int .i64 (i : Nat)), .ptr 0, .ptr 1] [pq p, pq q] [pq p, pq q] (qr (p.getD i 0 + q.getD i 0)) := by
  refine ef_ok Tryz.func116 rfl rfl rfl rfl rfl ?_
  have c1 := t117_ok J p i
  have c2 := t117_ok J q i
  have c3 := f48_ok B h1 h2
  repeat (first | (refine W.RS (by kernel_rfl) ?_; conv => whnf) | (refine W.ret ?_; conv => whnf) | (refine ⟨_, c1, ?_⟩; conv => whnf) | (refine ⟨_, c2, ?_⟩; conv => whnf) | (refine ⟨_, c3, ?_⟩; conv => whnf) | (refine ⟨rfl, ?_⟩; conv => whnf))
  exact trivial
def eachL (n : Nat) (g : Nat → Rat) : List Rat := (List.range n).map g
theorem eachL_len (n : Nat) (g : Nat → Rat) : (eachL n g).length = n := by simp [eachL]
theorem eachL_get {n : Nat} {g : Nat → Rat} {k : Nat} (h : k < n) : (eachL n g).getD k 0 = g k := by simp [eachL, h]
def eachZ (n : Nat) (g : Nat → Rat) (k : Nat) : List Rat := (List.range n).map fun i => if i < k then g i else 0
theorem eachZ_len (n k : Nat) (g : Nat → Rat) : (eachZ n g k).length = n := by simp [eachZ]
theorem eachZ_zero (n : Nat) (g : Nat → Rat) : eachZ n g 0 = List.replicate n 0 := by
  apply List.ext_getElem
  · simp [eachZ]
  · intro i h1 h2; simp [eachZ]
theorem eachZ_all (n : Nat) (g : Nat → Rat) : eachZ n g n = eachL n g := by
  apply List.ext_getElem
  · simp [eachZ, eachL]
  · intro i h1 h2
    simp [eachZ, eachL] at h1 ⊢
    omega
theorem eachZ_succ {n k : Nat} {g : Nat → Rat} (_ : k < n) : (eachZ n g k).set k (g k) = eachZ n g (k + 1) := by
  apply List.ext_getElem
  · simp [eachZ]
  · intro i h1 h2
    rw [List.getElem_set]
    simp [eachZ] at h1 ⊢
    by_cases e : k = i
    · subst e; simp
    · rw [if_neg e]
      by_cases h3 : i < k
      · rw [if_pos h3, if_pos (by omega)]
      · rw [if_neg h3, if_neg (by omega)]
theorem t115_ok {J : Keep} {z1 z2 : IV} {n : Nat} (hn : n < 2 ^ 36) {g : Nat → Rat} (h : ∀ i, i < n → EF J 116 [.iv (.int .i64 (i : Nat)), .ptr 0, .ptr 1] [z1, z2] [z1, z2] (qr (g i))) : EF J 115 [.iv (.int .i64 (n : Nat)), .clo 116 [0, 1]] [z1, z2] [z1, z2] (pq (trimL (eachL n g))) := by
  refine ef_ok Tryz.func115 rfl rfl rfl rfl rfl ?_
  repeat (first | (refine W.RS (by kernel_rfl) ?_; conv => whnf) | (refine W.S ?_) | (refine W.block ?_) | (refine ⟨by show 56 * n ≤ (281474976710656 : Nat); omega, by unfold maxLen; omega, ?_⟩; conv => whnf) | (refine ⟨_, rfl, ?_⟩; conv => whnf) | (refine ⟨rfl, ?_⟩; conv => whnf))
  refine W.loop (G := { k : Nat // k ≤ n }) (fun k => mkA [(1, .clo 116 [pinId, pinId + 1]), (5, .ref 2 0 n true), (9, .ref 2 0 n true), (10, .iv (.int .i64 (n : Nat))), (11, .iv (.int .i64 (k.1 : Nat)))] [(pinId, .var z1), (pinId + 1, .var z2), (2, .arr 32 3 ((eachZ n g k.1).map qr) false)] 40) (fun k => n - k.1) ⟨0, Nat.zero_le _⟩
    (Wk.tab [] ⟨⟨rfl, rfl⟩, ⟨rfl, rfl⟩, ⟨rfl, rfl⟩, ⟨rfl, rfl⟩, ⟨rfl, rfl⟩, trivial⟩ ⟨rfl, rfl, ?_, trivial⟩ rfl) ?_
  · show some (Bx.arr 32 3 (List.replicate n (IV.agg [.sl [], .bool false, .sl []])) false) = some (Bx.arr 32 3 ((eachZ n g 0).map qr) false)
    rw [eachZ_zero, List.map_replicate, dg_zero_qr]
  rintro ⟨k, hk⟩
  show W J _ _ (mkA [(1, .clo 116 [pinId, pinId + 1]), (5, .ref 2 0 n true), (9, .ref 2 0 n true), (10, .iv (.int .i64 (n : Nat))), (11, .iv (.int .i64 (k : Nat)))] [(pinId, .var z1), (pinId + 1, .var z2), (2, .arr 32 3 ((eachZ n g k).map qr) false)] 40) _
  by_cases hkn : k < n
  · have hg : ((eachZ n g k).map qr)[0 + k]? = some (qr ((eachZ n g k).getD k 0)) := by rw [Nat.zero_add]; exact getq (by rw [eachZ_len]; exact hkn)
    have c1 := h k hkn
    have hs := eachZ_succ (g := g) hkn
    repeat (first | (refine W.eff 4 [pinId, pinId + 1] rfl rfl rfl rfl ?_; conv => whnf) | (refine W.RS (by kernel_rfl) ?_; conv => whnf) | (refine W.R (by kernel_rfl) ?_; conv => whnf) | (refine W.S ?_) | (refine W.block ?_) | (refine W.skip ?_; conv => whnf) | (refine W.condT rfl ?_) | (refine ⟨[0, 1], [z1, z2], [z1, z2], _, rfl, ⟨rfl, rfl, trivial⟩, by simp [pinId], c1, ?_⟩; conv => whnf) | (refine ⟨List.not_mem_nil, _, hg, ?_⟩; conv => whnf) | (refine ⟨rfl, _, w64 (by omega), ?_⟩; conv => whnf) | (refine ⟨(rfl : (_ : Nat) = _), _, rfl, by omega, ?_⟩; conv => whnf) | (refine ⟨true, decide_eq_true (by omega), ?_⟩; conv => whnf) | (refine ⟨rfl, ?_⟩; conv => whnf))
    refine ⟨⟨k + 1, by omega⟩, Wk.tab [] ⟨⟨rfl, rfl⟩, ⟨rfl, rfl⟩, ⟨rfl, rfl⟩, ⟨rfl, rfl⟩, ⟨rfl, rfl⟩, trivial⟩ ⟨rfl, rfl, ?_, trivial⟩ rfl, by dsimp only; omega⟩
    show some (Bx.arr 32 3 (((eachZ n g k).map qr).set (0 + k) (qr (g k))) false) = some (Bx.arr 32 3 ((eachZ n g (k + 1)).map qr) false)
    rw [Nat.zero_add, ← List.map_set, hs]
  · have e : k = n := by omega
    subst e
    rw [eachZ_all]
    have c1 : C J 25 [.sl (((((eachL k g).map qr).drop 0).take k))] (pq (trimL (eachL k g))) := by
      rw [List.drop_zero, List.take_of_length_le (by simp [eachL])]
      exact t25_ok J (by rw [eachL_len]; exact hn)
    repeat (first | (refine W.RS (by kernel_rfl) ?_; conv => whnf) | (refine W.S ?_) | (refine W.ret ?_; conv => whnf) | (refine W.exit ?_; conv => whnf) | (refine W.condF rfl ?_) | (refine ⟨_, c1, ?_⟩; conv => whnf) | (refine ⟨false, decide_eq_false (by omega), ?_⟩; conv => whnf) | (refine ⟨rfl, ?_⟩; conv => whnf))
    exact trivial
theorem t79_ok {J : Keep} (B : Base J) {p q : List Rat} (hp : p.length < 2 ^ 36) (hq : q.length < 2 ^ 36) (h1 : ∀ i, qln (p.getD i 0) < 2 ^ 38) (h2 : ∀ i, qln (q.getD i 0) < 2 ^ 38) : C J 79 [pq p, pq q] (pq (trimL (eachL (max p.length q.length) fun i => p.getD i 0 + q.getD i 0))) := by
  refine fn_ok Tryz.func79 rfl rfl rfl ?_
  have l1 : (p.map qr).length = p.length := by simp
  have l2 : (q.map qr).length = q.length := by simp
  have hm : (if ((q.map qr).length : Int) > ((p.map qr).length : Int) then ((q.map qr).length : Int) else ((p.map qr).length : Int)) = ((max p.length q.length : Nat) : Int) := by
    rw [l1, l2]; split <;> omega
  have c1 := t115_ok (J := J) (z1 := pq p) (z2 := pq q) (n := max p.length q.length) (by omega) (g := fun i => p.getD i 0 + q.getD i 0) (fun i _ => t116_ok B i (h1 i) (h2 i))
  repeat (first | (refine W.S ?_; refine W.eff 6 [0, 1] rfl rfl rfl rfl ?_; conv => whnf) | (refine W.RS (by kernel_rfl) ?_; conv => whnf) | (refine W.ret ?_; conv => whnf) | (refine ⟨_, hm, ?_⟩; conv => whnf) | (refine ⟨[], [pq p, pq q], [pq p, pq q], _, rfl, ⟨rfl, rfl, trivial⟩, by simp, c1, ?_⟩; conv => whnf) | (refine ⟨_, rfl, ?_⟩; conv => whnf))
  rfl
end Go.Proofs.Fl
namespace Go.Proofs.Fl
open Go.RowKit
theorem VR.asVal {H : Heap} {v u : Value} (h : VR H v (.val u)) : v = u := by cases h; rfl
section
variable {X : Cx} {nt : Nat} {σ : AS} {K : Exit → AS → Prop} {c : Code}
theorem CW.nameClo (t : Nat) {f : FuncId} {gs : List Nat} (ht : σ.tm t = .clo f gs) (h : ∀ u, CW X nt c ⟨upd σ.tm t (.cv u f gs), σ.bx, σ.nx⟩ K) : CW X nt c σ K :=
  fun ro E Q hI hQ M H β a w hS => by
    have hs := hS.sim.slot t
    rw [ht] at hs
    refine h (a.tmps.getD t undef) ro E Q hI hQ M H β a w ⟨⟨hS.sim.has, hS.sim.below, hS.sim.lo, hS.sim.ext, fun t' => ?_, hS.sim.box, hS.sim.inj, hS.sim.pin, hS.sim.marks, hS.sim.hid⟩, hS.defers, hS.size⟩
    by_cases e : t' = t
    · subst e
      show SR _ _ _ _ (upd σ.tm t' (.cv _ f gs) t')
      rw [upd_same]
      exact ⟨rfl, hs.1, hs.2⟩
    · show SR _ _ _ _ (upd σ.tm t (.cv _ f gs) t')
      rw [upd_other _ _ _ e]
      exact hS.sim.slot t'
theorem CW.effV (n t : Nat) (gs : List Nat) {id : Nat} {all : Array Oper} {o : Oper} {fo : Operand} {args : Array Operand} {ats : Array TypeId} (ho : all.toList[n]? = some o) (hd : dstsOk nt all.toList = true) (hg : o.guard = none) (hop : o.op = .call { callee := .value fo, args := args, argTypes := ats })
    (h : opsP X.T X.C all (all.toList.take n) σ.nx σ.tm σ.bx [] fun tm bx _ => match tm t, toPs gs bx (evS tm) args.toList with
      | .cv u f hs, some (xs, fs) => ∃ is zs zs' r, evS tm fo = .iv (.val u) ∧ ixAll gs hs = some is ∧ cloB bx gs zs ∧ gs.Pairwise (· ≠ ·) ∧ EffC X.P X.I f (xs ++ is.map .ptr) zs zs' r ∧
          opsP X.T X.C all (all.toList.drop (n + 1)) (σ.nx + n + 1) (putS tm o.dst (.iv r)) (updL (fzAll bx fs) gs zs') [] fun tm bx _ => K .normal ⟨tm, bx, σ.nx + all.size⟩
      | _, _ => False) : CW X nt (.region id all false) σ K := by
  intro ro E Q hI hQ M H β a w hS
  refine wpIn_region_list ?_
  have hsplit : all.toList = all.toList.take n ++ o :: all.toList.drop (n + 1) := by
    have hlt := (List.getElem?_eq_some_iff.1 ho).1
    have he := (List.getElem?_eq_some_iff.1 ho).2
    have h1 := List.take_append_drop n all.toList
    rw [List.drop_eq_getElem_cons hlt, he] at h1
    exact h1.symm
  have hd1 : dstsOk nt (all.toList.take n) = true := by
    unfold dstsOk at hd ⊢
    rw [List.all_eq_true] at hd ⊢
    exact fun x hx => hd x (List.mem_of_mem_take hx)
  have hd2 : dstsOk nt (all.toList.drop (n + 1)) = true := by
    unfold dstsOk at hd ⊢
    rw [List.all_eq_true] at hd ⊢
    exact fun x hx => hd x (List.mem_of_mem_drop hx)
  have hdo : ∀ d, o.dst = some d → d < nt := dstsOk_spec hd (List.mem_of_getElem? ho)
  rw [hsplit]
  refine list_on (E := E.mks M) X.hT X.ok hI (fun H1 β1 tm bx log a1 w1 hk hS1 => ?_) hd1 hS h
  split at hk
  · rename_i u f hs xs fs hfo hargs
    obtain ⟨is, zs, zs', r, hev, hix, hz, hpw, ⟨⟨fn, hf1, hf2, hf3⟩, hc⟩, hk⟩ := hk
    have hv := ev_ok hS1.sim rfl fo
    obtain ⟨H2, hle, S2, V2⟩ := toPs_ok (gs := gs) (a := a1) rfl hS1.sim hargs
    obtain ⟨i1, i2⟩ := ixAll_spec hix
    have gd : ∀ i, i < gs.length → (gs.map fun g => (β1 g).1).getD i 0 = (β1 (gs.getD i 0)).1 := fun i hi => by simp [hi]
    have hz2 : cloB (fzAll bx fs) gs zs := by
      have go : ∀ (gs : List Nat) (zs : List IV), cloB bx gs zs → cloB (fzAll bx fs) gs zs := by
        intro gs
        induction gs with
        | nil => intro zs h; cases zs with
          | nil => trivial
          | cons => exact h.elim
        | cons g gs ih => intro zs h; cases zs with
          | nil => exact h.elim
          | cons z zs => exact ⟨fzAll_var fs _ _ _ h.1, ih zs h.2⟩
      exact go gs zs hz
    have hcap : a1.eval fo = .func (.func f) #[] (hs.map fun g => Value.pointer (some ⟨(β1 g).1, 0, none⟩)).toArray := by
      have hs1 := hS1.sim.slot t
      rw [hfo] at hs1
      rw [hev] at hv
      obtain ⟨e1, _, e2⟩ := hs1
      rw [← e2, e1]
      exact VR.asVal hv
    have hPV : PVRL H2 (gs.map fun g => (β1 g).1) (args.toList.map a1.eval ++ hs.map fun g => Value.pointer (some ⟨(β1 g).1, 0, none⟩)) (xs ++ is.map .ptr) := by
      rw [i1]
      exact pv_append V2 (ptrs_pv i2)
    have hpb : (gs.map fun g => (β1 g).1).Pairwise (· ≠ ·) := by
      refine List.pairwise_map.2 (hpw.imp_of_mem fun {x y} hx hy hne e => hne ?_)
      obtain ⟨z1, hz1⟩ := cloB_get hz2 x hx
      obtain ⟨z2, hz3⟩ := cloB_get hz2 y hy
      exact S2.inj x y _ _ hz1 hz3 rfl rfl e
    have hown : ∀ k, (k ∈ gs.map (fun g => (β1 g).1) ∨ w1.heap.size ≤ k) → E.own k := fun k hk => hk.elim (fun e => by
      obtain ⟨g, hg, rfl⟩ := List.mem_map.1 e
      obtain ⟨z, ez⟩ := cloB_get hz2 g hg
      exact (S2.box g _ ez).lo rfl) (S2.lo k)
    have hcall := hc H2 w1 (gs.map fun g => (β1 g).1) (args.toList.map a1.eval ++ hs.map fun g => Value.pointer (some ⟨(β1 g).1, 0, none⟩)) hpb (fun w' hw' => hI _ (S2.below.trans (hw'.mono hown))) S2.has
      (cloB_brs S2 hz2 (fun g hg => .inl (List.mem_map.2 ⟨g, hg, rfl⟩))) hPV
    have hrun : (execOp a1.eval o).run X.P w1 = .ok (.enter f (args.toList.map a1.eval ++ hs.map fun g => Value.pointer (some ⟨(β1 g).1, 0, none⟩)).toArray) w1 := by
      simp only [execOp, hop, resolve, hcap, Deferred.ofValue, Sem.run_bind, Sem.run_pure, Result.andThen_ok, invoke, callFunc, run_program, hf1, hf2, hf3, Bool.false_eq_true, if_false]
      congr 2
      apply Array.ext'
      simp
    unfold wpListIn
    simp only [Region.wanted, hg, if_true]
    refine op_in (fun c hc => by rw [hop] at hc; cases hc) ?_
    unfold Oper.wp
    rw [hrun]
    refine hcall.mono ?_
    rintro e w2 ⟨v, H3, rfl, hh3, he3, hv3, hb3, hbr3⟩
    have hlz : gs.length = zs'.length := by have := BRs_len hbr3; simpa using this
    have T : St (E.mks M) nt H3 β1 (putS tm o.dst (.iv r)) (updL (fzAll bx fs) gs zs') (a1.put o.dst v) w2 := St.put ⟨S2.turn hz2 hpw hlz hb3 hh3 he3 hbr3, hS1.defers, hS1.size⟩ hdo (r := .iv r) hv3
    have := list_on (rest := []) (Q := Q) (ro := ro.1) (E := E.mks M) X.hT X.ok hI (all := all) (K := fun tm bx _ => K .normal ⟨tm, bx, σ.nx + all.size⟩) (fun H4 β4 tm bx log a4 w4 hk4 hS4 => hQ .normal _ M H4 β4 a4 w4 hk4 hS4) hd2 T hk
    rw [List.append_nil] at this; exact this
  · exact hk.elim
end
section
variable {J : Keep} {nt : Nat} {σ : AS} {K : Exit → AS → Prop} {c : Code}
theorem W.nameClo (t : Nat) {f : FuncId} {gs : List Nat} (ht : σ.tm t = .clo f gs) (h : ∀ u, W J nt c ⟨upd σ.tm t (.cv u f gs), σ.bx, σ.nx⟩ K) : W J nt c σ K := by
  unfold W at h ⊢
  exact CW.nameClo (X := cx J) t ht h
theorem W.effV (n t : Nat) (gs : List Nat) {id : Nat} {all : Array Oper} {o : Oper} {fo : Operand} {args : Array Operand} {ats : Array TypeId} (ho : all.toList[n]? = some o) (hd : dstsOk nt all.toList = true) (hg : o.guard = none) (hop : o.op = .call { callee := .value fo, args := args, argTypes := ats })
    (h : opsP TT (cx J).C all (all.toList.take n) σ.nx σ.tm σ.bx [] fun tm bx _ => match tm t, toPs gs bx (evS tm) args.toList with
      | .cv u f hs, some (xs, fs) => ∃ is zs zs' r, evS tm fo = .iv (.val u) ∧ ixAll gs hs = some is ∧ cloB bx gs zs ∧ gs.Pairwise (· ≠ ·) ∧ EF J f (xs ++ is.map .ptr) zs zs' r ∧
          opsP TT (cx J).C all (all.toList.drop (n + 1)) (σ.nx + n + 1) (putS tm o.dst (.iv r)) (updL (fzAll bx fs) gs zs') [] fun tm bx _ => K .normal ⟨tm, bx, σ.nx + all.size⟩
      | _, _ => False) : W J nt (.region id all false) σ K := by
  unfold W
  exact CW.effV (X := cx J) n t gs ho hd hg hop h
end
end Go.Proofs.Fl
namespace Go.Proofs.Fl
open Go.RowKit Go.Proofs.Dig
attribute [local irreducible] IntKind.wrap PureC MutC MakC IterC
theorem t113_ok (J : Keep) (es : List IV) : MK J 113 [.sl es] 156 [.sl es] := by
  refine mk_ok Tryz.func113 rfl rfl rfl ?_
  repeat (first | (refine W.RS (by kernel_rfl) ?_; conv => whnf) | (refine W.ret ?_; conv => whnf) | (refine ⟨rfl, ?_⟩; conv => whnf))
  exact ⟨⟨rfl, trivial⟩, by simp⟩
noncomputable def backQ (p : List Rat) : List (List IV) := (List.range p.length).map fun k => [.int .i64 ((p.length - 1 - k : Nat) : Int), qr (p.getD (p.length - 1 - k) 0)]
theorem backQ_get {p : List Rat} {k : Nat} (h : k < p.length) : (backQ p)[k]? = some [.int .i64 ((p.length - 1 - k : Nat) : Int), qr (p.getD (p.length - 1 - k) 0)] := by
  simp [backQ, h]
theorem backQ_len (p : List Rat) : (backQ p).length = p.length := by simp [backQ]
theorem backQ_two {p : List Rat} : ∀ y ∈ backQ p, y.length = 2 := by
  intro y hy
  obtain ⟨k, _, rfl⟩ := List.mem_map.1 hy
  rfl
theorem backQ_at {p : List Rat} {k : Nat} (hk : k < (backQ p).length) : (backQ p)[k] = [.int .i64 ((p.length - 1 - k : Nat) : Int), qr (p.getD (p.length - 1 - k) 0)] := by
  have := backQ_get (p := p) (k := k) (by rw [backQ_len] at hk; exact hk)
  rw [List.getElem?_eq_getElem hk] at this
  exact Option.some.inj this
theorem t156_ok (J : Keep) {p : List Rat} (hl : p.length < 2 ^ 60) : ITS J 156 [pq p] (backQ p) false := by
  refine itS_ok Tryz.func156 rfl rfl rfl rfl fun l F hF => ?_
  have lm : (p.map qr).length = p.length := by simp
  repeat (first | (refine WY.RSE hF (by kernel_rfl) ?_; conv => whnf) | (refine WY.block ?_) | (refine ⟨rfl, _, w64 (by omega), ?_⟩; conv => whnf) | (refine ⟨_, rfl, ?_⟩; conv => whnf))
  refine WY.loop (G := { k : Nat // k ≤ p.length }) (fun k => mkA [(0, .yld l), (1, .ptr 0 0), (3, .iv (.int .i64 ((p.length : Int) - 1 - (k.1 : Int))))] [(0, .var (pq p))] 50) (fun k => k.1) (fun k => p.length - k.1) ⟨0, Nat.zero_le _⟩
    (Wk.tab [] ⟨⟨rfl, rfl⟩, ⟨rfl, rfl⟩, ⟨?_, rfl⟩, trivial⟩ ⟨rfl, trivial⟩ rfl) rfl ?_
  · show SV.iv (.int .i64 _) = SV.iv (.int .i64 ((p.length : Int) - 1 - ((0 : Nat) : Int)))
    congr 2; omega
  rintro ⟨k, hk⟩
  show WY (cx J.top) _ F _ (mkA [(0, .yld l), (1, .ptr 0 0), (3, .iv (.int .i64 ((p.length : Int) - 1 - (k : Int))))] [(0, .var (pq p))] 50) k _
  have hbl := backQ_len p
  by_cases h : k < p.length
  · refine WY.S ?_
    refine WY.RSE hF (by kernel_rfl) ?_
    conv => whnf
    refine ⟨rfl, true, decide_eq_true (by omega), ?_⟩
    conv => whnf
    refine WY.condT rfl ?_
    refine WY.skip ?_
    conv => whnf
    refine WY.S ?_
    refine WY.block ?_
    refine WY.yieldSE hF 6 rfl rfl rfl rfl ?_
    conv => whnf
    have hj : ((p.length - 1 - k : Nat) : Int) = (p.length : Int) - 1 - (k : Int) := by omega
    refine ⟨p.length - 1 - k, qr (p.getD (p.length - 1 - k) 0), hj.symm, getq (by omega), rfl, ?_⟩
    conv => whnf
    rw [← hj]
    refine ⟨rfl, backQ_get h, ?_⟩
    conv => whnf
    repeat (first | (refine WY.RE hF (by kernel_rfl) ?_; conv => whnf) | (refine WY.skip ?_; conv => whnf) | (refine WY.condF rfl ?_) | (refine ⟨rfl, _, w64 (by omega), ?_⟩; conv => whnf) | (refine ⟨_, rfl, ?_⟩; conv => whnf))
    exact ⟨⟨k + 1, by omega⟩, Wk.tab [] ⟨⟨rfl, rfl⟩, ⟨rfl, rfl⟩, ⟨ivEq (by dsimp only; omega), rfl⟩, trivial⟩ ⟨rfl, trivial⟩ rfl, rfl, by dsimp only; omega⟩
  · refine WY.S ?_
    refine WY.RSE hF (by kernel_rfl) ?_
    conv => whnf
    refine ⟨rfl, false, decide_eq_false (by omega), ?_⟩
    conv => whnf
    refine WY.condF rfl ?_
    refine WY.exit ?_
    conv => whnf
    show k = (backQ p).length
    rw [hbl]; omega
end Go.Proofs.Fl
namespace Go.Proofs.Fl
open Go.RowKit Go.Proofs.Dig
attribute [local irreducible] IntKind.wrap PureC MutC MakC IterC
theorem pend_none (n k : Nat) : pend n none k = none := by
  unfold pend; cases Nat.beq k n <;> rfl
theorem t74_ok {J : Keep} (B : Base J) {v c x : Rat} (h1 : qln v < 2 ^ 38) (h2 : qln x < 2 ^ 38) (h3 : qln (v * x) < 2 ^ 38) (h4 : qln c < 2 ^ 38) : EF J 74 [.iv (qr v), .iv (qr c), .ptr 0] [qr x] [qr x] (qr (v * x + c)) := by
  refine ef_ok Tryz.func74 rfl rfl rfl rfl rfl ?_
  have c1 := f49_ok B h1 h2
  have c2 := f48_ok B h3 h4
  repeat (first | (refine W.RS (by kernel_rfl) ?_; conv => whnf) | (refine W.ret ?_; conv => whnf) | (refine ⟨_, c1, ?_⟩; conv => whnf) | (refine ⟨_, c2, ?_⟩; conv => whnf) | (refine ⟨rfl, ?_⟩; conv => whnf))
  exact trivial
theorem t73_ok (J : Keep) {p : List Rat} (hl : p.length < 2 ^ 60) {x : Rat} {v : Nat → Rat} (hs : ∀ k, k < p.length → EF J 74 [.iv (qr (v k)), .iv (qr (p.getD (p.length - 1 - k) 0)), .ptr 0] [qr x] [qr x] (qr (v (k + 1)))) : EF J 73 [.iv (pq p), .iv (qr (v 0)), .clo 74 [0]] [qr x] [qr x] (qr (v p.length)) := by
  refine ef_ok (J := J.top) Tryz.func73 rfl rfl rfl rfl rfl ?_
  refine W.nameClo 2 rfl fun u => ?_
  repeat (first | (refine W.RS (by kernel_rfl) ?_; conv => whnf) | (refine W.S ?_) | (refine W.block ?_) | (refine ⟨156, [pq p], t113_ok J _, rfl, ?_⟩; conv => whnf))
  refine W.weak (σ' := mkA [(2, .cv u 74 [pinId]), (4, .ptr (pinId + 1) 0), (5, .ptr (pinId + 2) 0), (6, .ptr (pinId + 3) 0), (10, .clo 156 [4])] [(pinId, .var (qr x)), (pinId + 1, .var (qr (v 0))), (pinId + 2, .var (.val u)), (pinId + 3, .var (qr 0)), (4, .var (pq p))] 60) (Wk.tab [(pinId + 1, 0), (pinId + 2, 1), (pinId + 3, 2)] ⟨⟨rfl, rfl⟩, ⟨rfl, rfl⟩, ⟨rfl, rfl⟩, ⟨rfl, rfl⟩, ⟨rfl, rfl⟩, trivial⟩ ⟨rfl, rfl, rfl, (congrArg (fun z => some (Bx.var z)) dg_zero_qr.symm), rfl, trivial⟩ rfl) ?_
  refine W.rangeS (c := none) (t156_ok J hl) [pinId, pinId + 1, pinId + 2, pinId + 3] [(2, .cv u 74 [pinId]), (4, .ptr (pinId + 1) 0), (5, .ptr (pinId + 2) 0), (6, .ptr (pinId + 3) 0)] (fun k => [(pinId, .var (qr x)), (pinId + 1, .var (qr (v k))), (pinId + 2, .var (.val u)), (pinId + 3, .var (qr 0))]) 60 rfl ⟨rfl, trivial⟩ (by simp) rfl backQ_two (fun _ => rfl) (fun _ => by intro p hp; simp at hp; rcases hp with rfl | rfl | rfl | rfl <;> rfl) rfl ⟨rfl, rfl, rfl, rfl, trivial⟩ rfl ⟨rfl, rfl, rfl, rfl, trivial⟩ rfl rfl (fun k hk => ?_) (.inl rfl) ?_
  · rw [backQ_at hk, pend_none]
    rw [backQ_len] at hk
    show W J.any _ _ ⟨putsL (tbS [(2, .cv u 74 [pinId]), (4, .ptr (pinId + 1) 0), (5, .ptr (pinId + 2) 0), (6, .ptr (pinId + 3) 0)]) [11, 12] [.int .i64 ((p.length - 1 - k : Nat) : Int), qr (p.getD (p.length - 1 - k) 0)], tbB [(pinId, .var (qr x)), (pinId + 1, .var (qr (v k))), (pinId + 2, .var (.val u)), (pinId + 3, .var (qr 0))], 60⟩ _
    have c1 := hs k hk
    obtain ⟨y, hy⟩ : ∃ y, p.getD (p.length - 1 - k) 0 = y := ⟨_, rfl⟩
    rw [hy] at c1 ⊢
    repeat (first | (refine W.effV 3 2 [pinId] rfl rfl rfl rfl ?_; conv => whnf) | (refine W.R (by kernel_rfl) ?_; conv => whnf) | (refine W.block ?_) | (refine ⟨[0], [qr x], [qr x], _, rfl, rfl, ⟨rfl, trivial⟩, by simp, c1, ?_⟩; conv => whnf) | (refine ⟨rfl, ?_⟩; conv => whnf))
    exact trivial
  · rw [backQ_len]
    repeat (first | (refine W.RS (by kernel_rfl) ?_; conv => whnf) | (refine W.ret ?_; conv => whnf) | (refine ⟨rfl, ?_⟩; conv => whnf))
    exact trivial
end Go.Proofs.Fl
namespace Go.Proofs.Fl
open Go.RowKit Go.Proofs.Dig
attribute [local irreducible] IntKind.wrap PureC MutC MakC IterC
def evZ (p : List Rat) : Nat → Rat
  | 0 => 0
  | k + 1 => p.getD (p.length - 1 - k) 0
theorem qln_z : qln 0 ≤ 100 := Nat.le_trans qln_zero (by decide)
theorem t50_ok {J : Keep} (B : Base J) {p : List Rat} (hl : p.length < 2 ^ 60) (hb : ∀ i, qln (p.getD i 0) ≤ 1000) : C J 50 [pq p, qr 0] (qr (p.getD 0 0)) := by
  refine fn_ok Tryz.func50 rfl rfl rfl ?_
  have hz := qln_z
  have hv : ∀ k, qln (evZ p k) ≤ 1000 := fun k => by
    cases k with
    | zero => exact Nat.le_trans qln_z (by decide)
    | succ k => exact hb _
  have c1 := t73_ok J hl (x := 0) (v := evZ p) (fun k _ => by
    have h1 := hv k
    have h2 := hb (p.length - 1 - k)
    have := t74_ok B (v := evZ p k) (c := p.getD (p.length - 1 - k) 0) (x := 0) (by omega) (by omega) (by rw [Rat.mul_zero]; omega) (by omega)
    rw [Rat.mul_zero, Rat.zero_add] at this
    exact this)
  have e0 : qr (evZ p 0) = .agg [.sl [], .bool false, .sl []] := dg_zero_qr
  rw [e0] at c1
  have e1 : evZ p p.length = p.getD 0 0 := by
    cases hp : p.length with
    | zero => rw [getD_out (by omega)]; rfl
    | succ n => show p.getD (p.length - 1 - n) 0 = _; rw [hp, show n + 1 - 1 - n = 0 by omega]
  rw [e1] at c1
  repeat (first | (refine W.S ?_; refine W.eff 3 [0] rfl rfl rfl rfl ?_; conv => whnf) | (refine W.RS (by kernel_rfl) ?_; conv => whnf) | (refine W.ret ?_; conv => whnf) | (refine ⟨[], [qr 0], [qr 0], _, rfl, ⟨rfl, trivial⟩, by simp, c1, ?_⟩; conv => whnf))
  rfl
def mulI (q : List Rat) (x : Rat) (k : Nat) (out : List Rat) : Nat → List Rat
  | 0 => out
  | j + 1 => (mulI q x k out j).set (k + j) ((mulI q x k out j).getD (k + j) 0 + x * q.getD j 0)
def mulO (p q : List Rat) : Nat → List Rat
  | 0 => List.replicate (p.length + q.length - 1) 0
  | k + 1 => if p.getD k 0 = 0 then mulO p q k else mulI q (p.getD k 0) k (mulO p q k) q.length
theorem mulI_len (q : List Rat) (x : Rat) (k : Nat) (out : List Rat) : ∀ j, (mulI q x k out j).length = out.length
  | 0 => rfl
  | j + 1 => by simp [mulI, mulI_len q x k out j]
theorem mulO_len (p q : List Rat) : ∀ k, (mulO p q k).length = p.length + q.length - 1
  | 0 => by simp [mulO]
  | k + 1 => by
    unfold mulO
    split
    · exact mulO_len p q k
    · rw [mulI_len]; exact mulO_len p q k
def mulZ (p : List Rat) (k : Nat) : List Rat := (List.range (p.length + 1)).map fun i => if 0 < i ∧ i ≤ k then p.getD (i - 1) 0 else 0
theorem mulZ_get {p : List Rat} {k i : Nat} : (mulZ p k).getD i 0 = if 0 < i ∧ i ≤ k ∧ i < p.length + 1 then p.getD (i - 1) 0 else 0 := by
  unfold mulZ
  by_cases h : i < p.length + 1
  · simp only [List.getD_eq_getElem?_getD, List.getElem?_map, List.getElem?_range h, Option.map_some, Option.getD_some]
    simp [h]
  · simp [h]
theorem mulZ_eq {p o : List Rat} {k : Nat} (hl : o.length = p.length + 1) (h : ∀ i, i < p.length + 1 → o.getD i 0 = if 0 < i ∧ i ≤ k then p.getD (i - 1) 0 else 0) : o = mulZ p k := by
  apply List.ext_getElem
  · simp [mulZ, hl]
  · intro i h1 h2
    have h3 := h i (by omega)
    rw [List.getD_eq_getElem?_getD, List.getElem?_eq_getElem h1] at h3
    simp only [Option.getD_some] at h3
    rw [h3]
    simp [mulZ]
theorem set_getD {l : List Rat} {i j : Nat} {x : Rat} (h : i < l.length) : (l.set i x).getD j 0 = if j = i then x else l.getD j 0 := by
  simp only [List.getD_eq_getElem?_getD, List.getElem?_set]
  by_cases e : i = j
  · subst e; simp [h]
  · rw [if_neg e, if_neg (fun e' => e e'.symm)]
theorem mulO_z {p : List Rat} : ∀ {k : Nat}, k ≤ p.length → mulO p [0, 1] k = mulZ p k
  | 0, _ => mulZ_eq (by simp [mulO]) fun i hi => by
    rw [if_neg (by omega)]
    simp only [mulO, List.getD_eq_getElem?_getD, List.getElem?_replicate]
    split <;> rfl
  | k + 1, hk => by
    have ih := mulO_z (p := p) (k := k) (by omega)
    unfold mulO
    rw [ih]
    have hlz : (mulZ p k).length = p.length + 1 := by simp [mulZ]
    by_cases h0 : p.getD k 0 = 0
    · rw [if_pos h0]
      refine mulZ_eq hlz fun i hi => ?_
      rw [mulZ_get]
      by_cases h1 : i = k + 1
      · subst h1; rw [if_neg (by omega), if_pos ⟨by omega, by omega⟩]; simpa using h0.symm
      · by_cases h2 : 0 < i ∧ i ≤ k
        · rw [if_pos ⟨h2.1, h2.2, hi⟩, if_pos ⟨h2.1, by omega⟩]
        · rw [if_neg (by omega), if_neg (by omega)]
    · rw [if_neg h0]
      refine mulZ_eq (by rw [mulI_len, hlz]) fun i hi => ?_
      show (((mulZ p k).set (k + 0) ((mulZ p k).getD (k + 0) 0 + p.getD k 0 * 0)).set (k + 1) (((mulZ p k).set (k + 0) ((mulZ p k).getD (k + 0) 0 + p.getD k 0 * 0)).getD (k + 1) 0 + p.getD k 0 * 1)).getD i 0 = _
      have hA : ∀ j, ((mulZ p k).set (k + 0) ((mulZ p k).getD (k + 0) 0 + p.getD k 0 * 0)).getD j 0 = (mulZ p k).getD j 0 := fun j => by
        rw [set_getD (by omega), Rat.mul_zero, Rat.add_zero]
        split
        · rename_i e; rw [e]
        · rfl
      have e0 : (mulZ p k).getD (k + 1) 0 = 0 := by rw [mulZ_get, if_neg (by omega)]
      rw [set_getD (by rw [List.length_set]; omega), hA, hA, e0, Rat.zero_add, Rat.mul_one]
      by_cases h1 : i = k + 1
      · subst h1; rw [if_pos rfl, if_pos ⟨by omega, by omega⟩]; rfl
      · rw [if_neg h1, mulZ_get]
        by_cases h2 : 0 < i ∧ i ≤ k
        · rw [if_pos ⟨h2.1, h2.2, hi⟩, if_pos ⟨h2.1, by omega⟩]
        · rw [if_neg (by omega), if_neg (by omega)]
theorem mulZ_all (p : List Rat) : mulZ p p.length = 0 :: p := by
  symm
  refine mulZ_eq (by simp) fun i hi => ?_
  cases i with
  | zero => rfl
  | succ i => rw [if_pos ⟨by omega, by omega⟩]; rfl
end Go.Proofs.Fl
namespace Go.Proofs.Fl
open Go.RowKit Go.Proofs.Dig
attribute [local irreducible] IntKind.wrap PureC MutC MakC IterC
set_option maxHeartbeats 2000000 in
theorem t78_ok {J : Keep} (B : Base J) {p q : List Rat} (hp : 0 < p.length) (hq : 0 < q.length) (hpl : p.length < 2 ^ 30) (hql : q.length < 2 ^ 30) (b1 : ∀ i, qln (p.getD i 0) ≤ 1000) (b2 : ∀ i, qln (q.getD i 0) ≤ 1000)
    (b3 : ∀ k j, k < p.length → j ≤ q.length → qln ((mulI q (p.getD k 0) k (mulO p q k) j).getD (k + j) 0) ≤ 1000000) : C J 78 [pq p, pq q] (pq (trimL (mulO p q p.length))) := by
  refine fn_ok Tryz.func78 rfl rfl rfl ?_
  have l1 : (p.map qr).length = p.length := by simp
  have l2 : (q.map qr).length = q.length := by simp
  have hn : ((p.length : Int) + (q.length : Int) - 1) = ((p.length + q.length - 1 : Nat) : Int) := by omega
  repeat (first | (refine W.RS (by kernel_rfl) ?_; conv => whnf) | (refine W.S ?_) | (refine W.block ?_) | (refine W.skip ?_; conv => whnf) | (refine W.condF rfl ?_) | (refine ⟨p.length + q.length - 1, by omega, by show 56 * _ ≤ (281474976710656 : Nat); omega, by unfold maxLen; omega, ?_⟩; conv => whnf) | (refine ⟨rfl, _, w64 (by omega), ?_⟩; conv => whnf) | (refine ⟨false, decide_eq_false (by omega), ?_⟩; conv => whnf) | (refine ⟨_, rfl, ?_⟩; conv => whnf) | (refine ⟨rfl, ?_⟩; conv => whnf) | (refine ⟨_, fun h => absurd h Bool.false_ne_true, fun _ => rfl, ?_⟩; conv => whnf))
  refine W.loop (G := { k : Nat // k ≤ p.length }) (fun k => mkA [(1, .iv (pq q)), (5, .ref 0 0 (p.length + q.length - 1) true), (25, .iv (pq p)), (26, .iv (.int .i64 (p.length : Nat))), (27, .iv (.int .i64 (k.1 : Nat)))] [(0, .arr 32 3 ((mulO p q k.1).map qr) false)] 70) (fun k => p.length - k.1) ⟨0, Nat.zero_le _⟩
    (Wk.tab [(0, 15)] ⟨⟨rfl, rfl⟩, ⟨rfl, rfl⟩, ⟨rfl, rfl⟩, ⟨ivEq (by omega), rfl⟩, ⟨rfl, rfl⟩, trivial⟩ ⟨?_, trivial⟩ rfl) ?_
  · show some (Bx.arr 32 3 (List.replicate (p.length + q.length - 1) (IV.agg [.sl [], .bool false, .sl []])) false) = some (Bx.arr 32 3 ((mulO p q 0).map qr) false)
    rw [mulO, List.map_replicate, dg_zero_qr]
  rintro ⟨k, hk⟩
  show W J _ _ (mkA [(1, .iv (pq q)), (5, .ref 0 0 (p.length + q.length - 1) true), (25, .iv (pq p)), (26, .iv (.int .i64 (p.length : Nat))), (27, .iv (.int .i64 (k : Nat)))] [(0, .arr 32 3 ((mulO p q k).map qr) false)] 70) _
  have lo := mulO_len p q k
  by_cases hkn : k < p.length
  · obtain ⟨x, hx⟩ : ∃ x, p.getD k 0 = x := ⟨_, rfl⟩
    have hg := getq (f := qr) (l := p) (k := k) hkn
    have hstep : mulO p q (k + 1) = if p.getD k 0 = 0 then mulO p q k else mulI q (p.getD k 0) k (mulO p q k) q.length := rfl
    have b4 := b3 k
    have bx := b1 k
    rw [hx] at hg hstep b4 bx
    have c0 := f22_ok J x
    by_cases hx0 : x = 0
    · rw [if_pos hx0] at hstep
      subst hx0
      rw [cmp_z] at c0
      repeat (first | (refine W.RS (by kernel_rfl) ?_; conv => whnf) | (refine W.R (by kernel_rfl) ?_; conv => whnf) | (refine W.S ?_) | (refine W.block ?_) | (refine W.exit ?_; conv => whnf) | (refine W.skip ?_; conv => whnf) | (refine W.condT rfl ?_) | (refine ⟨_, c0, ?_⟩; conv => whnf) | (refine ⟨k, _, rfl, hg, rfl, ?_⟩; conv => whnf) | (refine ⟨rfl, _, w64 (by omega), ?_⟩; conv => whnf) | (refine ⟨true, decide_eq_true (by omega), ?_⟩; conv => whnf) | (refine ⟨rfl, ?_⟩; conv => whnf))
      refine ⟨⟨k + 1, by omega⟩, Wk.tab [] ⟨⟨rfl, rfl⟩, ⟨rfl, rfl⟩, ⟨rfl, rfl⟩, ⟨rfl, rfl⟩, ⟨rfl, rfl⟩, trivial⟩ ⟨?_, trivial⟩ rfl, by dsimp only; omega⟩
      show some (Bx.arr 32 3 ((mulO p q k).map qr) false) = some (Bx.arr 32 3 ((mulO p q (k + 1)).map qr) false)
      rw [hstep]
    · rw [if_neg hx0] at hstep
      obtain ⟨c, hc⟩ : ∃ c, cmpI x.num 0 = c := ⟨_, rfl⟩
      have hc0 := cmp_ne hx0
      rw [hc] at c0 hc0
      repeat (first | (refine W.RS (by kernel_rfl) ?_; conv => whnf) | (refine W.S ?_) | (refine W.block ?_) | (refine W.skip ?_; conv => whnf) | (refine W.condF rfl ?_) | (refine W.condT rfl ?_) | (refine ⟨_, c0, ?_⟩; conv => whnf) | (refine ⟨k, _, rfl, hg, rfl, ?_⟩; conv => whnf) | (refine ⟨true, decide_eq_true (by omega), ?_⟩; conv => whnf) | (refine ⟨false, decide_eq_false (by omega), ?_⟩; conv => whnf) | (refine ⟨_, rfl, ?_⟩; conv => whnf) | (refine ⟨rfl, ?_⟩; conv => whnf))
      refine W.loop (G := { j : Nat // j ≤ q.length }) (fun j => mkA [(1, .iv (pq q)), (5, .ref 0 0 (p.length + q.length - 1) true), (6, .iv (.int .i64 (k : Nat))), (7, .ptr 1 0), (25, .iv (pq p)), (26, .iv (.int .i64 (p.length : Nat))), (27, .iv (.int .i64 (k : Nat))), (35, .iv (pq q)), (36, .iv (.int .i64 (q.length : Nat))), (37, .iv (.int .i64 (j.1 : Nat)))] [(0, .arr 32 3 ((mulI q x k (mulO p q k) j.1).map qr) false), (1, .var (qr x))] 70) (fun j => q.length - j.1) ⟨0, Nat.zero_le _⟩
        (Wk.tab [(1, 74)] ⟨⟨rfl, rfl⟩, ⟨rfl, rfl⟩, ⟨rfl, rfl⟩, ⟨rfl, rfl⟩, ⟨rfl, rfl⟩, ⟨rfl, rfl⟩, ⟨rfl, rfl⟩, ⟨rfl, rfl⟩, ⟨ivEq (by omega), rfl⟩, ⟨rfl, rfl⟩, trivial⟩ ⟨rfl, rfl, trivial⟩ rfl) ?_
      rintro ⟨j, hj⟩
      have hj : j ≤ q.length := hj
      show W J _ _ (mkA [(1, .iv (pq q)), (5, .ref 0 0 (p.length + q.length - 1) true), (6, .iv (.int .i64 (k : Nat))), (7, .ptr 1 0), (25, .iv (pq p)), (26, .iv (.int .i64 (p.length : Nat))), (27, .iv (.int .i64 (k : Nat))), (35, .iv (pq q)), (36, .iv (.int .i64 (q.length : Nat))), (37, .iv (.int .i64 (j : Nat)))] [(0, .arr 32 3 ((mulI q x k (mulO p q k) j).map qr) false), (1, .var (qr x))] 70) _
      have li := mulI_len q x k (mulO p q k) j
      by_cases hjn : j < q.length
      · have hq0 := getq (f := qr) (l := q) (k := j) hjn
        have hs : mulI q x k (mulO p q k) (j + 1) = (mulI q x k (mulO p q k) j).set (k + j) ((mulI q x k (mulO p q k) j).getD (k + j) 0 + x * q.getD j 0) := rfl
        have b5 := b4 j hkn hj
        have b6 := b2 j
        obtain ⟨y, hy⟩ : ∃ y, q.getD j 0 = y := ⟨_, rfl⟩
        obtain ⟨out, ho⟩ : ∃ out, mulI q x k (mulO p q k) j = out := ⟨_, rfl⟩
        rw [hy] at hq0 hs b6
        rw [ho] at hs b5 li ⊢
        have hg2 : (out.map qr)[0 + (k + j)]? = some (qr (out.getD (k + j) 0)) := by rw [Nat.zero_add]; exact getq (by omega)
        obtain ⟨z, hz⟩ : ∃ z, out.getD (k + j) 0 = z := ⟨_, rfl⟩
        rw [hz] at hg2 hs b5
        have b7 := qln_mul x y
        have c1 := f49_ok B (a := x) (b := y) (by omega) (by omega)
        have c2 := f48_ok B (a := z) (b := x * y) (by omega) (by omega)
        have lom : (out.map qr).length = out.length := by simp
        repeat (first | (refine W.RS (by kernel_rfl) ?_; conv => whnf) | (refine W.R (by kernel_rfl) ?_; conv => whnf) | (refine W.S ?_) | (refine W.block ?_) | (refine W.skip ?_; conv => whnf) | (refine W.condT rfl ?_) | (refine ⟨_, hg2, ?_⟩; conv => whnf) | (refine ⟨_, c1, ?_⟩; conv => whnf) | (refine ⟨_, c2, ?_⟩; conv => whnf) | (refine ⟨j, _, rfl, hq0, rfl, ?_⟩; conv => whnf) | (refine ⟨List.not_mem_nil, _, hg2, ?_⟩; conv => whnf) | (refine ⟨rfl, _, w64 (by omega), ?_⟩; conv => whnf) | (refine ⟨rfl, _, castB _ _, ?_⟩; conv => whnf) | (refine ⟨true, decide_eq_true (by omega), ?_⟩; conv => whnf) | (refine ⟨rfl, ?_⟩; conv => whnf) | (refine And.intro (by omega) ?_; conv => whnf))
        refine ⟨⟨j + 1, by omega⟩, Wk.tab [] ⟨⟨rfl, rfl⟩, ⟨rfl, rfl⟩, ⟨rfl, rfl⟩, ⟨rfl, rfl⟩, ⟨rfl, rfl⟩, ⟨rfl, rfl⟩, ⟨rfl, rfl⟩, ⟨rfl, rfl⟩, ⟨rfl, rfl⟩, ⟨rfl, rfl⟩, trivial⟩ ⟨?_, rfl, trivial⟩ rfl, by dsimp only; omega⟩
        show some (Bx.arr 32 3 ((out.map qr).set (0 + (k + j)) (qr (z + x * y))) false) = some (Bx.arr 32 3 ((mulI q x k (mulO p q k) (j + 1)).map qr) false)
        rw [Nat.zero_add, ← List.map_set, hs]
      · have e : j = q.length := by omega
        subst e
        repeat (first | (refine W.RS (by kernel_rfl) ?_; conv => whnf) | (refine W.R (by kernel_rfl) ?_; conv => whnf) | (refine W.S ?_) | (refine W.exit ?_; conv => whnf) | (refine W.condF rfl ?_) | (refine ⟨rfl, _, w64 (by omega), ?_⟩; conv => whnf) | (refine ⟨false, decide_eq_false (by omega), ?_⟩; conv => whnf) | (refine ⟨rfl, ?_⟩; conv => whnf))
        refine ⟨⟨k + 1, by omega⟩, Wk.tab [] ⟨⟨rfl, rfl⟩, ⟨rfl, rfl⟩, ⟨rfl, rfl⟩, ⟨rfl, rfl⟩, ⟨rfl, rfl⟩, trivial⟩ ⟨?_, trivial⟩ rfl, by dsimp only; omega⟩
        show some (Bx.arr 32 3 ((mulI q x k (mulO p q k) q.length).map qr) false) = some (Bx.arr 32 3 ((mulO p q (k + 1)).map qr) false)
        rw [hstep]
  · have e : k = p.length := by omega
    subst e
    have c1 : C J 25 [.sl (((((mulO p q p.length).map qr).drop 0).take (p.length + q.length - 1)))] (pq (trimL (mulO p q p.length))) := by
      rw [List.drop_zero, List.take_of_length_le (by simp [lo])]
      exact t25_ok J (by omega)
    repeat (first | (refine W.RS (by kernel_rfl) ?_; conv => whnf) | (refine W.S ?_) | (refine W.ret ?_; conv => whnf) | (refine W.exit ?_; conv => whnf) | (refine W.condF rfl ?_) | (refine ⟨_, c1, ?_⟩; conv => whnf) | (refine ⟨false, decide_eq_false (by omega), ?_⟩; conv => whnf) | (refine ⟨rfl, ?_⟩; conv => whnf))
    rfl
end Go.Proofs.Fl
namespace Go.Proofs.Fl
open Go.RowKit Go.Proofs.Dig
attribute [local irreducible] IntKind.wrap PureC MutC MakC IterC
theorem trimL_getD : ∀ (p : List Rat) (i : Nat), (trimL p).getD i 0 = p.getD i 0
  | [], i => rfl
  | x :: l, i => by
    have ih := trimL_getD l
    unfold trimL
    split
    · rename_i e
      rw [e] at ih
      have h0 : ∀ i, l.getD i 0 = 0 := fun i => by rw [← ih i]; rfl
      split
      · rename_i hx
        cases i with
        | zero => exact hx.symm
        | succ i => exact (h0 i).symm
      · cases i with
        | zero => rfl
        | succ i => exact (h0 i).symm
    · rename_i y t e
      rw [e] at ih
      cases i with
      | zero => rfl
      | succ i => exact ih i
theorem trimL_ext : ∀ {p q : List Rat}, (∀ i, p.getD i 0 = q.getD i 0) → trimL p = trimL q
  | [], q, h => by rw [trimL_zero (p := q) fun i => (h i).symm]; rfl
  | x :: l, [], h => trimL_zero fun i => h i
  | x :: l, y :: t, h => by
    have h0 : x = y := h 0
    have h1 := trimL_ext (p := l) (q := t) fun i => h (i + 1)
    rw [trimL_cons, trimL_cons, h0, h1]
theorem eachL_getD {n : Nat} {g : Nat → Rat} (h : ∀ i, n ≤ i → g i = 0) (i : Nat) : (eachL n g).getD i 0 = g i := by
  by_cases hi : i < n
  · exact eachL_get hi
  · rw [getD_out (by rw [eachL_len]; omega), h i (by omega)]
theorem step_eq (c : Rat) (v : List Rat) : trimL (eachL (max (trimL (0 :: v)).length (trimL [c]).length) fun i => (trimL (0 :: v)).getD i 0 + (trimL [c]).getD i 0) = trimL (c :: v) := by
  refine trimL_ext fun i => ?_
  rw [eachL_getD fun i hi => by rw [getD_out (by omega), getD_out (by omega), Rat.add_zero]]
  rw [trimL_getD, trimL_getD]
  cases i with
  | zero => exact Rat.zero_add c
  | succ i => exact Rat.add_zero _
theorem t78_nil (J : Keep) (q : List Rat) : C J 78 [pq [], pq q] (pq (trimL [0])) := by
  refine fn_ok Tryz.func78 rfl rfl rfl ?_
  repeat (first | (refine W.RS (by kernel_rfl) ?_; conv => whnf) | (refine W.S ?_) | (refine W.ret ?_; conv => whnf) | (refine W.condT rfl ?_) | (refine ⟨_, rfl, ?_⟩; conv => whnf) | (refine ⟨rfl, ?_⟩; conv => whnf) | (refine ⟨_, fun _ => rfl, fun h => absurd h.symm Bool.false_ne_true, ?_⟩; conv => whnf))
  rfl
theorem mulZ_b {v : List Rat} (hb : ∀ i, qln (v.getD i 0) ≤ 1000) (k i : Nat) : qln ((mulZ v k).getD i 0) ≤ 1000 := by
  rw [mulZ_get]
  split
  · exact hb _
  · exact Nat.le_trans qln_z (by decide)
theorem set_ne {l : List Rat} {i j : Nat} {x : Rat} (h : i ≠ j) : (l.set i x).getD j 0 = l.getD j 0 := by
  simp only [List.getD_eq_getElem?_getD, List.getElem?_set, if_neg h]
theorem mul01 {J : Keep} (B : Base J) {v : List Rat} (hl : v.length < 2 ^ 30) (hb : ∀ i, qln (v.getD i 0) ≤ 1000) : C J 78 [pq v, pq [0, 1]] (pq (trimL (0 :: v))) := by
  by_cases h0 : v = []
  · subst h0; exact t78_nil J _
  · have hp : 0 < v.length := List.length_pos_iff.2 h0
    have := t78_ok B (p := v) (q := [0, 1]) hp (by decide) hl (by decide) hb (fun i => by
      match i with
      | 0 => exact Nat.le_trans qln_z (by decide)
      | 1 => exact Nat.le_trans qln_one (by decide)
      | i + 2 => exact Nat.le_trans qln_z (by decide)) (fun k j hk hj => by
        rw [mulO_z (by omega)]
        have hm := mulZ_b hb k (k + j)
        have hj2 : j ≤ 2 := hj
        match j, hj2 with
        | 0, _ => exact Nat.le_trans hm (by decide)
        | 1, _ => rw [mulI, set_ne (by omega)]; exact Nat.le_trans hm (by decide)
        | 2, _ => rw [mulI, set_ne (by omega), mulI, set_ne (by omega)]; exact Nat.le_trans hm (by decide))
    rw [mulO_z (Nat.le_refl _), mulZ_all] at this
    exact this
theorem t77_ok {J : Keep} (B : Base J) {v : List Rat} {c : Rat} (hl : v.length < 2 ^ 30) (hb : ∀ i, qln (v.getD i 0) ≤ 1000) (hc : qln c ≤ 1000) : EF J 77 [.iv (pq v), .iv (qr c), .ptr 0] [pq [0, 1]] [pq [0, 1]] (pq (trimL (c :: v))) := by
  refine ef_ok Tryz.func77 rfl rfl rfl rfl rfl ?_
  have c1 := mul01 B hl hb
  have c2 := t80_ok J c
  have l1 := trimL_len (0 :: v)
  have l2 := trimL_len [c]
  have l3 : (0 :: v : List Rat).length = v.length + 1 := rfl
  have l4 : ([c] : List Rat).length = 1 := rfl
  have c3 := t79_ok B (p := trimL (0 :: v)) (q := trimL [c]) (by omega) (by omega) (fun i => by
    rw [trimL_getD]
    cases i with
    | zero => exact Nat.lt_of_le_of_lt qln_z (by decide)
    | succ i => exact Nat.lt_of_le_of_lt (hb i) (by decide)) (fun i => by
    rw [trimL_getD]
    cases i with
    | zero => exact Nat.lt_of_le_of_lt hc (by decide)
    | succ i => exact Nat.lt_of_le_of_lt qln_z (by decide))
  rw [step_eq] at c3
  repeat (first | (refine W.RS (by kernel_rfl) ?_; conv => whnf) | (refine W.ret ?_; conv => whnf) | (refine ⟨_, c1, ?_⟩; conv => whnf) | (refine ⟨_, c2, ?_⟩; conv => whnf) | (refine ⟨_, c3, ?_⟩; conv => whnf) | (refine ⟨rfl, ?_⟩; conv => whnf))
  exact trivial
def shZ (p : List Rat) (k : Nat) : List Rat := trimL (p.drop (p.length - k))
theorem shZ_succ {p : List Rat} {k : Nat} (h : k < p.length) : trimL (p.getD (p.length - 1 - k) 0 :: shZ p k) = shZ p (k + 1) := by
  unfold shZ
  rw [trimL_cons, trimL_trimL, ← trimL_cons]
  congr 1
  rw [show p.length - (k + 1) = p.length - 1 - k by omega, List.drop_eq_getElem_cons (show p.length - 1 - k < p.length by omega)]
  rw [show p.length - 1 - k + 1 = p.length - k by omega]
  congr 1
  simp [List.getD_eq_getElem?_getD, List.getElem?_eq_getElem (show p.length - 1 - k < p.length by omega)]
theorem t76_ok {J : Keep} {p : List Rat} (hl : p.length < 2 ^ 60) {z : IV} {v : Nat → List Rat} (hs : ∀ k, k < p.length → EF J 77 [.iv (pq (v k)), .iv (qr (p.getD (p.length - 1 - k) 0)), .ptr 0] [z] [z] (pq (v (k + 1)))) : EF J 76 [.iv (pq p), .iv (pq (v 0)), .clo 77 [0]] [z] [z] (pq (v p.length)) := by
  refine ef_ok (J := J.top) Tryz.func76 rfl rfl rfl rfl rfl ?_
  refine W.nameClo 2 rfl fun u => ?_
  repeat (first | (refine W.RS (by kernel_rfl) ?_; conv => whnf) | (refine W.S ?_) | (refine W.block ?_) | (refine ⟨156, [pq p], t113_ok J _, rfl, ?_⟩; conv => whnf))
  refine W.weak (σ' := mkA [(2, .cv u 77 [pinId]), (4, .ptr (pinId + 1) 0), (5, .ptr (pinId + 2) 0), (10, .clo 156 [4])] [(pinId, .var z), (pinId + 1, .var (pq (v 0))), (pinId + 2, .var (.val u)), (4, .var (pq p))] 60) (Wk.tab [(pinId + 1, 0), (pinId + 2, 1)] ⟨⟨rfl, rfl⟩, ⟨rfl, rfl⟩, ⟨rfl, rfl⟩, ⟨rfl, rfl⟩, trivial⟩ ⟨rfl, rfl, rfl, rfl, trivial⟩ rfl) ?_
  refine W.rangeS (c := none) (t156_ok J hl) [pinId, pinId + 1, pinId + 2] [(2, .cv u 77 [pinId]), (4, .ptr (pinId + 1) 0), (5, .ptr (pinId + 2) 0)] (fun k => [(pinId, .var z), (pinId + 1, .var (pq (v k))), (pinId + 2, .var (.val u))]) 60 rfl ⟨rfl, trivial⟩ (by simp) rfl backQ_two (fun _ => rfl) (fun _ => by intro p hp; simp at hp; rcases hp with rfl | rfl | rfl <;> rfl) rfl ⟨rfl, rfl, rfl, trivial⟩ rfl ⟨rfl, rfl, rfl, trivial⟩ rfl rfl (fun k hk => ?_) (.inl rfl) ?_
  · rw [backQ_at hk, pend_none]
    rw [backQ_len] at hk
    show W J.any _ _ ⟨putsL (tbS [(2, .cv u 77 [pinId]), (4, .ptr (pinId + 1) 0), (5, .ptr (pinId + 2) 0)]) [11, 12] [.int .i64 ((p.length - 1 - k : Nat) : Int), qr (p.getD (p.length - 1 - k) 0)], tbB [(pinId, .var z), (pinId + 1, .var (pq (v k))), (pinId + 2, .var (.val u))], 60⟩ _
    have c1 := hs k hk
    obtain ⟨y, hy⟩ : ∃ y, p.getD (p.length - 1 - k) 0 = y := ⟨_, rfl⟩
    rw [hy] at c1 ⊢
    repeat (first | (refine W.effV 3 2 [pinId] rfl rfl rfl rfl ?_; conv => whnf) | (refine W.R (by kernel_rfl) ?_; conv => whnf) | (refine W.block ?_) | (refine ⟨[0], [z], [z], _, rfl, rfl, ⟨rfl, trivial⟩, by simp, c1, ?_⟩; conv => whnf) | (refine ⟨rfl, ?_⟩; conv => whnf))
    exact trivial
  · rw [backQ_len]
    repeat (first | (refine W.RS (by kernel_rfl) ?_; conv => whnf) | (refine W.ret ?_; conv => whnf) | (refine ⟨rfl, ?_⟩; conv => whnf))
    exact trivial
theorem t51_ok {J : Keep} (B : Base J) {p : List Rat} (hl : p.length < 2 ^ 30) (hb : ∀ i, qln (p.getD i 0) ≤ 1000) : C J 51 [pq p, pq [0, 1]] (pq (trimL p)) := by
  refine fn_ok Tryz.func51 rfl rfl rfl ?_
  have c1 := t76_ok (J := J) (p := p) (by omega) (z := pq [0, 1]) (v := shZ p) (fun k hk => by
    have l1 := trimL_len (p.drop (p.length - k))
    rw [List.length_drop] at l1
    have := t77_ok B (v := shZ p k) (c := p.getD (p.length - 1 - k) 0) (by unfold shZ; omega) (fun i => by
      unfold shZ
      rw [trimL_getD]
      have : (p.drop (p.length - k)).getD i 0 = p.getD (p.length - k + i) 0 := by simp [List.getD_eq_getElem?_getD]
      rw [this]; exact hb _) (hb _)
    rw [shZ_succ hk] at this
    exact this)
  have e0 : shZ p 0 = [] := by unfold shZ; rw [Nat.sub_zero, List.drop_length]; rfl
  have e1 : shZ p p.length = trimL p := by unfold shZ; rw [Nat.sub_self, List.drop_zero]
  rw [e0, e1] at c1
  have c1 : EF J 76 [.iv (pq p), .iv (.sl []), .clo 77 [0]] [pq [0, 1]] [pq [0, 1]] (pq (trimL p)) := c1
  repeat (first | (refine W.S ?_; refine W.eff 2 [0] rfl rfl rfl rfl ?_; conv => whnf) | (refine W.RS (by kernel_rfl) ?_; conv => whnf) | (refine W.ret ?_; conv => whnf) | (refine ⟨[], [pq [0, 1]], [pq [0, 1]], _, rfl, ⟨rfl, trivial⟩, by simp, c1, ?_⟩; conv => whnf))
  rfl
theorem t28_ok {J : Keep} (B : Base J) {p : List Rat} (hl : p.length < 2 ^ 30) (hb : ∀ i, qln (p.getD i 0) ≤ 1000) : C J 28 [pq p, qr 0] (pq (trimL p)) := by
  refine fn_ok Tryz.func28 rfl rfl rfl ?_
  have c1 := t52_ok J 0
  have c2 := t51_ok B hl hb
  repeat (first | (refine W.RS (by kernel_rfl) ?_; conv => whnf) | (refine W.ret ?_; conv => whnf) | (refine ⟨_, c1, ?_⟩; conv => whnf) | (refine ⟨_, c2, ?_⟩; conv => whnf))
  rfl
end Go.Proofs.Fl
namespace Go.Proofs.Fl
open Go.RowKit Go.Proofs.Dig
attribute [local irreducible] IntKind.wrap PureC MutC MakC IterC
theorem one3 {x : Rat} : ∀ y ∈ [qr x], y.cells.length = 3 ∧ y.isTup = false := by
  intro y hy
  rw [List.mem_singleton.1 hy]
  exact ⟨rfl, rfl⟩
def intQ (l : List Int) : List Rat := List.map (fun (z : Int) => (z : Rat)) l
theorem intQ_snoc {l : List Int} {k : Nat} (h : k < l.length) : intQ (l.take (k + 1)) = intQ (l.take k) ++ [((l.getD k 0 : Int) : Rat)] := by
  unfold intQ
  rw [List.take_add_one, List.map_append, List.getElem?_eq_getElem h]
  congr 1
  simp [List.getD, h]
theorem getz {l : List Int} {k : Nat} (h : k < l.length) : (l.map (IV.int .i64))[k]? = some (.int .i64 (l.getD k 0)) := by simp [h]
theorem t10_ok (J : Keep) {l : List Int} (hl : l.length < 2 ^ 30) (h1 : ∀ i, -9223372036854775808 ≤ l.getD i 0) (h2 : ∀ i, l.getD i 0 ≤ 9223372036854775807) : C J 10 [.sl (l.map (IV.int .i64))] (pq (trimL (intQ l))) := by
  refine fn_ok Tryz.func10 rfl rfl rfl ?_
  have lm : (l.map (IV.int .i64)).length = l.length := by simp
  repeat (first | (refine W.RS (by kernel_rfl) ?_; conv => whnf) | (refine W.S ?_) | (refine W.block ?_) | (refine ⟨_, rfl, ?_⟩; conv => whnf))
  refine W.loop (G := { k : Nat // k ≤ l.length }) (fun k => mkA [(3, match k.1 with | 0 => .nilS | n + 1 => .ref 0 0 (n + 1) true), (6, .iv (.sl (l.map (IV.int .i64)))), (7, .iv (.int .i64 (l.length : Nat))), (8, .iv (.int .i64 (k.1 : Nat)))] (match k.1 with | 0 => [] | n + 1 => [(0, .arr 32 3 ((intQ (l.take (n + 1))).map qr) false)]) 20) (fun k => l.length - k.1) ⟨0, Nat.zero_le _⟩
    (Wk.tab [] ⟨⟨rfl, rfl⟩, ⟨rfl, rfl⟩, ⟨ivEq (by rw [lm]), rfl⟩, ⟨rfl, rfl⟩, trivial⟩ trivial rfl) ?_
  rintro ⟨k, hk⟩
  by_cases h : k < l.length
  · have hg := getz h
    have c1 := f61_ok J (n := l.getD k 0) (h1 k) (h2 k)
    have hs := intQ_snoc h
    obtain ⟨z, hz⟩ : ∃ z, l.getD k 0 = z := ⟨_, rfl⟩
    rw [hz] at hg c1 hs
    cases k with
    | zero =>
      show W J _ _ (mkA [(3, .nilS), (6, .iv (.sl (l.map (IV.int .i64)))), (7, .iv (.int .i64 (l.length : Nat))), (8, .iv (.int .i64 ((0 : Nat) : Int)))] [] 20) _
      repeat (first | (refine W.RS (by kernel_rfl) ?_; conv => whnf) | (refine W.R (by kernel_rfl) ?_; conv => whnf) | (refine W.S ?_) | (refine W.block ?_) | (refine W.skip ?_; conv => whnf) | (refine W.condT rfl ?_) | (refine ⟨_, c1, ?_⟩; conv => whnf) | (refine ⟨0, _, rfl, hg, rfl, ?_⟩; conv => whnf) | (refine ⟨false, rfl, one3, Nat.le_of_ble_eq_true rfl, Nat.le_of_ble_eq_true rfl, ?_⟩; conv => whnf) | (refine ⟨rfl, _, w64 (by omega), ?_⟩; conv => whnf) | (refine ⟨true, decide_eq_true (by omega), ?_⟩; conv => whnf) | (refine ⟨rfl, ?_⟩; conv => whnf))
      refine ⟨⟨1, by omega⟩, Wk.tab [(0, 28)] ⟨⟨rfl, rfl⟩, ⟨rfl, rfl⟩, ⟨rfl, rfl⟩, ⟨rfl, rfl⟩, trivial⟩ ⟨?_, trivial⟩ rfl, by dsimp only; omega⟩
      show some (Bx.arr 32 3 [qr (z : Rat)] false) = some (Bx.arr 32 3 ((intQ (l.take (0 + 1))).map qr) false)
      rw [hs]; rfl
    | succ n =>
      show W J _ _ (mkA [(3, .ref 0 0 (n + 1) true), (6, .iv (.sl (l.map (IV.int .i64)))), (7, .iv (.int .i64 (l.length : Nat))), (8, .iv (.int .i64 ((n + 1 : Nat) : Int)))] [(0, .arr 32 3 ((intQ (l.take (n + 1))).map qr) false)] 20) _
      have ln : n + 1 = ((intQ (l.take (n + 1))).map qr).length := by simp [intQ]; omega
      repeat (first | (refine W.RS (by kernel_rfl) ?_; conv => whnf) | (refine W.R (by kernel_rfl) ?_; conv => whnf) | (refine W.S ?_) | (refine W.block ?_) | (refine W.skip ?_; conv => whnf) | (refine W.condT rfl ?_) | (refine ⟨_, c1, ?_⟩; conv => whnf) | (refine ⟨n + 1, _, rfl, hg, rfl, ?_⟩; conv => whnf) | (refine ⟨by simp, rfl, rfl, ln, one3, by show (n + 1 + 1) * 56 ≤ (140737488355328 : Nat); omega, by unfold maxLen; show n + 1 + 1 ≤ _; omega, ?_⟩; conv => whnf) | (refine ⟨rfl, _, w64 (by omega), ?_⟩; conv => whnf) | (refine ⟨true, decide_eq_true (by omega), ?_⟩; conv => whnf) | (refine ⟨rfl, ?_⟩; conv => whnf))
      refine ⟨⟨n + 2, by omega⟩, Wk.tab [(0, 28)] ⟨⟨rfl, rfl⟩, ⟨rfl, rfl⟩, ⟨rfl, rfl⟩, ⟨rfl, rfl⟩, trivial⟩ ⟨?_, trivial⟩ rfl, by dsimp only; omega⟩
      show some (Bx.arr 32 3 ((intQ (l.take (n + 1))).map qr ++ [qr (z : Rat)]) false) = some (Bx.arr 32 3 ((intQ (l.take (n + 1 + 1))).map qr) false)
      rw [hs, List.map_append]; rfl
  · have e : k = l.length := by omega
    subst e
    have c1 : ∀ q : List Rat, q.length < 2 ^ 36 → C J 25 [pq q] (pq (trimL q)) := fun q hq => t25_ok J hq
    cases l with
    | nil =>
      show W J _ _ (mkA [(3, .nilS), (6, .iv (.sl [])), (7, .iv (.int .i64 ((0 : Nat) : Int))), (8, .iv (.int .i64 ((0 : Nat) : Int)))] [] 20) _
      have c1 := c1 [] (by decide)
      repeat (first | (refine W.RS (by kernel_rfl) ?_; conv => whnf) | (refine W.S ?_) | (refine W.ret ?_; conv => whnf) | (refine W.exit ?_; conv => whnf) | (refine W.condF rfl ?_) | (refine ⟨_, c1, ?_⟩; conv => whnf) | (refine ⟨false, decide_eq_false (by omega), ?_⟩; conv => whnf) | (refine ⟨rfl, ?_⟩; conv => whnf))
      rfl
    | cons x t =>
      show W J _ _ (mkA [(3, .ref 0 0 (t.length + 1) true), (6, .iv (.sl ((x :: t).map (IV.int .i64)))), (7, .iv (.int .i64 ((t.length + 1 : Nat) : Int))), (8, .iv (.int .i64 ((t.length + 1 : Nat) : Int)))] [(0, .arr 32 3 ((intQ ((x :: t).take (t.length + 1))).map qr) false)] 20) _
      have e2 : (x :: t).take (t.length + 1) = x :: t := List.take_of_length_le (by simp)
      rw [e2]
      have c1 : C J 25 [.sl ((((intQ (x :: t)).map qr).drop 0).take (t.length + 1))] (pq (trimL (intQ (x :: t)))) := by
        rw [List.drop_zero, List.take_of_length_le (by simp [intQ])]
        exact c1 _ (by simp [intQ] at hl ⊢; omega)
      repeat (first | (refine W.RS (by kernel_rfl) ?_; conv => whnf) | (refine W.S ?_) | (refine W.ret ?_; conv => whnf) | (refine W.exit ?_; conv => whnf) | (refine W.condF rfl ?_) | (refine ⟨_, c1, ?_⟩; conv => whnf) | (refine ⟨false, decide_eq_false (by omega), ?_⟩; conv => whnf) | (refine ⟨rfl, ?_⟩; conv => whnf))
      rfl
end Go.Proofs.Fl
namespace Go.Proofs.Fl
open Go.RowKit Go.Proofs.Dig
attribute [local irreducible] IntKind.wrap PureC MutC MakC IterC
noncomputable abbrev pe (e : List (List Rat)) : IV := .sl (e.map pq)
noncomputable abbrev fnI (e : List (List Rat)) (y : List Rat) : IV := .agg [pe e, .sl [], .bool false, .sl [], .sl (y.map qr)]
theorem t48_ok (J : Keep) {p : List Rat} (hl : p.length ≤ 41) : C J 48 [pq p] (.bool false) := by
  refine fn_ok Tryz.func48 rfl rfl rfl ?_
  have c1 := t49_ok J (p := p) (by omega)
  have l1 := trimL_len p
  repeat (first | (refine W.RS (by kernel_rfl) ?_; conv => whnf) | (refine W.ret ?_; conv => whnf) | (refine ⟨_, c1, ?_⟩; conv => whnf) | (refine ⟨false, decide_eq_false (by omega), ?_⟩; conv => whnf) | (refine ⟨rfl, ?_⟩; conv => whnf))
  rfl
theorem gete {e : List (List Rat)} {k : Nat} (h : k < e.length) : (e.map pq)[k]? = some (pq (e.getD k [])) := by simp [h]
theorem t72_ok (J : Keep) {e : List (List Rat)} (hl : e.length < 2 ^ 30) (hd : ∀ k, (e.getD k []).length ≤ 41) : C J 72 [pe e, .fn 48] (.int .i64 (-1)) := by
  refine fn_ok Tryz.func72 rfl rfl rfl ?_
  have lm : (e.map pq).length = e.length := by simp
  repeat (first | (refine W.RS (by kernel_rfl) ?_; conv => whnf) | (refine W.S ?_) | (refine W.block ?_) | (refine ⟨_, rfl, ?_⟩; conv => whnf))
  refine W.loop (G := { k : Nat // k ≤ e.length }) (fun k => mkA [(0, .iv (pe e)), (1, .iv (.fn 48)), (7, .iv (.int .i64 (e.length : Nat))), (8, .iv (.int .i64 (k.1 : Nat)))] [] 20) (fun k => e.length - k.1) ⟨0, Nat.zero_le _⟩
    (Wk.tab [] ⟨⟨rfl, rfl⟩, ⟨rfl, rfl⟩, ⟨ivEq (by rw [lm]), rfl⟩, ⟨rfl, rfl⟩, trivial⟩ trivial rfl) ?_
  rintro ⟨k, hk⟩
  show W J _ _ (mkA [(0, .iv (pe e)), (1, .iv (.fn 48)), (7, .iv (.int .i64 (e.length : Nat))), (8, .iv (.int .i64 (k : Nat)))] [] 20) _
  by_cases h : k < e.length
  · have hg := gete h
    have c1 := t48_ok J (hd k)
    repeat (first | (refine W.RS (by kernel_rfl) ?_; conv => whnf) | (refine W.R (by kernel_rfl) ?_; conv => whnf) | (refine W.S ?_) | (refine W.block ?_) | (refine W.skip ?_; conv => whnf) | (refine W.condF rfl ?_) | (refine W.condT rfl ?_) | (refine ⟨_, c1, ?_⟩; conv => whnf) | (refine ⟨k, _, rfl, hg, rfl, ?_⟩; conv => whnf) | (refine ⟨rfl, _, w64 (by omega), ?_⟩; conv => whnf) | (refine ⟨true, decide_eq_true (by omega), ?_⟩; conv => whnf) | (refine ⟨rfl, ?_⟩; conv => whnf))
    exact ⟨⟨k + 1, by omega⟩, Wk.tab [] ⟨⟨rfl, rfl⟩, ⟨rfl, rfl⟩, ⟨rfl, rfl⟩, ⟨rfl, rfl⟩, trivial⟩ trivial rfl, by dsimp only; omega⟩
  · repeat (first | (refine W.RS (by kernel_rfl) ?_; conv => whnf) | (refine W.S ?_) | (refine W.ret ?_; conv => whnf) | (refine W.exit ?_; conv => whnf) | (refine W.condF rfl ?_) | (refine ⟨false, decide_eq_false (by omega), ?_⟩; conv => whnf) | (refine ⟨rfl, ?_⟩; conv => whnf))
    rfl
theorem t47_ok (J : Keep) {e : List (List Rat)} (hl : e.length < 2 ^ 30) (hd : ∀ k, (e.getD k []).length ≤ 41) : C J 47 [pe e, .fn 48] (.bool false) := by
  refine fn_ok Tryz.func47 rfl rfl rfl ?_
  have c1 := t72_ok J hl hd
  repeat (first | (refine W.RS (by kernel_rfl) ?_; conv => whnf) | (refine W.ret ?_; conv => whnf) | (refine ⟨_, c1, ?_⟩; conv => whnf) | (refine ⟨false, decide_eq_false (by omega), ?_⟩; conv => whnf) | (refine ⟨rfl, ?_⟩; conv => whnf))
  rfl
structure EqOk (e : List (List Rat)) : Prop where
  two : 2 ≤ e.length
  five : e.length ≤ 5
  deg : ∀ k, (e.getD k []).length ≤ 41
  size : ∀ k i, qln ((e.getD k []).getD i 0) ≤ 1000
  lead : (e.getD (e.length - 1) []).getD 0 0 ≠ 0
theorem EqOk.trim {e : List (List Rat)} (h : EqOk e) : 1 ≤ (trimL (e.getD (e.length - 1) [])).length := by
  rcases Nat.lt_or_ge 0 (trimL (e.getD (e.length - 1) [])).length with h1 | h1
  · exact h1
  · have h2 := trimL_getD (e.getD (e.length - 1) []) 0
    rw [getD_out (by omega)] at h2
    exact absurd h2.symm h.lead
theorem t26_ok (J : Keep) {e : List (List Rat)} (h : EqOk e) : C J 26 [pe e] (.int .i64 0) := by
  refine fn_ok Tryz.func26 rfl rfl rfl ?_
  have lm : (e.map pq).length = e.length := by simp
  have h2 := h.two
  have h5 := h.five
  have c1 := t47_ok J (e := e) (by omega) h.deg
  have hg := gete (e := e) (k := e.length - 1) (by omega)
  have hd := h.deg (e.length - 1)
  have ht := h.trim
  obtain ⟨p, hp⟩ : ∃ p, e.getD (e.length - 1) [] = p := ⟨_, rfl⟩
  rw [hp] at hg hd ht
  have c2 := t49_ok J (p := p) (by omega)
  have hj : ((e.length - 1 : Nat) : Int) = ((e.map pq).length : Int) - 1 := by omega
  repeat (first | (refine W.RS (by kernel_rfl) ?_; conv => whnf) | (refine W.S ?_) | (refine W.ret ?_; conv => whnf) | (refine W.skip ?_; conv => whnf) | (refine W.condF rfl ?_) | (refine ⟨_, c1, ?_⟩; conv => whnf) | (refine ⟨_, c2, ?_⟩; conv => whnf) | (refine ⟨e.length - 1, _, hj.symm, hg, rfl, ?_⟩; conv => whnf) | (refine ⟨rfl, _, w64 (by omega), ?_⟩; conv => whnf) | (refine ⟨false, decide_eq_false (by omega), ?_⟩; conv => whnf) | (refine ⟨_, rfl, ?_⟩; conv => whnf) | (refine ⟨rfl, ?_⟩; conv => whnf) | (refine ⟨_, fun h => absurd h Bool.false_ne_true, fun _ => rfl, ?_⟩; conv => whnf))
  rfl
theorem t27_ok {J : Keep} (B : Base J) {e : List (List Rat)} (h : EqOk e) : C J 27 [pe e, qr 0] (.bool true) := by
  refine fn_ok Tryz.func27 rfl rfl rfl ?_
  have lm : (e.map pq).length = e.length := by simp
  have h2 := h.two
  have h5 := h.five
  have hg := gete (e := e) (k := e.length - 1) (by omega)
  have hd := h.deg (e.length - 1)
  have hs := h.size (e.length - 1)
  have ht := h.lead
  obtain ⟨p, hp⟩ : ∃ p, e.getD (e.length - 1) [] = p := ⟨_, rfl⟩
  rw [hp] at hg hd ht hs
  have c1 := t50_ok B (p := p) (by omega) hs
  have c2 := f22_ok J (p.getD 0 0)
  have hc := cmp_ne ht
  obtain ⟨c, hc'⟩ : ∃ c, cmpI (p.getD 0 0).num 0 = c := ⟨_, rfl⟩
  rw [hc'] at c2 hc
  have hj : ((e.length - 1 : Nat) : Int) = ((e.map pq).length : Int) - 1 := by omega
  repeat (first | (refine W.RS (by kernel_rfl) ?_; conv => whnf) | (refine W.ret ?_; conv => whnf) | (refine ⟨_, c1, ?_⟩; conv => whnf) | (refine ⟨_, c2, ?_⟩; conv => whnf) | (refine ⟨e.length - 1, _, hj.symm, hg, rfl, ?_⟩; conv => whnf) | (refine ⟨rfl, _, w64 (by omega), ?_⟩; conv => whnf) | (refine ⟨true, bne_iff_ne.2 (by omega), ?_⟩; conv => whnf) | (refine ⟨_, rfl, ?_⟩; conv => whnf) | (refine ⟨rfl, ?_⟩; conv => whnf))
  rfl
theorem t12_ok {J : Keep} (B : Base J) {e : List (List Rat)} {y : List Rat} (h : EqOk e) (hy : y.length = e.length - 1) : C J 12 [fnI e y] (.int .i64 0) := by
  refine fn_ok Tryz.func12 rfl rfl rfl ?_
  have lm : (e.map pq).length = e.length := by simp
  have ly : (y.map qr).length = y.length := by simp
  have h2 := h.two
  have h5 := h.five
  have c1 := t26_ok J h
  have c2 := t27_ok B h
  rw [dg_zero_qr] at c2
  repeat (first | (refine W.RS (by kernel_rfl) ?_; conv => whnf) | (refine W.S ?_) | (refine W.ret ?_; conv => whnf) | (refine W.skip ?_; conv => whnf) | (refine W.condF rfl ?_) | (refine ⟨_, c1, ?_⟩; conv => whnf) | (refine ⟨_, c2, ?_⟩; conv => whnf) | (refine ⟨rfl, _, w64 (by omega), ?_⟩; conv => whnf) | (refine ⟨false, bne_eq_false_iff_eq.2 (by omega), ?_⟩; conv => whnf) | (refine ⟨_, rfl, ?_⟩; conv => whnf) | (refine ⟨rfl, ?_⟩; conv => whnf) | (refine ⟨_, fun h => absurd h Bool.false_ne_true, fun _ => rfl, ?_⟩; conv => whnf))
  rfl
end Go.Proofs.Fl
namespace Go.Proofs.Fl
open Go.RowKit Go.Proofs.Dig
attribute [local irreducible] IntKind.wrap PureC MutC MakC IterC
theorem W.wkRS {J : Keep} {nt id : Nat} {σ σ' : AS} {K : Exit → AS → Prop} {all : Array Oper} {draw : Bool} {y : Code} (hw : Wk σ σ') (h0 : regOk nt all draw = true) (h : regP (cx J) all draw σ' fun σ' => W J nt y σ' K) : W J nt (.seq (.region id all draw) y) σ K :=
  W.weak hw (W.RS h0 h)
theorem inm1_ok (J : Keep) : C J 10 [.sl [.int .i64 (-1)]] (pq [-1]) := by
  have h := t10_ok J (l := [-1]) (by decide) (fun i => by match i with | 0 => decide | _ + 1 => exact (by decide : (-9223372036854775808 : Int) ≤ 0)) (fun i => by match i with | 0 => decide | _ + 1 => exact (by decide : (0 : Int) ≤ 9223372036854775807))
  have e : trimL (intQ [-1]) = [-1] := by decide +kernel
  rw [e] at h
  exact h
theorem in1_ok (J : Keep) : C J 10 [.sl [.int .i64 (1)]] (pq [1]) := by
  have h := t10_ok J (l := [1]) (by decide) (fun i => by match i with | 0 => decide | _ + 1 => exact (by decide : (-9223372036854775808 : Int) ≤ 0)) (fun i => by match i with | 0 => decide | _ + 1 => exact (by decide : (0 : Int) ≤ 9223372036854775807))
  have e : trimL (intQ [1]) = [1] := by decide +kernel
  rw [e] at h
  exact h
theorem in02_ok (J : Keep) : C J 10 [.sl [.int .i64 (0), .int .i64 (2)]] (pq [0, 2]) := by
  have h := t10_ok J (l := [0, 2]) (by decide) (fun i => by match i with | 0 => decide | 1 => decide | _ + 2 => exact (by decide : (-9223372036854775808 : Int) ≤ 0)) (fun i => by match i with | 0 => decide | 1 => decide | _ + 2 => exact (by decide : (0 : Int) ≤ 9223372036854775807))
  have e : trimL (intQ [0, 2]) = [0, 2] := by decide +kernel
  rw [e] at h
  exact h
theorem in11_ok (J : Keep) : C J 10 [.sl [.int .i64 (1), .int .i64 (1)]] (pq [1, 1]) := by
  have h := t10_ok J (l := [1, 1]) (by decide) (fun i => by match i with | 0 => decide | 1 => decide | _ + 2 => exact (by decide : (-9223372036854775808 : Int) ≤ 0)) (fun i => by match i with | 0 => decide | 1 => decide | _ + 2 => exact (by decide : (0 : Int) ≤ 9223372036854775807))
  have e : trimL (intQ [1, 1]) = [1, 1] := by decide +kernel
  rw [e] at h
  exact h
theorem in101_ok (J : Keep) : C J 10 [.sl [.int .i64 (1), .int .i64 (0), .int .i64 (1)]] (pq [1, 0, 1]) := by
  have h := t10_ok J (l := [1, 0, 1]) (by decide) (fun i => by match i with | 0 => decide | 1 => decide | 2 => decide | _ + 3 => exact (by decide : (-9223372036854775808 : Int) ≤ 0)) (fun i => by match i with | 0 => decide | 1 => decide | 2 => decide | _ + 3 => exact (by decide : (0 : Int) ≤ 9223372036854775807))
  have e : trimL (intQ [1, 0, 1]) = [1, 0, 1] := by decide +kernel
  rw [e] at h
  exact h
def eqK1 : List (List Rat) := [[-1], [1]]
set_option maxHeartbeats 1000000 in
theorem t4_1 (J : Keep) : C J 4 [.int .u8 1, .int .i64 0] (.tup [fnI eqK1 [1], .int .i64 0]) := by
  refine fn_ok Tryz.func4 rfl rfl rfl ?_
  have c0 := f61_ok J (n := 1) (by decide) (by decide)
  have c1 := inm1_ok J
  have c2 := in1_ok J
  repeat (first | (refine W.wkRS (id := 7) (σ' := mkA [(0, .iv (.int .u8 1)), (4, .ptr 0 0), (5, .iv (.int .i64 0)), (7, .ptr 1 0)] [(0, .var (.agg [.sl [], .sl [], .bool false, .sl [], .sl []])), (1, .var (.agg [.sl [], .sl [], .bool false, .sl [], .sl [.agg [.sl [], .bool false, .sl []], qr 1]]))] 30) (Wk.tab [(1, 20)] ⟨⟨rfl, rfl⟩, ⟨rfl, rfl⟩, ⟨rfl, rfl⟩, ⟨rfl, rfl⟩, trivial⟩ ⟨rfl, rfl, trivial⟩ rfl) (by kernel_rfl) ?_; conv => whnf) | (refine W.RS (by kernel_rfl) ?_; conv => whnf) | (refine W.S ?_) | (refine W.block ?_) | (refine W.ret ?_; conv => whnf) | (refine W.skip ?_; conv => whnf) | (refine W.condF rfl ?_) | (refine W.condT rfl ?_) | (refine ⟨_, c0, ?_⟩; conv => whnf) | (refine ⟨_, c1, ?_⟩; conv => whnf) | (refine ⟨_, c2, ?_⟩; conv => whnf) | (refine ⟨true, decide_eq_true (by omega), ?_⟩; conv => whnf) | (refine ⟨false, decide_eq_false (by omega), ?_⟩; conv => whnf) | (refine ⟨rfl, ?_⟩; conv => whnf) | (refine ⟨_, fun h => absurd h Bool.false_ne_true, fun _ => rfl, ?_⟩; conv => whnf))
  rfl
def eqK2 : List (List Rat) := [[1], [], [1]]
set_option maxHeartbeats 1000000 in
theorem t4_2 (J : Keep) : C J 4 [.int .u8 2, .int .i64 0] (.tup [fnI eqK2 [0, 1], .int .i64 0]) := by
  refine fn_ok Tryz.func4 rfl rfl rfl ?_
  have c0 := f61_ok J (n := 1) (by decide) (by decide)
  have c1 := in1_ok J
  repeat (first | (refine W.wkRS (id := 7) (σ' := mkA [(0, .iv (.int .u8 2)), (4, .ptr 0 0), (5, .iv (.int .i64 0)), (7, .ptr 1 0)] [(0, .var (.agg [.sl [], .sl [], .bool false, .sl [], .sl []])), (1, .var (.agg [.sl [], .sl [], .bool false, .sl [], .sl [.agg [.sl [], .bool false, .sl []], qr 1]]))] 30) (Wk.tab [(1, 20)] ⟨⟨rfl, rfl⟩, ⟨rfl, rfl⟩, ⟨rfl, rfl⟩, ⟨rfl, rfl⟩, trivial⟩ ⟨rfl, rfl, trivial⟩ rfl) (by kernel_rfl) ?_; conv => whnf) | (refine W.wkRS (id := 24) (σ' := mkA [(0, .iv (.int .u8 2)), (4, .ptr 0 0), (5, .iv (.int .i64 0)), (7, .ptr 1 0)] [(0, .var (.agg [.sl [], .sl [], .bool false, .sl [], .sl []])), (1, .var (.agg [pe eqK2, .sl [], .bool false, .sl [], .sl [.agg [.sl [], .bool false, .sl []], qr 1]]))] 30) (Wk.tab [] ⟨⟨rfl, rfl⟩, ⟨rfl, rfl⟩, ⟨rfl, rfl⟩, ⟨rfl, rfl⟩, trivial⟩ ⟨rfl, rfl, trivial⟩ rfl) (by kernel_rfl) ?_; conv => whnf) | (refine W.RS (by kernel_rfl) ?_; conv => whnf) | (refine W.R (by kernel_rfl) ?_; conv => whnf) | (refine W.S ?_) | (refine W.block ?_) | (refine W.ret ?_; conv => whnf) | (refine W.skip ?_; conv => whnf) | (refine W.condF rfl ?_) | (refine W.condT rfl ?_) | (refine ⟨_, c0, ?_⟩; conv => whnf) | (refine ⟨_, c1, ?_⟩; conv => whnf) | (refine ⟨true, decide_eq_true (by omega), ?_⟩; conv => whnf) | (refine ⟨false, decide_eq_false (by omega), ?_⟩; conv => whnf) | (refine ⟨rfl, ?_⟩; conv => whnf) | (refine ⟨_, fun h => absurd h Bool.false_ne_true, fun _ => rfl, ?_⟩; conv => whnf))
  exact congrArg (fun z => IV.tup [.agg [pe eqK2, .sl [], .bool false, .sl [], .sl [z, qr 1]], .int .i64 0]) dg_zero_qr.symm
def eqK4 : List (List Rat) := [[], [0, 2], [1]]
set_option maxHeartbeats 1000000 in
theorem t4_4 (J : Keep) : C J 4 [.int .u8 4, .int .i64 0] (.tup [fnI eqK4 [0, 1], .int .i64 0]) := by
  refine fn_ok Tryz.func4 rfl rfl rfl ?_
  have c0 := f61_ok J (n := 1) (by decide) (by decide)
  have c1 := in02_ok J
  have c2 := in1_ok J
  repeat (first | (refine W.wkRS (id := 7) (σ' := mkA [(0, .iv (.int .u8 4)), (4, .ptr 0 0), (5, .iv (.int .i64 0)), (7, .ptr 1 0)] [(0, .var (.agg [.sl [], .sl [], .bool false, .sl [], .sl []])), (1, .var (.agg [.sl [], .sl [], .bool false, .sl [], .sl [.agg [.sl [], .bool false, .sl []], qr 1]]))] 30) (Wk.tab [(1, 20)] ⟨⟨rfl, rfl⟩, ⟨rfl, rfl⟩, ⟨rfl, rfl⟩, ⟨rfl, rfl⟩, trivial⟩ ⟨rfl, rfl, trivial⟩ rfl) (by kernel_rfl) ?_; conv => whnf) | (refine W.wkRS (id := 24) (σ' := mkA [(0, .iv (.int .u8 4)), (4, .ptr 0 0), (5, .iv (.int .i64 0)), (7, .ptr 1 0)] [(0, .var (.agg [.sl [], .sl [], .bool false, .sl [], .sl []])), (1, .var (.agg [pe eqK4, .sl [], .bool false, .sl [], .sl [.agg [.sl [], .bool false, .sl []], qr 1]]))] 30) (Wk.tab [] ⟨⟨rfl, rfl⟩, ⟨rfl, rfl⟩, ⟨rfl, rfl⟩, ⟨rfl, rfl⟩, trivial⟩ ⟨rfl, rfl, trivial⟩ rfl) (by kernel_rfl) ?_; conv => whnf) | (refine W.RS (by kernel_rfl) ?_; conv => whnf) | (refine W.R (by kernel_rfl) ?_; conv => whnf) | (refine W.S ?_) | (refine W.block ?_) | (refine W.ret ?_; conv => whnf) | (refine W.skip ?_; conv => whnf) | (refine W.condF rfl ?_) | (refine W.condT rfl ?_) | (refine ⟨_, c0, ?_⟩; conv => whnf) | (refine ⟨_, c1, ?_⟩; conv => whnf) | (refine ⟨_, c2, ?_⟩; conv => whnf) | (refine ⟨true, decide_eq_true (by omega), ?_⟩; conv => whnf) | (refine ⟨false, decide_eq_false (by omega), ?_⟩; conv => whnf) | (refine ⟨rfl, ?_⟩; conv => whnf) | (refine ⟨_, fun h => absurd h Bool.false_ne_true, fun _ => rfl, ?_⟩; conv => whnf))
  exact congrArg (fun z => IV.tup [.agg [pe eqK4, .sl [], .bool false, .sl [], .sl [z, qr 1]], .int .i64 0]) dg_zero_qr.symm
def eqK5 : List (List Rat) := [[], [1], [1, 1]]
set_option maxHeartbeats 1000000 in
theorem t4_5 (J : Keep) : C J 4 [.int .u8 5, .int .i64 0] (.tup [fnI eqK5 [0, 1], .int .i64 0]) := by
  refine fn_ok Tryz.func4 rfl rfl rfl ?_
  have c0 := f61_ok J (n := 1) (by decide) (by decide)
  have c1 := in1_ok J
  have c2 := in11_ok J
  repeat (first | (refine W.wkRS (id := 7) (σ' := mkA [(0, .iv (.int .u8 5)), (4, .ptr 0 0), (5, .iv (.int .i64 0)), (7, .ptr 1 0)] [(0, .var (.agg [.sl [], .sl [], .bool false, .sl [], .sl []])), (1, .var (.agg [.sl [], .sl [], .bool false, .sl [], .sl [.agg [.sl [], .bool false, .sl []], qr 1]]))] 30) (Wk.tab [(1, 20)] ⟨⟨rfl, rfl⟩, ⟨rfl, rfl⟩, ⟨rfl, rfl⟩, ⟨rfl, rfl⟩, trivial⟩ ⟨rfl, rfl, trivial⟩ rfl) (by kernel_rfl) ?_; conv => whnf) | (refine W.wkRS (id := 24) (σ' := mkA [(0, .iv (.int .u8 5)), (4, .ptr 0 0), (5, .iv (.int .i64 0)), (7, .ptr 1 0)] [(0, .var (.agg [.sl [], .sl [], .bool false, .sl [], .sl []])), (1, .var (.agg [pe eqK5, .sl [], .bool false, .sl [], .sl [.agg [.sl [], .bool false, .sl []], qr 1]]))] 30) (Wk.tab [] ⟨⟨rfl, rfl⟩, ⟨rfl, rfl⟩, ⟨rfl, rfl⟩, ⟨rfl, rfl⟩, trivial⟩ ⟨rfl, rfl, trivial⟩ rfl) (by kernel_rfl) ?_; conv => whnf) | (refine W.RS (by kernel_rfl) ?_; conv => whnf) | (refine W.R (by kernel_rfl) ?_; conv => whnf) | (refine W.S ?_) | (refine W.block ?_) | (refine W.ret ?_; conv => whnf) | (refine W.skip ?_; conv => whnf) | (refine W.condF rfl ?_) | (refine W.condT rfl ?_) | (refine ⟨_, c0, ?_⟩; conv => whnf) | (refine ⟨_, c1, ?_⟩; conv => whnf) | (refine ⟨_, c2, ?_⟩; conv => whnf) | (refine ⟨true, decide_eq_true (by omega), ?_⟩; conv => whnf) | (refine ⟨false, decide_eq_false (by omega), ?_⟩; conv => whnf) | (refine ⟨rfl, ?_⟩; conv => whnf) | (refine ⟨_, fun h => absurd h Bool.false_ne_true, fun _ => rfl, ?_⟩; conv => whnf))
  exact congrArg (fun z => IV.tup [.agg [pe eqK5, .sl [], .bool false, .sl [], .sl [z, qr 1]], .int .i64 0]) dg_zero_qr.symm
def eqK6 : List (List Rat) := [[], [0, 2], [1, 0, 1]]
set_option maxHeartbeats 1000000 in
theorem t4_6 (J : Keep) : C J 4 [.int .u8 6, .int .i64 0] (.tup [fnI eqK6 [0, 1], .int .i64 0]) := by
  refine fn_ok Tryz.func4 rfl rfl rfl ?_
  have c0 := f61_ok J (n := 1) (by decide) (by decide)
  have c1 := in02_ok J
  have c2 := in101_ok J
  repeat (first | (refine W.wkRS (id := 7) (σ' := mkA [(0, .iv (.int .u8 6)), (4, .ptr 0 0), (5, .iv (.int .i64 0)), (7, .ptr 1 0)] [(0, .var (.agg [.sl [], .sl [], .bool false, .sl [], .sl []])), (1, .var (.agg [.sl [], .sl [], .bool false, .sl [], .sl [.agg [.sl [], .bool false, .sl []], qr 1]]))] 30) (Wk.tab [(1, 20)] ⟨⟨rfl, rfl⟩, ⟨rfl, rfl⟩, ⟨rfl, rfl⟩, ⟨rfl, rfl⟩, trivial⟩ ⟨rfl, rfl, trivial⟩ rfl) (by kernel_rfl) ?_; conv => whnf) | (refine W.wkRS (id := 24) (σ' := mkA [(0, .iv (.int .u8 6)), (4, .ptr 0 0), (5, .iv (.int .i64 0)), (7, .ptr 1 0)] [(0, .var (.agg [.sl [], .sl [], .bool false, .sl [], .sl []])), (1, .var (.agg [pe eqK6, .sl [], .bool false, .sl [], .sl [.agg [.sl [], .bool false, .sl []], qr 1]]))] 30) (Wk.tab [] ⟨⟨rfl, rfl⟩, ⟨rfl, rfl⟩, ⟨rfl, rfl⟩, ⟨rfl, rfl⟩, trivial⟩ ⟨rfl, rfl, trivial⟩ rfl) (by kernel_rfl) ?_; conv => whnf) | (refine W.RS (by kernel_rfl) ?_; conv => whnf) | (refine W.R (by kernel_rfl) ?_; conv => whnf) | (refine W.S ?_) | (refine W.block ?_) | (refine W.ret ?_; conv => whnf) | (refine W.skip ?_; conv => whnf) | (refine W.condF rfl ?_) | (refine W.condT rfl ?_) | (refine ⟨_, c0, ?_⟩; conv => whnf) | (refine ⟨_, c1, ?_⟩; conv => whnf) | (refine ⟨_, c2, ?_⟩; conv => whnf) | (refine ⟨true, decide_eq_true (by omega), ?_⟩; conv => whnf) | (refine ⟨false, decide_eq_false (by omega), ?_⟩; conv => whnf) | (refine ⟨rfl, ?_⟩; conv => whnf) | (refine ⟨_, fun h => absurd h Bool.false_ne_true, fun _ => rfl, ?_⟩; conv => whnf))
  exact congrArg (fun z => IV.tup [.agg [pe eqK6, .sl [], .bool false, .sl [], .sl [z, qr 1]], .int .i64 0]) dg_zero_qr.symm
end Go.Proofs.Fl
namespace Go.Proofs.Fl
open Go.RowKit Go.Proofs.Dig
attribute [local irreducible] IntKind.wrap PureC MutC MakC IterC
theorem one_arr {bx : Nat → Option Bx} {g id : Nat} {e : TypeId} {sz : Nat} {es : List IV} {fz : Bool} (h : ∀ g' s', bx g' = some (.bld s') → g' = g) : ∀ g' s', upd bx id (some (.arr e sz es fz)) g' = some (.bld s') → g' = g := by
  intro g' s' hg
  by_cases e : g' = id
  · subst e; rw [upd_same] at hg; cases hg
  · rw [upd_other _ _ _ e] at hg; exact h g' s' hg
noncomputable abbrev trE (e : List (List Rat)) : List IV := e.map fun p => pq (trimL p)
noncomputable abbrev spI (e : List (List Rat)) (lead : Rat) : IV := .agg ([.sl (trE e), .int .i64 ((e.length : Int) - 1)] ++ (qr lead).cells)
theorem trE_snoc {e : List (List Rat)} {k : Nat} (h : k < e.length) : trE (e.take (k + 1)) = trE (e.take k) ++ [pq (trimL (e.getD k []))] := by
  unfold trE
  rw [List.take_add_one, List.map_append, List.getElem?_eq_getElem h]
  congr 1
  simp [List.getD, h]
theorem getT {e : List (List Rat)} {k : Nat} (h : k < e.length) : (trE e)[k]? = some (pq (trimL (e.getD k []))) := by simp [trE, h]
theorem pq1 {p : List Rat} : ∀ y ∈ [pq p], y.cells.length = 1 ∧ y.isTup = false := by
  intro y hy
  rw [List.mem_singleton.1 hy]
  exact ⟨rfl, rfl⟩
set_option maxHeartbeats 1000000 in
theorem t13_ok {J : Keep} (B : Base J) {e : List (List Rat)} (h : EqOk e) : C J 13 [pe e, qr 0] (spI e ((e.getD (e.length - 1) []).getD 0 0)) := by
  refine fn_ok Tryz.func13 rfl rfl rfl ?_
  have lm : (e.map pq).length = e.length := by simp
  have h2 := h.two
  have h5 := h.five
  repeat (first | (refine W.RS (by kernel_rfl) ?_; conv => whnf) | (refine W.S ?_) | (refine W.block ?_) | (refine ⟨rfl, _, w64 (by omega), ?_⟩; conv => whnf) | (refine ⟨_, rfl, ?_⟩; conv => whnf))
  refine W.weak (σ' := mkA [(3, .ptr 0 0), (4, .ptr 1 0), (5, .ptr 2 0), (12, .iv (pe e)), (13, .iv (.int .i64 (e.length : Nat))), (14, .iv (.int .i64 0))] [(0, .var (qr 0)), (1, .var (.agg [.nil 3, .int .i64 0, .nil 3, .bool false, .nil 3])), (2, .var (.agg [.nil 3, .int .i64 ((e.length : Int) - 1), .nil 3, .bool false, .nil 3]))] 20)
    (Wk.tab [(2, 6)] ⟨⟨rfl, rfl⟩, ⟨rfl, rfl⟩, ⟨rfl, rfl⟩, ⟨rfl, rfl⟩, ⟨ivEq (by rw [lm]), rfl⟩, ⟨rfl, rfl⟩, trivial⟩ ⟨rfl, rfl, by rw [← lm]; rfl, trivial⟩ rfl) ?_
  refine W.opened (g := 2) (j := 0) 46 1 rfl rfl ?_
  refine W.loop (G := { k : Nat // k ≤ e.length }) (fun k => mkA [(3, .ptr 0 0), (4, .ptr 1 0), (5, .ptr 2 0), (12, .iv (pe e)), (13, .iv (.int .i64 (e.length : Nat))), (14, .iv (.int .i64 (k.1 : Nat)))] [(0, .var (qr 0)), (1, .var (.agg [.nil 3, .int .i64 0, .nil 3, .bool false, .nil 3])), (2, .bld (.row none [.nil 3, .int .i64 ((e.length : Int) - 1), .nil 3, .bool false, .nil 3] 0 46 1 (trE (e.take k.1))))] 20) (fun k => e.length - k.1) ⟨0, Nat.zero_le _⟩
    (Wk.tab [] ⟨⟨rfl, rfl⟩, ⟨rfl, rfl⟩, ⟨rfl, rfl⟩, ⟨rfl, rfl⟩, ⟨rfl, rfl⟩, ⟨rfl, rfl⟩, trivial⟩ ⟨rfl, rfl, rfl, trivial⟩ rfl) ?_
  rintro ⟨k, hk⟩
  show W J _ _ (mkA [(3, .ptr 0 0), (4, .ptr 1 0), (5, .ptr 2 0), (12, .iv (pe e)), (13, .iv (.int .i64 (e.length : Nat))), (14, .iv (.int .i64 (k : Nat)))] [(0, .var (qr 0)), (1, .var (.agg [.nil 3, .int .i64 0, .nil 3, .bool false, .nil 3])), (2, .bld (.row none [.nil 3, .int .i64 ((e.length : Int) - 1), .nil 3, .bool false, .nil 3] 0 46 1 (trE (e.take k))))] 20) _
  by_cases hkn : k < e.length
  · have hg := gete hkn
    have hd := h.deg k
    have hs := h.size k
    have he := trE_snoc hkn
    obtain ⟨p, hp⟩ : ∃ p, e.getD k [] = p := ⟨_, rfl⟩
    rw [hp] at hg hd he hs
    have c1 := t28_ok B (p := p) (by omega) hs
    have lt : (trE (e.take k)).length = k := by simp [trE]; omega
    have o1 := one_tb (m := [(0, .var (qr 0)), (1, .var (.agg [.nil 3, .int .i64 0, .nil 3, .bool false, .nil 3])), (2, .bld (.row none [.nil 3, .int .i64 ((e.length : Int) - 1), .nil 3, .bool false, .nil 3] 0 46 1 (trE (e.take k))))]) (g := 2) rfl
    refine W.reveal (g := 2) rfl fun v => ?_
    iterate 10 (first | (refine W.RS (by kernel_rfl) ?_; conv => whnf) | (refine W.S ?_) | (refine W.block ?_) | (refine W.skip ?_; conv => whnf) | (refine W.condT rfl ?_) | (refine ⟨k, _, rfl, hg, rfl, ?_⟩; conv => whnf) | (refine ⟨true, decide_eq_true (by omega), ?_⟩; conv => whnf) | (refine ⟨rfl, ?_⟩; conv => whnf))
    refine W.appF (g := 2) (off := 0) (v := v) (cs := [.nil 3, .int .i64 ((e.length : Int) - 1), .nil 3, .bool false, .nil 3]) (es := trE (e.take k)) 6 rfl rfl (by kernel_rfl) (by kernel_rfl) rfl rfl rfl rfl rfl rfl rfl rfl rfl (by intro h; injection h with h; exact absurd h (by decide)) (by decide) rfl rfl rfl rfl rfl rfl rfl rfl rfl rfl rfl ?_
    conv => whnf
    repeat (first | (refine ⟨_, c1, ?_⟩; conv => whnf) | (refine ⟨rfl, ?_⟩; conv => whnf))
    refine ⟨one_arr (one_upd o1), _, _, rfl, pq1, by show ((trE (e.take k)).length + 1) * 24 ≤ (140737488355328 : Nat); omega, by unfold maxLen; show (trE (e.take k)).length + 1 ≤ _; omega, ?_⟩
    conv => whnf
    repeat (first | (refine W.R (by kernel_rfl) ?_; conv => whnf) | (refine ⟨rfl, _, w64 (by omega), ?_⟩; conv => whnf))
    refine ⟨⟨k + 1, by omega⟩, Wk.tab [] ⟨⟨rfl, rfl⟩, ⟨rfl, rfl⟩, ⟨rfl, rfl⟩, ⟨rfl, rfl⟩, ⟨rfl, rfl⟩, ⟨rfl, rfl⟩, trivial⟩ ⟨rfl, rfl, ?_, trivial⟩ rfl, by dsimp only; omega⟩
    show some (Bx.bld (.row none [.nil 3, .int .i64 ((e.length : Int) - 1), .nil 3, .bool false, .nil 3] 0 46 1 (trE (e.take k) ++ [pq (trimL p)]))) = some (Bx.bld (.row none [.nil 3, .int .i64 ((e.length : Int) - 1), .nil 3, .bool false, .nil 3] 0 46 1 (trE (e.take (k + 1)))))
    rw [he]
  · have ek : k = e.length := by omega
    subst ek
    rw [show e.take e.length = e from List.take_length]
    have ht := h.trim
    have hg := getT (e := e) (k := e.length - 1) (by omega)
    have hj : ((e.length - 1 : Nat) : Int) = (e.length : Int) - 1 := by omega
    obtain ⟨p, hp⟩ : ∃ p, e.getD (e.length - 1) [] = p := ⟨_, rfl⟩
    rw [hp] at ht hg ⊢
    have hg2 := getq (f := qr) (l := trimL p) (k := 0) (by omega)
    rw [trimL_getD] at hg2
    refine W.shutRow (g := 2) (.agg [.sl (trE e), .int .i64 ((e.length : Int) - 1), .nil 3, .bool false, .nil 3]) rfl (one_tb rfl) (.inl rfl) ?_
    repeat (first | (refine W.RS (by kernel_rfl) ?_; conv => whnf) | (refine W.S ?_) | (refine W.ret ?_; conv => whnf) | (refine W.exit ?_; conv => whnf) | (refine W.condF rfl ?_) | (refine ⟨e.length - 1, _, hj.symm, hg, rfl, ?_⟩; conv => whnf) | (refine ⟨0, _, rfl, hg2, rfl, ?_⟩; conv => whnf) | (refine ⟨false, decide_eq_false (by omega), ?_⟩; conv => whnf) | (refine ⟨rfl, ?_⟩; conv => whnf))
    rfl
end Go.Proofs.Fl
namespace Go.Proofs.Fl
open Go.RowKit
def joinK1 (σ' : AS) : Exit → AS → Prop
  | .normal, s => Wk s σ'
  | _, _ => False
section
variable {J : Keep} {nt l : Nat} {ys : List (List IV)} {st : Bool} {F : (Nat → Prop) → Nat → Heap → World → Prop} {σ : AS} {k : Nat} {K : Exit → AS → Nat → Prop}
theorem WY.joinW (hJ : IterJS (cx J.top) l ys st F) {x y : Code} (σ' : AS) (h1 : W J.top nt x σ (joinK1 σ')) (h2 : WY (cx J.top) nt F y σ' k K) : WY (cx J.top) nt F (.seq x y) σ k K := by
  unfold W at h1
  refine WY.S (WY.liftS hJ (CW.mono (X := cx J.top) h1 fun e s hk => ?_))
  cases e with
  | normal => exact WY.weak hk h2
  | _ => exact hk.elim
end
end Go.Proofs.Fl
namespace Go.Proofs.Fl
open Go.RowKit Go.Proofs.Dig
attribute [local irreducible] IntKind.wrap PureC MutC MakC IterC
noncomputable abbrev spotI (q : List (List Rat)) (m : Nat) (lead : Rat) : IV := .agg ([.sl (q.map pq), .int .i64 (m : Nat)] ++ (qr lead).cells)
theorem t13_spot {J : Keep} (B : Base J) {e : List (List Rat)} (h : EqOk e) : C J 13 [pe e, qr 0] (spotI (e.map trimL) (e.length - 1) ((e.getD (e.length - 1) []).getD 0 0)) := by
  have := t13_ok B h
  have h2 := h.two
  have e1 : spI e ((e.getD (e.length - 1) []).getD 0 0) = spotI (e.map trimL) (e.length - 1) ((e.getD (e.length - 1) []).getD 0 0) := by
    show IV.agg ([.sl (trE e), .int .i64 ((e.length : Int) - 1)] ++ _) = IV.agg ([.sl ((e.map trimL).map pq), .int .i64 ((e.length - 1 : Nat) : Int)] ++ _)
    rw [show ((e.length - 1 : Nat) : Int) = (e.length : Int) - 1 by omega, List.map_map]
    rfl
  rw [e1] at this
  exact this
def inS (p : List Rat) (n m i : Nat) (a : List Rat) (x : Rat) : Nat → Rat
  | 0 => x
  | k + 1 => if i < m + k then inS p n m i a x k - p.getD k 0 * fallQ ((n : Int) - ((m : Int) + (k : Int) - (i : Int))) i * a.getD (n - (m + k - i)) 0 else inS p n m i a x k
def outS (q : List (List Rat)) (n m : Nat) (a : List Rat) : Nat → Rat
  | 0 => 0
  | i + 1 => inS (q.getD i []) n m i a (outS q n m a i) (min (q.getD i []).length (n - m + 1))
def nextA (q : List (List Rat)) (m : Nat) (lead : Rat) (y : List Rat) (n : Nat) (a : List Rat) : Rat :=
  if n < m then y.getD n 0 / fallQ n n else outS q n m a q.length / (lead * fallQ n m)
structure Sol (q : List (List Rat)) (m : Nat) (lead : Rat) (y L : List Rat) : Prop where
  pos : 0 < L.length
  len : L.length ≤ 100
  m1 : 1 ≤ m
  m5 : m ≤ 5
  yl : y.length = m
  ql : q.length = m + 1
  pl : ∀ i, (q.getD i []).length ≤ 100
  next : ∀ n, n < L.length → L.getD n 0 = nextA q m lead y n L
  sq : ∀ i k, qln ((q.getD i []).getD k 0) ≤ 1000
  sy : ∀ n, qln (y.getD n 0) ≤ 1000
  sL : ∀ n, qln (L.getD n 0) ≤ 1000
  sl : qln lead ≤ 1000
  sin : ∀ n i k, n < L.length → m ≤ n → i < q.length → k ≤ (q.getD i []).length → qln (inS (q.getD i []) n m i L (outS q n m L i) k) ≤ 100000
  sou : ∀ n i, n < L.length → m ≤ n → i ≤ q.length → qln (outS q n m L i) ≤ 100000
  nf : ∀ n, n < L.length → fallQ n n ≠ 0
  nz : ∀ n, n < L.length → m ≤ n → lead * fallQ n m ≠ 0
noncomputable def listQ (L : List Rat) : List (List IV) := L.map fun x => [qr x]
theorem listQ_len (L : List Rat) : (listQ L).length = L.length := by simp [listQ]
theorem listQ_get {L : List Rat} {k : Nat} (h : k < L.length) : (listQ L)[k]? = some [qr (L.getD k 0)] := by simp [listQ, h]
theorem listQ_one {L : List Rat} : ∀ y ∈ listQ L, y.length = 1 := by
  intro y hy
  obtain ⟨k, _, rfl⟩ := List.mem_map.1 hy
  rfl
theorem listQ_at {L : List Rat} {k : Nat} (hk : k < (listQ L).length) : (listQ L)[k] = [qr (L.getD k 0)] := by
  have := listQ_get (L := L) (k := k) (by rw [listQ_len] at hk; exact hk)
  rw [List.getElem?_eq_getElem hk] at this
  exact Option.some.inj this
theorem t29_ok (J : Keep) (q : List (List Rat)) (m : Nat) (lead : Rat) (y : List Rat) : MK J 29 [spotI q m lead, .sl (y.map qr)] 53 [spotI q m lead, .sl (y.map qr)] := by
  refine mk_ok Tryz.func29 rfl rfl rfl ?_
  repeat (first | (refine W.RS (by kernel_rfl) ?_; conv => whnf) | (refine W.ret ?_; conv => whnf) | (refine ⟨rfl, ?_⟩; conv => whnf))
  exact ⟨⟨rfl, rfl, trivial⟩, by simp⟩
theorem aGet {L : List Rat} {n i : Nat} (h : i < n) (hn : n ≤ L.length) : ((L.take n).map qr)[0 + i]? = some (qr (L.getD i 0)) := by
  rw [Nat.zero_add]
  have e : (L.take n).getD i 0 = L.getD i 0 := by simp [List.getD_eq_getElem?_getD, h]
  rw [← e]
  exact getq (by simp; omega)
set_option maxHeartbeats 2000000 in
theorem t53_ok {J : Keep} (B : Base J) {q : List (List Rat)} {m : Nat} {lead : Rat} {y L : List Rat} (S : Sol q m lead y L) : ITS J 53 [spotI q m lead, .sl (y.map qr)] (listQ L) true := by
  refine itS_ok Tryz.func53 rfl rfl rfl rfl fun l F hF => ?_
  have hpos := S.pos
  have hlen := S.len
  have hm1 := S.m1
  have hm5 := S.m5
  have hbl := listQ_len L
  repeat (first | (refine WY.RSE hF (by kernel_rfl) ?_; conv => whnf) | (refine WY.block ?_))
  refine WY.loop (G := { n : Nat // n < L.length }) (fun n => mkA [(0, .yld l), (1, .ptr 0 0), (2, .ptr 1 0), (4, match n.1 with | 0 => .nilS | k + 1 => .ref 2 0 (k + 1) true), (5, .iv (.int .i64 (m : Nat))), (6, .iv (.int .i64 (n.1 : Nat)))] ((0, .var (spotI q m lead)) :: (1, .var (.sl (y.map qr))) :: (match n.1 with | 0 => [] | k + 1 => [(2, .arr 32 3 ((L.take (k + 1)).map qr) false)])) 50) (fun n => n.1) (fun n => L.length - n.1) ⟨0, hpos⟩
    (Wk.tab [] ⟨⟨rfl, rfl⟩, ⟨rfl, rfl⟩, ⟨rfl, rfl⟩, ⟨rfl, rfl⟩, ⟨rfl, rfl⟩, ⟨rfl, rfl⟩, trivial⟩ ⟨rfl, rfl, trivial⟩ rfl) rfl ?_
  rintro ⟨n, hn⟩
  have hn : n < L.length := hn
  have hnx := S.next n hn
  by_cases hnm : n < m
  · have hyl := S.yl
    have hgy := getq (f := qr) (l := y) (k := n) (by omega)
    have syn := S.sy n
    have hnf := S.nf n hn
    have e1 : nextA q m lead y n L = y.getD n 0 / fallQ n n := if_pos hnm
    rw [e1] at hnx
    have q1 := qln_fall (z := (n : Int)) (by omega) (by omega) (i := n) (by omega)
    have c1 := t55_ok B (z := (n : Int)) (by omega) (by omega) (i := n) (by omega)
    have c2 := t54_ok B (a := y.getD n 0) (b := fallQ n n) (by omega) (by omega) hnf
    rw [← hnx] at c2
    cases n with
    | zero =>
      show WY (cx J.top) _ F _ (mkA [(0, .yld l), (1, .ptr 0 0), (2, .ptr 1 0), (4, .nilS), (5, .iv (.int .i64 (m : Nat))), (6, .iv (.int .i64 ((0 : Nat) : Int)))] [(0, .var (spotI q m lead)), (1, .var (.sl (y.map qr)))] 50) 0 _
      refine WY.S ?_
      refine WY.block ?_
      refine WY.RSE hF (by kernel_rfl) ?_
      conv => whnf
      refine WY.joinW hF (mkA [(0, .yld l), (1, .ptr 0 0), (2, .ptr 1 0), (4, .nilS), (5, .iv (.int .i64 (m : Nat))), (6, .iv (.int .i64 ((0 : Nat) : Int))), (7, .ptr 3 0)] [(0, .var (spotI q m lead)), (1, .var (.sl (y.map qr))), (3, .var (qr (L.getD 0 0)))] 70) ?_ ?_
      · repeat (first | (refine W.RS (by kernel_rfl) ?_; conv => whnf) | (refine W.R (by kernel_rfl) ?_; conv => whnf) | (refine W.condT rfl ?_) | (refine ⟨_, c1, ?_⟩; conv => whnf) | (refine ⟨_, c2, ?_⟩; conv => whnf) | (refine ⟨0, _, rfl, hgy, rfl, ?_⟩; conv => whnf) | (refine ⟨true, decide_eq_true (by omega), ?_⟩; conv => whnf) | (refine ⟨rfl, ?_⟩; conv => whnf))
        exact Wk.tab [(3, 50)] ⟨⟨rfl, rfl⟩, ⟨rfl, rfl⟩, ⟨rfl, rfl⟩, ⟨rfl, rfl⟩, ⟨rfl, rfl⟩, ⟨rfl, rfl⟩, ⟨rfl, rfl⟩, trivial⟩ ⟨rfl, rfl, rfl, trivial⟩ rfl
      · by_cases hl : 0 + 1 = L.length
        · have ha : (!ans (listQ L).length true 0) = true := by
            unfold ans; rw [hbl, hl, Nat.beq_refl]; rfl
          repeat (first | (refine WY.yieldSE hF 2 rfl rfl rfl rfl ?_; conv => whnf) | (refine WY.RSE hF (by kernel_rfl) ?_; conv => whnf) | (refine WY.ret ?_; conv => whnf) | (refine WY.condT rfl ?_) | (refine ⟨false, rfl, one3, Nat.le_of_ble_eq_true rfl, Nat.le_of_ble_eq_true rfl, ?_⟩; conv => whnf) | (refine ⟨rfl, listQ_get hn, ?_⟩; conv => whnf) | (refine ⟨_, ha, ?_⟩; conv => whnf))
          show 0 + 1 = (listQ L).length
          rw [hbl, hl]
        · have ha : (!ans (listQ L).length true 0) = false := by
            unfold ans
            rw [hbl, show Nat.beq (0 + 1) L.length = false by rw [← Bool.not_eq_true, Nat.beq_eq]; exact hl]; rfl
          repeat (first | (refine WY.yieldSE hF 2 rfl rfl rfl rfl ?_; conv => whnf) | (refine WY.RSE hF (by kernel_rfl) ?_; conv => whnf) | (refine WY.RE hF (by kernel_rfl) ?_; conv => whnf) | (refine WY.skip ?_; conv => whnf) | (refine WY.condF rfl ?_) | (refine ⟨false, rfl, one3, Nat.le_of_ble_eq_true rfl, Nat.le_of_ble_eq_true rfl, ?_⟩; conv => whnf) | (refine ⟨rfl, listQ_get hn, ?_⟩; conv => whnf) | (refine ⟨_, ha, ?_⟩; conv => whnf) | (refine ⟨rfl, _, w64 (by omega), ?_⟩; conv => whnf))
          refine ⟨⟨0 + 1, by omega⟩, Wk.tab [(2, 73)] ⟨⟨rfl, rfl⟩, ⟨rfl, rfl⟩, ⟨rfl, rfl⟩, ⟨rfl, rfl⟩, ⟨rfl, rfl⟩, ⟨rfl, rfl⟩, trivial⟩ ⟨rfl, rfl, ?_, trivial⟩ rfl, rfl, by dsimp only; omega⟩
          show some (Bx.arr 32 3 ([qr (L.getD 0 0)]) false) = some (Bx.arr 32 3 ((L.take (0 + 1)).map qr) false)
          rw [take_snoc hn, List.map_append]; rfl
    | succ n =>
      have la : n + 1 = ((L.take (n + 1)).map qr).length := by simp; omega
      show WY (cx J.top) _ F _ (mkA [(0, .yld l), (1, .ptr 0 0), (2, .ptr 1 0), (4, .ref 2 0 (n + 1) true), (5, .iv (.int .i64 (m : Nat))), (6, .iv (.int .i64 ((n + 1 : Nat) : Int)))] [(0, .var (spotI q m lead)), (1, .var (.sl (y.map qr))), (2, .arr 32 3 ((L.take (n + 1)).map qr) false)] 50) (n + 1) _
      refine WY.S ?_
      refine WY.block ?_
      refine WY.RSE hF (by kernel_rfl) ?_
      conv => whnf
      refine WY.joinW hF (mkA [(0, .yld l), (1, .ptr 0 0), (2, .ptr 1 0), (4, .ref 2 0 (n + 1) true), (5, .iv (.int .i64 (m : Nat))), (6, .iv (.int .i64 ((n + 1 : Nat) : Int))), (7, .ptr 3 0)] [(0, .var (spotI q m lead)), (1, .var (.sl (y.map qr))), (2, .arr 32 3 ((L.take (n + 1)).map qr) false), (3, .var (qr (L.getD (n + 1) 0)))] 70) ?_ ?_
      · repeat (first | (refine W.RS (by kernel_rfl) ?_; conv => whnf) | (refine W.R (by kernel_rfl) ?_; conv => whnf) | (refine W.condT rfl ?_) | (refine ⟨_, c1, ?_⟩; conv => whnf) | (refine ⟨_, c2, ?_⟩; conv => whnf) | (refine ⟨n + 1, _, rfl, hgy, rfl, ?_⟩; conv => whnf) | (refine ⟨true, decide_eq_true (by omega), ?_⟩; conv => whnf) | (refine ⟨rfl, ?_⟩; conv => whnf))
        exact Wk.tab [(3, 50)] ⟨⟨rfl, rfl⟩, ⟨rfl, rfl⟩, ⟨rfl, rfl⟩, ⟨rfl, rfl⟩, ⟨rfl, rfl⟩, ⟨rfl, rfl⟩, ⟨rfl, rfl⟩, trivial⟩ ⟨rfl, rfl, rfl, rfl, trivial⟩ rfl
      · by_cases hl : (n + 1) + 1 = L.length
        · have ha : (!ans (listQ L).length true (n + 1)) = true := by
            unfold ans; rw [hbl, hl, Nat.beq_refl]; rfl
          repeat (first | (refine WY.yieldSE hF 2 rfl rfl rfl rfl ?_; conv => whnf) | (refine WY.RSE hF (by kernel_rfl) ?_; conv => whnf) | (refine WY.ret ?_; conv => whnf) | (refine WY.condT rfl ?_) | (refine ⟨(fun h => absurd (List.mem_singleton.1 h : (2 : Nat) = 72) (by decide)), rfl, rfl, la, one3, by show (n + 1 + 1) * 56 ≤ (140737488355328 : Nat); omega, by unfold maxLen; show n + 1 + 1 ≤ _; omega, ?_⟩; conv => whnf) | (refine ⟨rfl, listQ_get hn, ?_⟩; conv => whnf) | (refine ⟨_, ha, ?_⟩; conv => whnf))
          show (n + 1) + 1 = (listQ L).length
          rw [hbl, hl]
        · have ha : (!ans (listQ L).length true (n + 1)) = false := by
            unfold ans
            rw [hbl, show Nat.beq ((n + 1) + 1) L.length = false by rw [← Bool.not_eq_true, Nat.beq_eq]; exact hl]; rfl
          repeat (first | (refine WY.yieldSE hF 2 rfl rfl rfl rfl ?_; conv => whnf) | (refine WY.RSE hF (by kernel_rfl) ?_; conv => whnf) | (refine WY.RE hF (by kernel_rfl) ?_; conv => whnf) | (refine WY.skip ?_; conv => whnf) | (refine WY.condF rfl ?_) | (refine ⟨(fun h => absurd (List.mem_singleton.1 h : (2 : Nat) = 72) (by decide)), rfl, rfl, la, one3, by show (n + 1 + 1) * 56 ≤ (140737488355328 : Nat); omega, by unfold maxLen; show n + 1 + 1 ≤ _; omega, ?_⟩; conv => whnf) | (refine ⟨rfl, listQ_get hn, ?_⟩; conv => whnf) | (refine ⟨_, ha, ?_⟩; conv => whnf) | (refine ⟨rfl, _, w64 (by omega), ?_⟩; conv => whnf))
          refine ⟨⟨(n + 1) + 1, by omega⟩, Wk.tab [(2, 73)] ⟨⟨rfl, rfl⟩, ⟨rfl, rfl⟩, ⟨rfl, rfl⟩, ⟨rfl, rfl⟩, ⟨rfl, rfl⟩, ⟨rfl, rfl⟩, trivial⟩ ⟨rfl, rfl, ?_, trivial⟩ rfl, rfl, by dsimp only; omega⟩
          show some (Bx.arr 32 3 ((L.take (n + 1)).map qr ++ [qr (L.getD (n + 1) 0)]) false) = some (Bx.arr 32 3 ((L.take ((n + 1) + 1)).map qr) false)
          rw [take_snoc hn, List.map_append]; rfl
  · cases n with
    | zero => omega
    | succ n =>
      have la : n + 1 = ((L.take (n + 1)).map qr).length := by simp; omega
      show WY (cx J.top) _ F _ (mkA [(0, .yld l), (1, .ptr 0 0), (2, .ptr 1 0), (4, .ref 2 0 (n + 1) true), (5, .iv (.int .i64 (m : Nat))), (6, .iv (.int .i64 ((n + 1 : Nat) : Int)))] [(0, .var (spotI q m lead)), (1, .var (.sl (y.map qr))), (2, .arr 32 3 ((L.take (n + 1)).map qr) false)] 50) (n + 1) _
      refine WY.S ?_
      refine WY.block ?_
      refine WY.RSE hF (by kernel_rfl) ?_
      conv => whnf
      refine WY.joinW hF (mkA [(0, .yld l), (1, .ptr 0 0), (2, .ptr 1 0), (4, .ref 2 0 (n + 1) true), (5, .iv (.int .i64 (m : Nat))), (6, .iv (.int .i64 ((n + 1 : Nat) : Int))), (7, .ptr 3 0)] [(0, .var (spotI q m lead)), (1, .var (.sl (y.map qr))), (2, .arr 32 3 ((L.take (n + 1)).map qr) false), (3, .var (qr (L.getD (n + 1) 0)))] 70) ?_ ?_
      · have e1 : nextA q m lead y (n + 1) L = outS q (n + 1) m L q.length / (lead * fallQ ((n + 1 : Nat) : Int) m) := if_neg hnm
        rw [e1] at hnx
        have lq : (q.map pq).length = q.length := by simp
        have hql := S.ql
        repeat (first | (refine W.RS (by kernel_rfl) ?_; conv => whnf) | (refine W.S ?_) | (refine W.block ?_) | (refine W.condF rfl ?_) | (refine ⟨false, decide_eq_false (by omega), ?_⟩; conv => whnf) | (refine ⟨_, rfl, ?_⟩; conv => whnf) | (refine ⟨rfl, ?_⟩; conv => whnf))
        refine W.loop (G := { i : Nat // i ≤ q.length }) (fun i => mkA [(0, .yld l), (1, .ptr 0 0), (2, .ptr 1 0), (4, .ref 2 0 (n + 1) true), (5, .iv (.int .i64 (m : Nat))), (6, .iv (.int .i64 ((n + 1 : Nat) : Int))), (7, .ptr 3 0), (29, .iv (.sl (q.map pq))), (30, .iv (.int .i64 (q.length : Nat))), (31, .iv (.int .i64 (i.1 : Nat)))] [(0, .var (spotI q m lead)), (1, .var (.sl (y.map qr))), (2, .arr 32 3 ((L.take (n + 1)).map qr) false), (3, .var (qr (outS q (n + 1) m L i.1)))] 40) (fun i => q.length - i.1) ⟨0, Nat.zero_le _⟩
          (Wk.tab [(3, 50)] ⟨⟨rfl, rfl⟩, ⟨rfl, rfl⟩, ⟨rfl, rfl⟩, ⟨rfl, rfl⟩, ⟨rfl, rfl⟩, ⟨rfl, rfl⟩, ⟨rfl, rfl⟩, ⟨rfl, rfl⟩, ⟨ivEq (by rw [lq]), rfl⟩, ⟨rfl, rfl⟩, trivial⟩ ⟨rfl, rfl, rfl, congrArg (fun z => some (Bx.var z)) dg_zero_qr.symm, trivial⟩ rfl) ?_
        rintro ⟨i, hi⟩
        have hi : i ≤ q.length := hi
        show W J.top _ _ (mkA [(0, .yld l), (1, .ptr 0 0), (2, .ptr 1 0), (4, .ref 2 0 (n + 1) true), (5, .iv (.int .i64 (m : Nat))), (6, .iv (.int .i64 ((n + 1 : Nat) : Int))), (7, .ptr 3 0), (29, .iv (.sl (q.map pq))), (30, .iv (.int .i64 (q.length : Nat))), (31, .iv (.int .i64 (i : Nat)))] [(0, .var (spotI q m lead)), (1, .var (.sl (y.map qr))), (2, .arr 32 3 ((L.take (n + 1)).map qr) false), (3, .var (qr (outS q (n + 1) m L i)))] 40) _
        have sx := S.sou (n + 1) i hn (by omega) hi
        by_cases hiq : i < q.length
        · have hgp := gete hiq
          have hpl := S.pl i
          have spk := S.sq i
          have sik := fun k => S.sin (n + 1) i k hn (by omega) hiq
          have hos : outS q (n + 1) m L (i + 1) = inS (q.getD i []) (n + 1) m i L (outS q (n + 1) m L i) (min (q.getD i []).length (n + 1 - m + 1)) := rfl
          obtain ⟨p, hp⟩ : ∃ p, q.getD i [] = p := ⟨_, rfl⟩
          obtain ⟨x, hx⟩ : ∃ x, outS q (n + 1) m L i = x := ⟨_, rfl⟩
          rw [hp] at hgp hpl spk sik hos
          rw [hx] at sik hos sx ⊢
          have lp : (p.map qr).length = p.length := by simp
          obtain ⟨K, hK⟩ : ∃ K, min p.length (n + 1 - m + 1) = K := ⟨_, rfl⟩
          rw [hK] at hos
          have hKp : K ≤ p.length := by omega
          have hKn : K ≤ n + 1 - m + 1 := by omega
          have hmin : (if ((n + 1 : Nat) : Int) - (m : Int) + 1 < ((p.map qr).length : Int) then ((n + 1 : Nat) : Int) - (m : Int) + 1 else ((p.map qr).length : Int)) = ((K : Nat) : Int) := by
            rw [lp]; split <;> omega
          have lK : (((p.map qr).take K).drop 0).length = K := by simp; omega
          repeat (first | (refine W.RS (by kernel_rfl) ?_; conv => whnf) | (refine W.S ?_) | (refine W.block ?_) | (refine W.skip ?_; conv => whnf) | (refine W.condT rfl ?_) | (refine ⟨_, hmin, ?_⟩; conv => whnf) | (refine ⟨i, _, rfl, hgp, rfl, ?_⟩; conv => whnf) | (refine ⟨rfl, _, w64 (by omega), ?_⟩; conv => whnf) | (refine ⟨true, decide_eq_true (by omega), ?_⟩; conv => whnf) | (refine ⟨_, rfl, ?_⟩; conv => whnf) | (refine ⟨rfl, ?_⟩; conv => whnf) | (refine ⟨by omega, by omega, by omega, .inr (by simp), .inl rfl, ?_⟩; conv => whnf))
          refine W.loop (G := { k : Nat // k ≤ K }) (fun k => mkA [(0, .yld l), (1, .ptr 0 0), (2, .ptr 1 0), (4, .ref 2 0 (n + 1) true), (5, .iv (.int .i64 (m : Nat))), (6, .iv (.int .i64 ((n + 1 : Nat) : Int))), (7, .ptr 3 0), (8, .iv (.int .i64 (i : Nat))), (29, .iv (.sl (q.map pq))), (30, .iv (.int .i64 (q.length : Nat))), (31, .iv (.int .i64 (i : Nat))), (44, .iv (.sl (((p.map qr).take K).drop 0))), (45, .iv (.int .i64 (K : Nat))), (46, .iv (.int .i64 (k.1 : Nat)))] [(0, .var (spotI q m lead)), (1, .var (.sl (y.map qr))), (2, .arr 32 3 ((L.take (n + 1)).map qr) false), (3, .var (qr (inS p (n + 1) m i L x k.1)))] 40) (fun k => K - k.1) ⟨0, Nat.zero_le _⟩
            (Wk.tab [] ⟨⟨rfl, rfl⟩, ⟨rfl, rfl⟩, ⟨rfl, rfl⟩, ⟨rfl, rfl⟩, ⟨rfl, rfl⟩, ⟨rfl, rfl⟩, ⟨rfl, rfl⟩, ⟨rfl, rfl⟩, ⟨rfl, rfl⟩, ⟨rfl, rfl⟩, ⟨rfl, rfl⟩, ⟨rfl, rfl⟩, ⟨ivEq (by rw [lK]), rfl⟩, ⟨rfl, rfl⟩, trivial⟩ ⟨rfl, rfl, rfl, rfl, trivial⟩ rfl) ?_
          rintro ⟨k, hk⟩
          have hk : k ≤ K := hk
          show W J.top _ _ (mkA [(0, .yld l), (1, .ptr 0 0), (2, .ptr 1 0), (4, .ref 2 0 (n + 1) true), (5, .iv (.int .i64 (m : Nat))), (6, .iv (.int .i64 ((n + 1 : Nat) : Int))), (7, .ptr 3 0), (8, .iv (.int .i64 (i : Nat))), (29, .iv (.sl (q.map pq))), (30, .iv (.int .i64 (q.length : Nat))), (31, .iv (.int .i64 (i : Nat))), (44, .iv (.sl (((p.map qr).take K).drop 0))), (45, .iv (.int .i64 (K : Nat))), (46, .iv (.int .i64 (k : Nat)))] [(0, .var (spotI q m lead)), (1, .var (.sl (y.map qr))), (2, .arr 32 3 ((L.take (n + 1)).map qr) false), (3, .var (qr (inS p (n + 1) m i L x k)))] 40) _
          by_cases hkK : k < K
          · have hgk : (((p.map qr).take K).drop 0)[k]? = some (qr (p.getD k 0)) := by
              rw [List.drop_zero, List.getElem?_take, if_pos hkK]
              exact getq (by omega)
            have hst : inS p (n + 1) m i L x (k + 1) = if i < m + k then inS p (n + 1) m i L x k - p.getD k 0 * fallQ (((n + 1 : Nat) : Int) - ((m : Int) + (k : Int) - (i : Int))) i * L.getD (n + 1 - (m + k - i)) 0 else inS p (n + 1) m i L x k := rfl
            have s1 := sik k (by omega)
            have s2 := spk k
            obtain ⟨u, hu⟩ : ∃ u, inS p (n + 1) m i L x k = u := ⟨_, rfl⟩
            rw [hu] at s1 hst ⊢
            obtain ⟨c, hc⟩ : ∃ c, p.getD k 0 = c := ⟨_, rfl⟩
            rw [hc] at s2 hst hgk
            by_cases hj : i < m + k
            · rw [if_pos hj] at hst
              have hz : ((n + 1 : Nat) : Int) - ((m : Int) + (k : Int) - (i : Int)) = ((n + 1 - (m + k - i) : Nat) : Int) := by omega
              have hix : n + 1 - (m + k - i) < n + 1 := by omega
              have s3 := S.sL (n + 1 - (m + k - i))
              have hgL := aGet (L := L) hix (by omega)
              obtain ⟨a, ha⟩ : ∃ a, L.getD (n + 1 - (m + k - i)) 0 = a := ⟨_, rfl⟩
              rw [ha] at s3 hst hgL
              obtain ⟨d, hd⟩ : ∃ d, n + 1 - (m + k - i) = d := ⟨_, rfl⟩
              rw [hd] at hz hix hgL
              have c1 := t55_ok B (z := ((n + 1 : Nat) : Int) - ((m : Int) + (k : Int) - (i : Int))) (by omega) (by omega) (i := i) (by omega)
              have q1 := qln_fall (z := ((n + 1 : Nat) : Int) - ((m : Int) + (k : Int) - (i : Int))) (by omega) (by omega) (i := i) (by omega)
              obtain ⟨f, hf⟩ : ∃ f, fallQ (((n + 1 : Nat) : Int) - ((m : Int) + (k : Int) - (i : Int))) i = f := ⟨_, rfl⟩
              rw [hf] at c1 q1 hst
              have q2 := qln_mul c f
              have q3 := qln_mul (c * f) a
              have c2 := f49_ok B (a := c) (b := f) (by omega) (by omega)
              have c3 := f49_ok B (a := c * f) (b := a) (by omega) (by omega)
              have c4 := f50_ok B (a := u) (b := c * f * a) (by omega) (by omega)
              repeat (first | (refine W.RS (by kernel_rfl) ?_; conv => whnf) | (refine W.R (by kernel_rfl) ?_; conv => whnf) | (refine W.S ?_) | (refine W.block ?_) | (refine W.skip ?_; conv => whnf) | (refine W.condT rfl ?_) | (refine ⟨_, c1, ?_⟩; conv => whnf) | (refine ⟨_, c2, ?_⟩; conv => whnf) | (refine ⟨_, c3, ?_⟩; conv => whnf) | (refine ⟨_, c4, ?_⟩; conv => whnf) | (refine ⟨k, _, rfl, hgk, rfl, ?_⟩; conv => whnf) | (refine ⟨(rfl : (_ : Nat) = _), d, hz, by omega, ?_⟩; conv => whnf) | (refine ⟨_, hgL, ?_⟩; conv => whnf) | (refine ⟨rfl, _, w64 (by omega), ?_⟩; conv => whnf) | (refine ⟨true, decide_eq_true (by omega), ?_⟩; conv => whnf) | (refine ⟨rfl, ?_⟩; conv => whnf))
              refine ⟨⟨k + 1, by omega⟩, Wk.tab [] ⟨⟨rfl, rfl⟩, ⟨rfl, rfl⟩, ⟨rfl, rfl⟩, ⟨rfl, rfl⟩, ⟨rfl, rfl⟩, ⟨rfl, rfl⟩, ⟨rfl, rfl⟩, ⟨rfl, rfl⟩, ⟨rfl, rfl⟩, ⟨rfl, rfl⟩, ⟨rfl, rfl⟩, ⟨rfl, rfl⟩, ⟨rfl, rfl⟩, ⟨rfl, rfl⟩, trivial⟩ ⟨rfl, rfl, rfl, ?_, trivial⟩ rfl, by dsimp only; omega⟩
              show some (Bx.var (qr (u - c * f * a))) = some (Bx.var (qr (inS p (n + 1) m i L x (k + 1))))
              rw [hst]
            · rw [if_neg hj] at hst
              repeat (first | (refine W.RS (by kernel_rfl) ?_; conv => whnf) | (refine W.R (by kernel_rfl) ?_; conv => whnf) | (refine W.S ?_) | (refine W.block ?_) | (refine W.skip ?_; conv => whnf) | (refine W.condF rfl ?_) | (refine W.condT rfl ?_) | (refine ⟨k, _, rfl, hgk, rfl, ?_⟩; conv => whnf) | (refine ⟨rfl, _, w64 (by omega), ?_⟩; conv => whnf) | (refine ⟨true, decide_eq_true (by omega), ?_⟩; conv => whnf) | (refine ⟨false, decide_eq_false (by omega), ?_⟩; conv => whnf) | (refine ⟨rfl, ?_⟩; conv => whnf))
              refine ⟨⟨k + 1, by omega⟩, Wk.tab [] ⟨⟨rfl, rfl⟩, ⟨rfl, rfl⟩, ⟨rfl, rfl⟩, ⟨rfl, rfl⟩, ⟨rfl, rfl⟩, ⟨rfl, rfl⟩, ⟨rfl, rfl⟩, ⟨rfl, rfl⟩, ⟨rfl, rfl⟩, ⟨rfl, rfl⟩, ⟨rfl, rfl⟩, ⟨rfl, rfl⟩, ⟨rfl, rfl⟩, ⟨rfl, rfl⟩, trivial⟩ ⟨rfl, rfl, rfl, ?_, trivial⟩ rfl, by dsimp only; omega⟩
              show some (Bx.var (qr u)) = some (Bx.var (qr (inS p (n + 1) m i L x (k + 1))))
              rw [hst]
          · have ek : k = K := by omega
            subst ek
            repeat (first | (refine W.RS (by kernel_rfl) ?_; conv => whnf) | (refine W.R (by kernel_rfl) ?_; conv => whnf) | (refine W.S ?_) | (refine W.exit ?_; conv => whnf) | (refine W.condF rfl ?_) | (refine ⟨rfl, _, w64 (by omega), ?_⟩; conv => whnf) | (refine ⟨false, decide_eq_false (by omega), ?_⟩; conv => whnf) | (refine ⟨rfl, ?_⟩; conv => whnf))
            refine ⟨⟨i + 1, by omega⟩, Wk.tab [] ⟨⟨rfl, rfl⟩, ⟨rfl, rfl⟩, ⟨rfl, rfl⟩, ⟨rfl, rfl⟩, ⟨rfl, rfl⟩, ⟨rfl, rfl⟩, ⟨rfl, rfl⟩, ⟨rfl, rfl⟩, ⟨rfl, rfl⟩, ⟨rfl, rfl⟩, trivial⟩ ⟨rfl, rfl, rfl, ?_, trivial⟩ rfl, by dsimp only; omega⟩
            show some (Bx.var (qr (inS p (n + 1) m i L x k))) = some (Bx.var (qr (outS q (n + 1) m L (i + 1))))
            rw [hos]
        · have ei : i = q.length := by omega
          subst ei
          have sl := S.sl
          have q1 := qln_fall (z := ((n + 1 : Nat) : Int)) (by omega) (by omega) (i := m) (by omega)
          have c1 := t55_ok B (z := ((n + 1 : Nat) : Int)) (by omega) (by omega) (i := m) (by omega)
          have q2 := qln_mul lead (fallQ ((n + 1 : Nat) : Int) m)
          have c2 := f49_ok B (a := lead) (b := fallQ ((n + 1 : Nat) : Int) m) (by omega) (by omega)
          have c3 := t54_ok B (a := outS q (n + 1) m L q.length) (b := lead * fallQ ((n + 1 : Nat) : Int) m) (by omega) (by omega) (S.nz _ hn (by omega))
          rw [← hnx] at c3
          repeat (first | (refine W.RS (by kernel_rfl) ?_; conv => whnf) | (refine W.R (by kernel_rfl) ?_; conv => whnf) | (refine W.S ?_) | (refine W.exit ?_; conv => whnf) | (refine W.condF rfl ?_) | (refine ⟨_, c1, ?_⟩; conv => whnf) | (refine ⟨_, c2, ?_⟩; conv => whnf) | (refine ⟨_, c3, ?_⟩; conv => whnf) | (refine ⟨false, decide_eq_false (by omega), ?_⟩; conv => whnf) | (refine ⟨rfl, ?_⟩; conv => whnf))
          exact Wk.tab [] ⟨⟨rfl, rfl⟩, ⟨rfl, rfl⟩, ⟨rfl, rfl⟩, ⟨rfl, rfl⟩, ⟨rfl, rfl⟩, ⟨rfl, rfl⟩, ⟨rfl, rfl⟩, trivial⟩ ⟨rfl, rfl, rfl, rfl, trivial⟩ rfl
      · by_cases hl : (n + 1) + 1 = L.length
        · have ha : (!ans (listQ L).length true (n + 1)) = true := by
            unfold ans; rw [hbl, hl, Nat.beq_refl]; rfl
          repeat (first | (refine WY.yieldSE hF 2 rfl rfl rfl rfl ?_; conv => whnf) | (refine WY.RSE hF (by kernel_rfl) ?_; conv => whnf) | (refine WY.ret ?_; conv => whnf) | (refine WY.condT rfl ?_) | (refine ⟨(fun h => absurd (List.mem_singleton.1 h : (2 : Nat) = 72) (by decide)), rfl, rfl, la, one3, by show (n + 1 + 1) * 56 ≤ (140737488355328 : Nat); omega, by unfold maxLen; show n + 1 + 1 ≤ _; omega, ?_⟩; conv => whnf) | (refine ⟨rfl, listQ_get hn, ?_⟩; conv => whnf) | (refine ⟨_, ha, ?_⟩; conv => whnf))
          show (n + 1) + 1 = (listQ L).length
          rw [hbl, hl]
        · have ha : (!ans (listQ L).length true (n + 1)) = false := by
            unfold ans
            rw [hbl, show Nat.beq ((n + 1) + 1) L.length = false by rw [← Bool.not_eq_true, Nat.beq_eq]; exact hl]; rfl
          repeat (first | (refine WY.yieldSE hF 2 rfl rfl rfl rfl ?_; conv => whnf) | (refine WY.RSE hF (by kernel_rfl) ?_; conv => whnf) | (refine WY.RE hF (by kernel_rfl) ?_; conv => whnf) | (refine WY.skip ?_; conv => whnf) | (refine WY.condF rfl ?_) | (refine ⟨(fun h => absurd (List.mem_singleton.1 h : (2 : Nat) = 72) (by decide)), rfl, rfl, la, one3, by show (n + 1 + 1) * 56 ≤ (140737488355328 : Nat); omega, by unfold maxLen; show n + 1 + 1 ≤ _; omega, ?_⟩; conv => whnf) | (refine ⟨rfl, listQ_get hn, ?_⟩; conv => whnf) | (refine ⟨_, ha, ?_⟩; conv => whnf) | (refine ⟨rfl, _, w64 (by omega), ?_⟩; conv => whnf))
          refine ⟨⟨(n + 1) + 1, by omega⟩, Wk.tab [(2, 73)] ⟨⟨rfl, rfl⟩, ⟨rfl, rfl⟩, ⟨rfl, rfl⟩, ⟨rfl, rfl⟩, ⟨rfl, rfl⟩, ⟨rfl, rfl⟩, trivial⟩ ⟨rfl, rfl, ?_, trivial⟩ rfl, rfl, by dsimp only; omega⟩
          show some (Bx.arr 32 3 ((L.take (n + 1)).map qr ++ [qr (L.getD (n + 1) 0)]) false) = some (Bx.arr 32 3 ((L.take ((n + 1) + 1)).map qr) false)
          rw [take_snoc hn, List.map_append]; rfl
end Go.Proofs.Fl
namespace Go.Proofs.Fl
open Go.RowKit Go.Proofs.Dig
attribute [local irreducible] IntKind.wrap PureC MutC MakC IterC
theorem one_var {bx : Nat → Option Bx} {g id : Nat} {x : IV} (h : ∀ g' s', bx g' = some (.bld s') → g' = g) : ∀ g' s', upd bx id (some (.var x)) g' = some (.bld s') → g' = g := by
  intro g' s' hg
  by_cases e : g' = id
  · subst e; rw [upd_same] at hg; cases hg
  · rw [upd_other _ _ _ e] at hg; exact h g' s' hg
theorem info33 : ∃ i : TypeInfo, Tryz.prog.info? 33 = some i ∧ i.zero = some (.slice none 0 0) := by
  have h : ((Tryz.prog.info? 33).bind fun i => i.zero) = some (.slice none 0 0) := by kernel_rfl
  cases e : Tryz.prog.info? 33 with
  | none => rw [e] at h; cases h
  | some i => exact ⟨i, rfl, by rw [e] at h; exact h⟩
theorem t14_zero (J : Keep) (q : List (List Rat)) (m : Nat) (lead : Rat) (y : List Rat) : C J 14 [spotI q m lead, .sl (y.map qr), .int .i64 0] (.sl []) := by
  refine fn_ok Tryz.func14 rfl rfl rfl ?_
  repeat (first | (refine W.RS (by kernel_rfl) ?_; conv => whnf) | (refine W.S ?_) | (refine W.ret ?_; conv => whnf) | (refine W.condT rfl ?_) | (refine ⟨true, decide_eq_true (by omega), ?_⟩; conv => whnf) | (refine ⟨rfl, ?_⟩; conv => whnf))
  rfl
set_option maxHeartbeats 2000000 in
theorem t14_ok {J : Keep} (B : Base J) {q : List (List Rat)} {m : Nat} {lead : Rat} {y L : List Rat} (S : Sol q m lead y L) : C J 14 [spotI q m lead, .sl (y.map qr), .int .i64 (L.length : Nat)] (pq L) := by
  refine fn_ok (J := J.top) Tryz.func14 rfl rfl rfl ?_
  have hpos := S.pos
  have hlen := S.len
  obtain ⟨i33, hi33, hz33⟩ := info33
  repeat (first | (refine W.S ?_; refine W.newOwn 32 3 rfl rfl rfl rfl hi33 hz33 rfl ?_; conv => whnf) | (refine W.RS (by kernel_rfl) ?_; conv => whnf) | (refine W.S ?_) | (refine W.block ?_) | (refine W.skip ?_; conv => whnf) | (refine W.condF rfl ?_) | (refine ⟨53, [spotI q m lead, .sl (y.map qr)], t29_ok J q m lead y, rfl, ?_⟩; conv => whnf) | (refine ⟨false, decide_eq_false (by omega), ?_⟩; conv => whnf) | (refine ⟨rfl, ?_⟩; conv => whnf))
  refine W.weak (σ' := mkA [(5, .ptr pinId 0), (7, .ptr (pinId + 1) 0), (14, .clo 53 [8, 98])] [(pinId, .var (.int .i64 (L.length : Nat))), (pinId + 1, .bld (.row none [.sl []] 0 32 3 [])), (8, .var (spotI q m lead)), (98, .var (.sl (y.map qr)))] 60) (Wk.tab [(pinId, 1), (pinId + 1, 3)] ⟨⟨rfl, rfl⟩, ⟨rfl, rfl⟩, ⟨rfl, rfl⟩, trivial⟩ ⟨rfl, rfl, rfl, rfl, trivial⟩ rfl) ?_
  refine W.rangeS (c := some (.exit 0)) (t53_ok B S) [pinId, pinId + 1] [(5, .ptr pinId 0), (7, .ptr (pinId + 1) 0)] (fun k => [(pinId, .var (.int .i64 (L.length : Nat))), (pinId + 1, .bld (.row none [.sl []] 0 32 3 ((L.take k).map qr)))]) 60 rfl ⟨rfl, rfl, trivial⟩ (by simp) rfl listQ_one (fun _ => rfl) (fun _ => by intro p hp; simp at hp; rcases hp with rfl | rfl <;> rfl) rfl ⟨rfl, rfl, trivial⟩ rfl ⟨rfl, rfl, trivial⟩ rfl rfl (fun k hk => ?_) (.inr (by rw [listQ_len]; exact hpos)) ?_
  · rw [listQ_at hk]
    rw [listQ_len] at hk
    have hbl := listQ_len L
    show W J.any _ _ ⟨putsL (tbS [(5, .ptr pinId 0), (7, .ptr (pinId + 1) 0)]) [15] [qr (L.getD k 0)], tbB [(pinId, .var (.int .i64 (L.length : Nat))), (pinId + 1, .bld (.row none [.sl []] 0 32 3 ((L.take k).map qr)))], 60⟩ _
    refine W.reveal (g := pinId + 1) rfl fun v => ?_
    have o1 := one_tb (m := [(pinId, .var (.int .i64 (L.length : Nat))), (pinId + 1, .bld (.row none [.sl []] 0 32 3 ((L.take k).map qr)))]) (g := pinId + 1) rfl
    have lt : ((L.take k).map qr).length = k := by simp; omega
    have hs := take_snoc hk
    have hln : (((L.take k).map qr ++ [qr (L.getD k 0)]).length : Int) = ((k + 1 : Nat) : Int) := by rw [List.length_append, lt]; rfl
    by_cases hl : k + 1 = L.length
    · have hpd : pend (listQ L).length (some (Code.exit 0)) (k + 1) = some (.exit 0) := by
        unfold pend; rw [hbl, hl, Nat.beq_refl]; rfl
      rw [hpd]
      repeat (first | (refine W.S ?_; refine W.app (g := pinId + 1) (v := v) (cs := [.sl []]) (es := (L.take k).map qr) (j := 0) 3 rfl rfl rfl rfl rfl rfl rfl rfl (by intro h; injection h with h; exact absurd h (by decide)) rfl rfl rfl rfl rfl rfl rfl ?_; conv => whnf) | (refine W.RS (by kernel_rfl) ?_; conv => whnf) | (refine W.R (by kernel_rfl) ?_; conv => whnf) | (refine W.block ?_) | (refine W.exit ?_; conv => whnf) | (refine W.condT rfl ?_) | (refine ⟨one_arr (one_var (one_var (one_upd o1))), _, _, rfl, one3, by show (((L.take k).map qr).length + 1) * 56 ≤ (140737488355328 : Nat); omega, by unfold maxLen; show ((L.take k).map qr).length + 1 ≤ _; omega, ?_⟩; conv => whnf) | (refine ⟨_, hln, ?_⟩; conv => whnf) | (refine ⟨true, decide_eq_true (by omega), ?_⟩; conv => whnf) | (refine ⟨rfl, ?_⟩; conv => whnf))
      refine ⟨?_, trivial⟩
      show some (Bx.bld (.row none [.sl []] 0 32 3 ((L.take k).map qr ++ [qr (L.getD k 0)]))) = some (Bx.bld (.row none [.sl []] 0 32 3 ((L.take (k + 1)).map qr)))
      rw [hs, List.map_append]; rfl
    · have hpd : pend (listQ L).length (some (Code.exit 0)) (k + 1) = none := by
        unfold pend; rw [hbl, show Nat.beq (k + 1) L.length = false by rw [← Bool.not_eq_true, Nat.beq_eq]; exact hl]; rfl
      rw [hpd]
      repeat (first | (refine W.S ?_; refine W.app (g := pinId + 1) (v := v) (cs := [.sl []]) (es := (L.take k).map qr) (j := 0) 3 rfl rfl rfl rfl rfl rfl rfl rfl (by intro h; injection h with h; exact absurd h (by decide)) rfl rfl rfl rfl rfl rfl rfl ?_; conv => whnf) | (refine W.RS (by kernel_rfl) ?_; conv => whnf) | (refine W.R (by kernel_rfl) ?_; conv => whnf) | (refine W.block ?_) | (refine W.skip ?_; conv => whnf) | (refine W.condF rfl ?_) | (refine ⟨one_arr (one_var (one_var (one_upd o1))), _, _, rfl, one3, by show (((L.take k).map qr).length + 1) * 56 ≤ (140737488355328 : Nat); omega, by unfold maxLen; show ((L.take k).map qr).length + 1 ≤ _; omega, ?_⟩; conv => whnf) | (refine ⟨_, hln, ?_⟩; conv => whnf) | (refine ⟨false, decide_eq_false (by omega), ?_⟩; conv => whnf) | (refine ⟨rfl, ?_⟩; conv => whnf))
      refine ⟨?_, trivial⟩
      show some (Bx.bld (.row none [.sl []] 0 32 3 ((L.take k).map qr ++ [qr (L.getD k 0)]))) = some (Bx.bld (.row none [.sl []] 0 32 3 ((L.take (k + 1)).map qr)))
      rw [hs, List.map_append]; rfl
  · rw [listQ_len, List.take_length]
    refine W.shutRow (g := pinId + 1) (pq L) rfl (one_tb rfl) (.inr ⟨rfl, rfl, rfl⟩) ?_
    repeat (first | (refine W.RS (by kernel_rfl) ?_; conv => whnf) | (refine W.ret ?_; conv => whnf) | (refine W.exit ?_; conv => whnf))
    rfl
end Go.Proofs.Fl
namespace Go.Proofs.Fl
open Go.RowKit Go.Proofs.Dig
attribute [local irreducible] IntKind.wrap PureC MutC MakC IterC
theorem tdiv2 {n : Nat} (h : n ≤ 1000) : IntKind.wrap .i64 ((n : Int).tdiv 2) = ((n / 2 : Nat) : Int) := by
  rw [Int.tdiv_eq_ediv_of_nonneg (by omega), w64 (by omega)]; omega
theorem tmod2 (n : Nat) : (n : Int).tmod 2 = ((n % 2 : Nat) : Int) := by
  rw [Int.tmod_eq_emod_of_nonneg (by omega)]; omega
def sgn (i : Nat) : Int := 1 - ((i / 2 % 2 : Nat) : Int) * 2
def serX (kind : Int) (i : Nat) (c : Rat) : Rat :=
  if kind = 1 then c else if kind = 2 then (if 0 < i then ((((i % 2 : Nat) : Int) * 2 - 1 : Int) : Rat) / (((i : Nat) : Int) : Rat) else 0)
  else if kind = 3 then (if i % 2 = 1 then c * (sgn i : Rat) else 0) else if i % 2 = 1 then (sgn i : Rat) / (((i : Nat) : Int) : Rat) else 0
structure Ser (kind : Int) (C : Nat → Rat) (L : List Rat) : Prop where
  kd : kind = 1 ∨ kind = 2 ∨ kind = 3 ∨ kind = 5
  pos : 0 < L.length
  len : L.length ≤ 100
  zero : C 0 = 1
  succ : ∀ i, i < L.length → C (i + 1) = C i / (((i : Int) + 1 : Int) : Rat)
  at' : ∀ i, i < L.length → L.getD i 0 = serX kind i (C i)
  size : ∀ i, qln (C i) ≤ 1000
noncomputable def pairQ (L : List Rat) : List (List IV) := (List.range L.length).map fun k => [.int .i64 (k : Nat), qr (L.getD k 0)]
theorem pairQ_len (L : List Rat) : (pairQ L).length = L.length := by simp [pairQ]
theorem pairQ_get {L : List Rat} {k : Nat} (h : k < L.length) : (pairQ L)[k]? = some [.int .i64 (k : Nat), qr (L.getD k 0)] := by simp [pairQ, h]
theorem pairQ_two {L : List Rat} : ∀ y ∈ pairQ L, y.length = 2 := by
  intro y hy
  obtain ⟨k, _, rfl⟩ := List.mem_map.1 hy
  rfl
theorem pairQ_at {L : List Rat} {k : Nat} (hk : k < (pairQ L).length) : (pairQ L)[k] = [.int .i64 (k : Nat), qr (L.getD k 0)] := by
  have := pairQ_get (L := L) (k := k) (by rw [pairQ_len] at hk; exact hk)
  rw [List.getElem?_eq_getElem hk] at this
  exact Option.some.inj this
theorem t15_ok (J : Keep) (kind : Int) : MK J 15 [.int .u8 kind] 30 [.int .u8 kind] := by
  refine mk_ok Tryz.func15 rfl rfl rfl ?_
  repeat (first | (refine W.RS (by kernel_rfl) ?_; conv => whnf) | (refine W.ret ?_; conv => whnf) | (refine ⟨rfl, ?_⟩; conv => whnf))
  exact ⟨⟨rfl, trivial⟩, by simp⟩
set_option maxHeartbeats 2000000 in
theorem t30_ok {J : Keep} (B : Base J) {kind : Int} {C : Nat → Rat} {L : List Rat} (S : Ser kind C L) : ITS J 30 [.int .u8 kind] (pairQ L) true := by
  refine itS_ok Tryz.func30 rfl rfl rfl rfl fun l F hF => ?_
  have hpos := S.pos
  have hlen := S.len
  have hbl := pairQ_len L
  have c0 := t31_ok J
  have hc0 := S.zero
  repeat (first | (refine WY.RSE hF (by kernel_rfl) ?_; conv => whnf) | (refine WY.block ?_) | (refine ⟨_, c0, ?_⟩; conv => whnf))
  refine WY.loop (G := { i : Nat // i < L.length }) (fun i => mkA [(0, .yld l), (1, .ptr 0 0), (3, .ptr 1 0), (4, .iv (.int .i64 (i.1 : Nat)))] [(0, .var (.int .u8 kind)), (1, .var (qr (C i.1)))] 50) (fun i => i.1) (fun i => L.length - i.1) ⟨0, hpos⟩
    (Wk.tab [(1, 11)] ⟨⟨rfl, rfl⟩, ⟨rfl, rfl⟩, ⟨rfl, rfl⟩, ⟨rfl, rfl⟩, trivial⟩ ⟨rfl, congrArg (fun z => some (Bx.var (qr z))) hc0.symm, trivial⟩ rfl) rfl ?_
  rintro ⟨i, hi⟩
  have hi : i < L.length := hi
  show WY (cx J.top) _ F _ (mkA [(0, .yld l), (1, .ptr 0 0), (3, .ptr 1 0), (4, .iv (.int .i64 (i : Nat)))] [(0, .var (.int .u8 kind)), (1, .var (qr (C i)))] 50) i _
  have hx := S.at' i hi
  have hs := S.succ i hi
  have q0 := S.size i
  have c1 := f61_ok J (n := sgn i) (by unfold sgn; omega) (by unfold sgn; omega)
  unfold sgn at c1
  refine WY.S ?_
  refine WY.block ?_
  refine WY.RSE hF (by kernel_rfl) ?_
  conv => whnf
  refine WY.S ?_
  refine WY.RE hF (by kernel_rfl) ?_
  conv => whnf
  refine ⟨rfl, by decide, _, tdiv2 (by omega), ?_⟩
  conv => whnf
  refine ⟨rfl, by decide, _, tmod2 _, ?_⟩
  conv => whnf
  refine ⟨rfl, _, w64 (by omega), ?_⟩
  conv => whnf
  refine ⟨rfl, _, w64 (by omega), ?_⟩
  conv => whnf
  refine ⟨_, c1, ?_⟩
  conv => whnf
  refine WY.RSE hF (by kernel_rfl) ?_
  conv => whnf
  refine WY.joinW hF (mkA [(0, .yld l), (1, .ptr 0 0), (3, .ptr 1 0), (4, .iv (.int .i64 (i : Nat))), (5, .iv (.int .i64 (i : Nat))), (7, .ptr 2 0)] [(0, .var (.int .u8 kind)), (1, .var (qr (C i))), (2, .var (qr (L.getD i 0)))] 70) ?_ ?_
  · have hsg : sgn i = 1 - ((i / 2 % 2 : Nat) : Int) * 2 := rfl
    have q2 := qln_i64 (z := sgn i) (by unfold sgn; omega) (by unfold sgn; omega)
    rcases S.kd with rfl | rfl | rfl | rfl
    · have e : L.getD i 0 = C i := hx
      repeat (first | (refine W.RS (by kernel_rfl) ?_; conv => whnf) | (refine W.R (by kernel_rfl) ?_; conv => whnf) | (refine W.S ?_) | (refine W.block ?_) | (refine W.skip ?_; conv => whnf) | (refine W.condF rfl ?_) | (refine ⟨false, decide_eq_false (by omega), ?_⟩; conv => whnf) | (refine ⟨rfl, ?_⟩; conv => whnf))
      refine Wk.tab [(2, 61)] ⟨⟨rfl, rfl⟩, ⟨rfl, rfl⟩, ⟨rfl, rfl⟩, ⟨rfl, rfl⟩, ⟨rfl, rfl⟩, ⟨rfl, rfl⟩, trivial⟩ ⟨rfl, rfl, ?_, trivial⟩ rfl
      show some (Bx.var (qr (C i))) = some (Bx.var (qr (L.getD i 0)))
      rw [e]
    · by_cases h0 : 0 < i
      · have e : L.getD i 0 = (((((i % 2 : Nat) : Int) * 2 - 1 : Int) : Rat) / (((i : Nat) : Int) : Rat)) := hx.trans (if_pos h0)
        have c2 := t32_ok B (n := ((i % 2 : Nat) : Int) * 2 - 1) (d := (i : Int)) (by omega) (by omega) (by omega) (by omega) (by omega)
        rw [← e] at c2
        repeat (first | (refine W.RS (by kernel_rfl) ?_; conv => whnf) | (refine W.R (by kernel_rfl) ?_; conv => whnf) | (refine W.block ?_) | (refine W.condT rfl ?_) | (refine ⟨_, c2, ?_⟩; conv => whnf) | (refine ⟨by decide, _, tmod2 _, ?_⟩; conv => whnf) | (refine ⟨rfl, _, w64 (by omega), ?_⟩; conv => whnf) | (refine ⟨true, decide_eq_true (by omega), ?_⟩; conv => whnf) | (refine ⟨rfl, ?_⟩; conv => whnf))
        refine Wk.tab [(2, 61)] ⟨⟨rfl, rfl⟩, ⟨rfl, rfl⟩, ⟨rfl, rfl⟩, ⟨rfl, rfl⟩, ⟨rfl, rfl⟩, ⟨rfl, rfl⟩, trivial⟩ ⟨rfl, rfl, ?_, trivial⟩ rfl
        show some (Bx.var (qr (L.getD i 0))) = some (Bx.var (qr (L.getD i 0)))
        rfl
      · have e : L.getD i 0 = 0 := hx.trans (if_neg h0)
        repeat (first | (refine W.RS (by kernel_rfl) ?_; conv => whnf) | (refine W.block ?_) | (refine W.skip ?_; conv => whnf) | (refine W.condF rfl ?_) | (refine W.condT rfl ?_) | (refine ⟨true, decide_eq_true (by omega), ?_⟩; conv => whnf) | (refine ⟨false, decide_eq_false (by omega), ?_⟩; conv => whnf) | (refine ⟨rfl, ?_⟩; conv => whnf))
        refine Wk.tab [(2, 61)] ⟨⟨rfl, rfl⟩, ⟨rfl, rfl⟩, ⟨rfl, rfl⟩, ⟨rfl, rfl⟩, ⟨rfl, rfl⟩, ⟨rfl, rfl⟩, trivial⟩ ⟨rfl, rfl, ?_, trivial⟩ rfl
        show some (Bx.var (.agg [.sl [], .bool false, .sl []])) = some (Bx.var (qr (L.getD i 0)))
        rw [e, dg_zero_qr]
    · have q3 := qln_mul (C i) (sgn i : Rat)
      have c2 := f49_ok B (a := C i) (b := (sgn i : Rat)) (by omega) (by omega)
      rw [hsg] at c2
      by_cases h0 : i % 2 = 1
      · have e : L.getD i 0 = C i * ((1 - ((i / 2 % 2 : Nat) : Int) * 2 : Int) : Rat) := hx.trans (if_pos h0)
        rw [← e] at c2
        repeat (first | (refine W.RS (by kernel_rfl) ?_; conv => whnf) | (refine W.S ?_) | (refine W.block ?_) | (refine W.skip ?_; conv => whnf) | (refine W.condF rfl ?_) | (refine W.condT rfl ?_) | (refine ⟨_, c2, ?_⟩; conv => whnf) | (refine ⟨by decide, _, tmod2 _, ?_⟩; conv => whnf) | (refine ⟨true, decide_eq_true (by omega), ?_⟩; conv => whnf) | (refine ⟨false, decide_eq_false (by omega), ?_⟩; conv => whnf) | (refine ⟨_, rfl, ?_⟩; conv => whnf) | (refine ⟨rfl, ?_⟩; conv => whnf))
        refine Wk.tab [(2, 61)] ⟨⟨rfl, rfl⟩, ⟨rfl, rfl⟩, ⟨rfl, rfl⟩, ⟨rfl, rfl⟩, ⟨rfl, rfl⟩, ⟨rfl, rfl⟩, trivial⟩ ⟨rfl, rfl, ?_, trivial⟩ rfl
        show some (Bx.var (qr (L.getD i 0))) = some (Bx.var (qr (L.getD i 0)))
        rfl
      · have e : L.getD i 0 = 0 := hx.trans (if_neg h0)
        repeat (first | (refine W.RS (by kernel_rfl) ?_; conv => whnf) | (refine W.R (by kernel_rfl) ?_; conv => whnf) | (refine W.S ?_) | (refine W.block ?_) | (refine W.skip ?_; conv => whnf) | (refine W.condF rfl ?_) | (refine W.condT rfl ?_) | (refine ⟨_, c2, ?_⟩; conv => whnf) | (refine ⟨by decide, _, tmod2 _, ?_⟩; conv => whnf) | (refine ⟨true, decide_eq_true (by omega), ?_⟩; conv => whnf) | (refine ⟨false, decide_eq_false (by omega), ?_⟩; conv => whnf) | (refine ⟨_, rfl, ?_⟩; conv => whnf) | (refine ⟨rfl, ?_⟩; conv => whnf))
        refine Wk.tab [(2, 61)] ⟨⟨rfl, rfl⟩, ⟨rfl, rfl⟩, ⟨rfl, rfl⟩, ⟨rfl, rfl⟩, ⟨rfl, rfl⟩, ⟨rfl, rfl⟩, trivial⟩ ⟨rfl, rfl, ?_, trivial⟩ rfl
        show some (Bx.var (.agg [.sl [], .bool false, .sl []])) = some (Bx.var (qr (L.getD i 0)))
        rw [e, dg_zero_qr]
    · by_cases h0 : i % 2 = 1
      · have e : L.getD i 0 = ((1 - ((i / 2 % 2 : Nat) : Int) * 2 : Int) : Rat) / (((i : Nat) : Int) : Rat) := hx.trans (if_pos h0)
        have hne : ((i : Int) : Rat) ≠ 0 := by
          intro h
          have := Rat.intCast_eq_zero_iff.1 h
          omega
        have q3 := qln_i64 (z := (i : Int)) (by omega) (by omega)
        have c2 := f61_ok J (n := (i : Int)) (by omega) (by omega)
        have c3 := t34_ok B (a := (sgn i : Rat)) (b := ((i : Int) : Rat)) (by omega) (by omega) hne
        rw [hsg, ← e] at c3
        repeat (first | (refine W.RS (by kernel_rfl) ?_; conv => whnf) | (refine W.R (by kernel_rfl) ?_; conv => whnf) | (refine W.S ?_) | (refine W.block ?_) | (refine W.condF rfl ?_) | (refine W.condT rfl ?_) | (refine ⟨_, c2, ?_⟩; conv => whnf) | (refine ⟨_, c3, ?_⟩; conv => whnf) | (refine ⟨by decide, _, tmod2 _, ?_⟩; conv => whnf) | (refine ⟨true, decide_eq_true (by omega), ?_⟩; conv => whnf) | (refine ⟨false, decide_eq_false (by omega), ?_⟩; conv => whnf) | (refine ⟨rfl, ?_⟩; conv => whnf))
        refine Wk.tab [(2, 61)] ⟨⟨rfl, rfl⟩, ⟨rfl, rfl⟩, ⟨rfl, rfl⟩, ⟨rfl, rfl⟩, ⟨rfl, rfl⟩, ⟨rfl, rfl⟩, trivial⟩ ⟨rfl, rfl, ?_, trivial⟩ rfl
        show some (Bx.var (qr (L.getD i 0))) = some (Bx.var (qr (L.getD i 0)))
        rfl
      · have e : L.getD i 0 = 0 := hx.trans (if_neg h0)
        repeat (first | (refine W.RS (by kernel_rfl) ?_; conv => whnf) | (refine W.R (by kernel_rfl) ?_; conv => whnf) | (refine W.S ?_) | (refine W.block ?_) | (refine W.skip ?_; conv => whnf) | (refine W.condF rfl ?_) | (refine W.condT rfl ?_) | (refine ⟨by decide, _, tmod2 _, ?_⟩; conv => whnf) | (refine ⟨true, decide_eq_true (by omega), ?_⟩; conv => whnf) | (refine ⟨false, decide_eq_false (by omega), ?_⟩; conv => whnf) | (refine ⟨rfl, ?_⟩; conv => whnf))
        refine Wk.tab [(2, 61)] ⟨⟨rfl, rfl⟩, ⟨rfl, rfl⟩, ⟨rfl, rfl⟩, ⟨rfl, rfl⟩, ⟨rfl, rfl⟩, ⟨rfl, rfl⟩, trivial⟩ ⟨rfl, rfl, ?_, trivial⟩ rfl
        show some (Bx.var (.agg [.sl [], .bool false, .sl []])) = some (Bx.var (qr (L.getD i 0)))
        rw [e, dg_zero_qr]
  · have hne : (((i : Int) + 1 : Int) : Rat) ≠ 0 := by
      intro h
      have := Rat.intCast_eq_zero_iff.1 h
      omega
    have c2 := f61_ok J (n := (i : Int) + 1) (by omega) (by omega)
    have q1 := qln_i64 (z := (i : Int) + 1) (by omega) (by omega)
    have c3 := t34_ok B (a := C i) (b := (((i : Int) + 1 : Int) : Rat)) (by omega) (by omega) hne
    rw [← hs] at c3
    have hkind := S.kd
    by_cases hl : i + 1 = L.length
    · have ha : (!ans (pairQ L).length true i) = true := by
        unfold ans; rw [hbl, hl, Nat.beq_refl]; rfl
      repeat (first | (refine WY.S ?_; refine WY.yieldSE hF 3 rfl rfl rfl rfl ?_; conv => whnf) | (refine WY.ret ?_; conv => whnf) | (refine WY.condT rfl ?_) | (refine ⟨rfl, pairQ_get hi, ?_⟩; conv => whnf) | (refine ⟨_, ha, ?_⟩; conv => whnf))
      show i + 1 = (pairQ L).length
      rw [hbl, hl]
    · have ha : (!ans (pairQ L).length true i) = false := by
        unfold ans
        rw [hbl, show Nat.beq (i + 1) L.length = false by rw [← Bool.not_eq_true, Nat.beq_eq]; exact hl]; rfl
      repeat (first | (refine WY.S ?_; refine WY.yieldSE hF 3 rfl rfl rfl rfl ?_; conv => whnf) | (refine WY.RSE hF (by kernel_rfl) ?_; conv => whnf) | (refine WY.RE hF (by kernel_rfl) ?_; conv => whnf) | (refine WY.skip ?_; conv => whnf) | (refine WY.condF rfl ?_) | (refine ⟨rfl, pairQ_get hi, ?_⟩; conv => whnf) | (refine ⟨_, ha, ?_⟩; conv => whnf) | (refine ⟨_, c2, ?_⟩; conv => whnf) | (refine ⟨_, c3, ?_⟩; conv => whnf) | (refine ⟨rfl, _, w64 (by omega), ?_⟩; conv => whnf) | (refine ⟨false, decide_eq_false (by omega), ?_⟩; conv => whnf) | (refine ⟨rfl, ?_⟩; conv => whnf))
      exact ⟨⟨i + 1, by omega⟩, Wk.tab [] ⟨⟨rfl, rfl⟩, ⟨rfl, rfl⟩, ⟨rfl, rfl⟩, ⟨rfl, rfl⟩, trivial⟩ ⟨rfl, rfl, trivial⟩ rfl, rfl, by dsimp only; omega⟩
end Go.Proofs.Fl
namespace Go.Proofs.Fl
open Go.RowKit Go.Proofs.Dig
attribute [local irreducible] IntKind.wrap PureC MutC MakC IterC
set_option maxHeartbeats 2000000 in
theorem t6_ok {J : Keep} (B : Base J) {kind : Int} {Cf : Nat → Rat} {L : List Rat} (S : Ser kind Cf L) {K : Nat} (hK : L.length = K + 1) : C J 6 [.int .u8 kind, .int .i64 (K : Nat)] (.tup [pq (L.take K), .int .i64 0]) := by
  refine fn_ok (J := J.top) Tryz.func6 rfl rfl rfl ?_
  have hpos := S.pos
  have hlen := S.len
  have hkd := S.kd
  obtain ⟨i33, hi33, hz33⟩ := info33
  repeat (first | (refine W.S ?_; refine W.newOwn 32 3 rfl rfl rfl rfl hi33 hz33 rfl ?_; conv => whnf) | (refine W.RS (by kernel_rfl) ?_; conv => whnf) | (refine W.S ?_) | (refine W.block ?_) | (refine W.skip ?_; conv => whnf) | (refine W.condF rfl ?_) | (refine ⟨30, [.int .u8 kind], t15_ok J kind, rfl, ?_⟩; conv => whnf) | (refine ⟨false, decide_eq_false (by omega), ?_⟩; conv => whnf) | (refine ⟨rfl, ?_⟩; conv => whnf) | (refine ⟨_, fun h => absurd h Bool.false_ne_true, fun _ => rfl, ?_⟩; conv => whnf))
  refine W.weak (σ' := mkA [(3, .ptr pinId 0), (6, .ptr (pinId + 1) 0), (24, .clo 30 [19])] [(pinId, .var (.int .i64 (K : Nat))), (pinId + 1, .bld (.row none [.sl []] 0 32 3 [])), (19, .var (.int .u8 kind))] 60) (Wk.tab [(pinId, 0), (pinId + 1, 17)] ⟨⟨rfl, rfl⟩, ⟨rfl, rfl⟩, ⟨rfl, rfl⟩, trivial⟩ ⟨rfl, rfl, rfl, trivial⟩ rfl) ?_
  refine W.rangeS (c := some (.exit 1)) (t30_ok B S) [pinId, pinId + 1] [(3, .ptr pinId 0), (6, .ptr (pinId + 1) 0)] (fun k => [(pinId, .var (.int .i64 (K : Nat))), (pinId + 1, .bld (.row none [.sl []] 0 32 3 ((L.take (min k K)).map qr)))]) 60 rfl ⟨rfl, trivial⟩ (by simp) rfl pairQ_two (fun _ => rfl) (fun _ => by intro p hp; simp at hp; rcases hp with rfl | rfl <;> rfl) rfl ⟨rfl, rfl, trivial⟩ rfl ⟨rfl, by rw [Nat.zero_min]; rfl, trivial⟩ rfl rfl (fun k hk => ?_) (.inr (by rw [pairQ_len]; exact hpos)) ?_
  · rw [pairQ_at hk]
    rw [pairQ_len] at hk
    have hbl := pairQ_len L
    by_cases hl : k + 1 = L.length
    · have hpd : pend (pairQ L).length (some (Code.exit 1)) (k + 1) = some (.exit 1) := by
        unfold pend; rw [hbl, hl, Nat.beq_refl]; rfl
      rw [hpd, show min k K = K by omega, show min (k + 1) K = K by omega]
      show W J.any _ _ ⟨putsL (tbS [(3, .ptr pinId 0), (6, .ptr (pinId + 1) 0)]) [25, 26] [.int .i64 (k : Nat), qr (L.getD k 0)], tbB [(pinId, .var (.int .i64 (K : Nat))), (pinId + 1, .bld (.row none [.sl []] 0 32 3 ((L.take K).map qr)))], 60⟩ _
      repeat (first | (refine W.RS (by kernel_rfl) ?_; conv => whnf) | (refine W.R (by kernel_rfl) ?_; conv => whnf) | (refine W.S ?_) | (refine W.block ?_) | (refine W.exit ?_; conv => whnf) | (refine W.condT rfl ?_) | (refine ⟨true, decide_eq_true (by omega), ?_⟩; conv => whnf) | (refine ⟨rfl, ?_⟩; conv => whnf))
      exact trivial
    · have hpd : pend (pairQ L).length (some (Code.exit 1)) (k + 1) = none := by
        unfold pend; rw [hbl, show Nat.beq (k + 1) L.length = false by rw [← Bool.not_eq_true, Nat.beq_eq]; exact hl]; rfl
      rw [hpd, show min k K = k by omega, show min (k + 1) K = k + 1 by omega]
      show W J.any _ _ ⟨putsL (tbS [(3, .ptr pinId 0), (6, .ptr (pinId + 1) 0)]) [25, 26] [.int .i64 (k : Nat), qr (L.getD k 0)], tbB [(pinId, .var (.int .i64 (K : Nat))), (pinId + 1, .bld (.row none [.sl []] 0 32 3 ((L.take k).map qr)))], 60⟩ _
      refine W.reveal (g := pinId + 1) rfl fun v => ?_
      have o1 := one_tb (m := [(pinId, .var (.int .i64 (K : Nat))), (pinId + 1, .bld (.row none [.sl []] 0 32 3 ((L.take k).map qr)))]) (g := pinId + 1) rfl
      have lt : ((L.take k).map qr).length = k := by simp; omega
      have hs := take_snoc hk
      repeat (first | (refine W.app (g := pinId + 1) (v := v) (cs := [.sl []]) (es := (L.take k).map qr) (j := 0) 3 rfl rfl rfl rfl rfl rfl rfl rfl (by intro h; injection h with h; exact absurd h (by decide)) rfl rfl rfl rfl rfl rfl rfl ?_; conv => whnf) | (refine W.RS (by kernel_rfl) ?_; conv => whnf) | (refine W.R (by kernel_rfl) ?_; conv => whnf) | (refine W.S ?_) | (refine W.block ?_) | (refine W.skip ?_; conv => whnf) | (refine W.condF rfl ?_) | (refine ⟨one_arr (one_var (one_var (one_upd o1))), _, _, rfl, one3, by show (((L.take k).map qr).length + 1) * 56 ≤ (140737488355328 : Nat); omega, by unfold maxLen; show ((L.take k).map qr).length + 1 ≤ _; omega, ?_⟩; conv => whnf) | (refine ⟨false, decide_eq_false (by omega), ?_⟩; conv => whnf) | (refine ⟨rfl, ?_⟩; conv => whnf))
      refine ⟨?_, trivial⟩
      show some (Bx.bld (.row none [.sl []] 0 32 3 ((L.take k).map qr ++ [qr (L.getD k 0)]))) = some (Bx.bld (.row none [.sl []] 0 32 3 ((L.take (k + 1)).map qr)))
      rw [hs, List.map_append]; rfl
  · rw [pairQ_len, show min L.length K = K by omega]
    refine W.shutRow (g := pinId + 1) (pq (L.take K)) rfl (one_tb rfl) (.inr ⟨rfl, rfl, rfl⟩) ?_
    repeat (first | (refine W.RS (by kernel_rfl) ?_; conv => whnf) | (refine W.ret ?_; conv => whnf) | (refine W.exit ?_; conv => whnf))
    rfl
theorem t5_ok {J : Keep} (B : Base J) {e : List (List Rat)} {y L : List Rat} (h : EqOk e) (hy : y.length = e.length - 1) (S : Sol (e.map trimL) (e.length - 1) ((e.getD (e.length - 1) []).getD 0 0) y L) {K : Nat} (hK : K = L.length) : C J 5 [fnI e y, .int .i64 (K : Nat)] (.tup [pq L, .int .i64 0]) := by
  subst hK
  refine fn_ok Tryz.func5 rfl rfl rfl ?_
  have hlen := S.len
  have c1 := t12_ok B h hy
  have c2 := t13_spot B h
  rw [dg_zero_qr] at c2
  have c3 := t14_ok B S
  repeat (first | (refine W.RS (by kernel_rfl) ?_; conv => whnf) | (refine W.S ?_) | (refine W.block ?_) | (refine W.ret ?_; conv => whnf) | (refine W.skip ?_; conv => whnf) | (refine W.condF rfl ?_) | (refine ⟨_, c1, ?_⟩; conv => whnf) | (refine ⟨_, c2, ?_⟩; conv => whnf) | (refine ⟨_, c3, ?_⟩; conv => whnf) | (refine ⟨false, decide_eq_false (by omega), ?_⟩; conv => whnf) | (refine ⟨false, bne_eq_false_iff_eq.2 (by omega), ?_⟩; conv => whnf) | (refine ⟨rfl, ?_⟩; conv => whnf) | (refine ⟨_, fun h => absurd h Bool.false_ne_true, fun _ => rfl, ?_⟩; conv => whnf))
  rfl
theorem t5_zero {J : Keep} (B : Base J) {e : List (List Rat)} {y : List Rat} (h : EqOk e) (hy : y.length = e.length - 1) : C J 5 [fnI e y, .int .i64 0] (.tup [.sl [], .int .i64 0]) := by
  refine fn_ok Tryz.func5 rfl rfl rfl ?_
  have c1 := t12_ok B h hy
  have c2 := t13_spot B h
  rw [dg_zero_qr] at c2
  have c3 := t14_zero J (e.map trimL) (e.length - 1) ((e.getD (e.length - 1) []).getD 0 0) y
  repeat (first | (refine W.RS (by kernel_rfl) ?_; conv => whnf) | (refine W.S ?_) | (refine W.block ?_) | (refine W.ret ?_; conv => whnf) | (refine W.skip ?_; conv => whnf) | (refine W.condF rfl ?_) | (refine ⟨_, c1, ?_⟩; conv => whnf) | (refine ⟨_, c2, ?_⟩; conv => whnf) | (refine ⟨_, c3, ?_⟩; conv => whnf) | (refine ⟨false, decide_eq_false (by omega), ?_⟩; conv => whnf) | (refine ⟨false, bne_eq_false_iff_eq.2 (by omega), ?_⟩; conv => whnf) | (refine ⟨rfl, ?_⟩; conv => whnf) | (refine ⟨_, fun h => absurd h Bool.false_ne_true, fun _ => rfl, ?_⟩; conv => whnf))
  rfl
end Go.Proofs.Fl
namespace Go.Proofs.Fl
open Go.RowKit Go.Proofs.Dig
attribute [local irreducible] IntKind.wrap PureC MutC MakC IterC
abbrev zq : IV := .agg [.sl [], .bool false, .sl []]
theorem cmp_zz (J : Keep) : C J 7 [zq, zq] (.int .i64 0) := by
  have := f37_ok (J := J) (a := 0) (b := 0) (Nat.lt_of_le_of_lt qln_z (by decide)) (Nat.lt_of_le_of_lt qln_z (by decide))
  have e : cmpR 0 0 = 0 := by decide +kernel
  rw [e, dg_zero_qr] at this
  exact this
noncomputable abbrev spans (y : List Rat) : IV := .sl (y.map fun q => sd q q)
theorem one6 {x : Rat} : ∀ y ∈ [sd x x], y.cells.length = 6 ∧ y.isTup = false := by
  intro y hy
  rw [List.mem_singleton.1 hy]
  exact ⟨rfl, rfl⟩
set_option maxHeartbeats 1000000 in
theorem t65_ok (J : Keep) {e : List (List Rat)} {y : List Rat} {g : Int} (hy : 0 < y.length) (hy5 : y.length ≤ 5) : C J 65 [fnI e y, zq, .int .i64 g] (spans y) := by
  refine fn_ok Tryz.func65 rfl rfl rfl ?_
  have ly : (y.map qr).length = y.length := by simp
  have c0 := cmp_zz J
  repeat (first | (refine W.RS (by kernel_rfl) ?_; conv => whnf) | (refine W.S ?_) | (refine W.block ?_) | (refine ⟨_, rfl, ?_⟩; conv => whnf))
  refine W.loop (G := { k : Nat // k ≤ y.length }) (fun k => mkA [(3, .ptr 0 0), (4, .ptr 1 0), (7, match k.1 with | 0 => .nilS | n + 1 => .ref 2 0 (n + 1) true), (22, .iv (.sl (y.map qr))), (23, .iv (.int .i64 (y.length : Nat))), (24, .iv (.int .i64 (k.1 : Nat)))] ((0, .var (fnI e y)) :: (1, .var zq) :: (match k.1 with | 0 => [] | n + 1 => [(2, .arr 65 6 ((y.take (n + 1)).map fun q => sd q q) false)])) 20) (fun k => y.length - k.1) ⟨0, Nat.zero_le _⟩
    (Wk.tab [] ⟨⟨rfl, rfl⟩, ⟨rfl, rfl⟩, ⟨rfl, rfl⟩, ⟨rfl, rfl⟩, ⟨ivEq (by rw [ly]), rfl⟩, ⟨rfl, rfl⟩, trivial⟩ ⟨rfl, rfl, trivial⟩ rfl) ?_
  rintro ⟨k, hk⟩
  have hk : k ≤ y.length := hk
  by_cases h : k < y.length
  · have hg := getq (f := qr) h
    have hs := take_snoc h
    have c1 := f90_ok J (y.getD k 0)
    obtain ⟨x, hx⟩ : ∃ x, y.getD k 0 = x := ⟨_, rfl⟩
    rw [hx] at hg hs c1
    cases k with
    | zero =>
      show W J _ _ (mkA [(3, .ptr 0 0), (4, .ptr 1 0), (7, .nilS), (22, .iv (.sl (y.map qr))), (23, .iv (.int .i64 (y.length : Nat))), (24, .iv (.int .i64 ((0 : Nat) : Int)))] [(0, .var (fnI e y)), (1, .var zq)] 20) _
      repeat (first | (refine W.RS (by kernel_rfl) ?_; conv => whnf) | (refine W.R (by kernel_rfl) ?_; conv => whnf) | (refine W.S ?_) | (refine W.block ?_) | (refine W.skip ?_; conv => whnf) | (refine W.condT rfl ?_) | (refine ⟨_, c1, ?_⟩; conv => whnf) | (refine ⟨0, _, rfl, hg, rfl, ?_⟩; conv => whnf) | (refine ⟨false, rfl, one6, Nat.le_of_ble_eq_true rfl, Nat.le_of_ble_eq_true rfl, ?_⟩; conv => whnf) | (refine ⟨rfl, _, w64 (by omega), ?_⟩; conv => whnf) | (refine ⟨true, decide_eq_true (by omega), ?_⟩; conv => whnf) | (refine ⟨rfl, ?_⟩; conv => whnf))
      refine ⟨⟨1, by omega⟩, Wk.tab [(2, 29)] ⟨⟨rfl, rfl⟩, ⟨rfl, rfl⟩, ⟨rfl, rfl⟩, ⟨rfl, rfl⟩, ⟨rfl, rfl⟩, ⟨rfl, rfl⟩, trivial⟩ ⟨rfl, rfl, ?_, trivial⟩ rfl, by dsimp only; omega⟩
      show some (Bx.arr 65 6 [sd x x] false) = some (Bx.arr 65 6 ((y.take (0 + 1)).map fun q => sd q q) false)
      rw [hs]; rfl
    | succ n =>
      show W J _ _ (mkA [(3, .ptr 0 0), (4, .ptr 1 0), (7, .ref 2 0 (n + 1) true), (22, .iv (.sl (y.map qr))), (23, .iv (.int .i64 (y.length : Nat))), (24, .iv (.int .i64 ((n + 1 : Nat) : Int)))] [(0, .var (fnI e y)), (1, .var zq), (2, .arr 65 6 ((y.take (n + 1)).map fun q => sd q q) false)] 20) _
      have ln : n + 1 = ((y.take (n + 1)).map fun q => sd q q).length := by simp; omega
      repeat (first | (refine W.RS (by kernel_rfl) ?_; conv => whnf) | (refine W.R (by kernel_rfl) ?_; conv => whnf) | (refine W.S ?_) | (refine W.block ?_) | (refine W.skip ?_; conv => whnf) | (refine W.condT rfl ?_) | (refine ⟨_, c1, ?_⟩; conv => whnf) | (refine ⟨n + 1, _, rfl, hg, rfl, ?_⟩; conv => whnf) | (refine ⟨by simp, rfl, rfl, ln, one6, by show (n + 1 + 1) * 112 ≤ (140737488355328 : Nat); omega, by unfold maxLen; show n + 1 + 1 ≤ _; omega, ?_⟩; conv => whnf) | (refine ⟨rfl, _, w64 (by omega), ?_⟩; conv => whnf) | (refine ⟨true, decide_eq_true (by omega), ?_⟩; conv => whnf) | (refine ⟨rfl, ?_⟩; conv => whnf))
      refine ⟨⟨n + 2, by omega⟩, Wk.tab [(2, 29)] ⟨⟨rfl, rfl⟩, ⟨rfl, rfl⟩, ⟨rfl, rfl⟩, ⟨rfl, rfl⟩, ⟨rfl, rfl⟩, ⟨rfl, rfl⟩, trivial⟩ ⟨rfl, rfl, ?_, trivial⟩ rfl, by dsimp only; omega⟩
      show some (Bx.arr 65 6 (((y.take (n + 1)).map fun q => sd q q) ++ [sd x x]) false) = some (Bx.arr 65 6 ((y.take (n + 1 + 1)).map fun q => sd q q) false)
      rw [hs, List.map_append]; rfl
  · have ek : k = y.length := by omega
    subst ek
    cases y with
    | nil => exact absurd hy (by simp)
    | cons a t =>
      show W J _ _ (mkA [(3, .ptr 0 0), (4, .ptr 1 0), (7, .ref 2 0 (t.length + 1) true), (22, .iv (.sl ((a :: t).map qr))), (23, .iv (.int .i64 ((a :: t).length : Nat))), (24, .iv (.int .i64 ((a :: t).length : Nat)))] [(0, .var (fnI e (a :: t))), (1, .var zq), (2, .arr 65 6 (((a :: t).take (t.length + 1)).map fun q => sd q q) false)] 20) _
      repeat (first | (refine W.RS (by kernel_rfl) ?_; conv => whnf) | (refine W.S ?_) | (refine W.block ?_) | (refine W.exit ?_; conv => whnf) | (refine W.condF rfl ?_) | (refine ⟨false, decide_eq_false (by omega), ?_⟩; conv => whnf) | (refine ⟨rfl, ?_⟩; conv => whnf))
      have et : (a :: t).take (t.length + 1) = a :: t := List.take_of_length_le (by simp)
      rw [et]
      refine W.loop (G := Unit) (fun _ => mkA [(3, .ptr 0 0), (4, .ptr 1 0), (7, .ref 2 0 (t.length + 1) true), (10, .ptr 3 0)] [(0, .var (fnI e (a :: t))), (1, .var zq), (2, .arr 65 6 ((a :: t).map fun q => sd q q) false), (3, .var zq)] 40) (fun _ => 0) ()
        (Wk.tab [(3, 23)] ⟨⟨rfl, rfl⟩, ⟨rfl, rfl⟩, ⟨rfl, rfl⟩, ⟨rfl, rfl⟩, trivial⟩ ⟨rfl, rfl, rfl, rfl, trivial⟩ rfl) ?_
      rintro ⟨⟩
      repeat (first | (refine W.RS (by kernel_rfl) ?_; conv => whnf) | (refine W.S ?_) | (refine W.ret ?_; conv => whnf) | (refine W.exit ?_; conv => whnf) | (refine W.condF rfl ?_) | (refine ⟨_, c0, ?_⟩; conv => whnf) | (refine ⟨false, bne_eq_false_iff_eq.2 (by omega), ?_⟩; conv => whnf) | (refine ⟨rfl, ?_⟩; conv => whnf))
      show IV.sl ((((a :: t).map fun q => sd q q).drop 0).take (t.length + 1)) = spans (a :: t)
      rw [List.drop_zero, List.take_of_length_le (by simp)]
theorem t64_ok (J : Keep) {e : List (List Rat)} {y : List Rat} {g : Int} (hy : 0 < y.length) (hy5 : y.length ≤ 5) : EF J 64 [.ptr 0, .ptr 1, .ptr 2, .ptr 3] [fnI e y, zq, .int .i64 g, .sl []] [fnI e y, zq, .int .i64 g, spans y] (.tup []) := by
  refine ef_ok Tryz.func64 rfl rfl rfl rfl rfl ?_
  have c1 := t65_ok J (e := e) (y := y) (g := g) hy hy5
  repeat (first | (refine W.R (by kernel_rfl) ?_; conv => whnf) | (refine ⟨_, c1, ?_⟩; conv => whnf) | (refine ⟨rfl, ?_⟩; conv => whnf))
  exact trivial
theorem t42_ok (J : Keep) : C J 42 [.int .u8 1, zq] (.int .i64 0) := by
  refine fn_ok Tryz.func42 rfl rfl rfl ?_
  have c1 := f61_ok J (n := 1000) (by decide) (by decide)
  have c2 := f61_ok J (n := 64) (by decide) (by decide)
  have c3 : C J 66 [zq] (qr 0) := by
    have := f54_ok J 0
    rw [dg_zero_qr] at this
    exact this
  have c4 : C J 7 [qr 0, qr ((64 : Int) : Rat)] (.int .i64 (-1)) := by
    have := f37_ok (J := J) (a := 0) (b := ((64 : Int) : Rat)) (Nat.lt_of_le_of_lt qln_z (by decide)) (Nat.lt_of_le_of_lt (qln_i64 (z := 64) (by decide) (by decide)) (by decide))
    have e : cmpR 0 ((64 : Int) : Rat) = -1 := by decide +kernel
    rw [e] at this
    exact this
  repeat (first | (refine W.RS (by kernel_rfl) ?_; conv => whnf) | (refine W.R (by kernel_rfl) ?_; conv => whnf) | (refine W.S ?_) | (refine W.block ?_) | (refine W.ret ?_; conv => whnf) | (refine W.skip ?_; conv => whnf) | (refine W.condF rfl ?_) | (refine W.condT rfl ?_) | (refine ⟨_, c1, ?_⟩; conv => whnf) | (refine ⟨_, c2, ?_⟩; conv => whnf) | (refine ⟨_, c3, ?_⟩; conv => whnf) | (refine ⟨_, c4, ?_⟩; conv => whnf) | (refine ⟨true, decide_eq_true (by omega), ?_⟩; conv => whnf) | (refine ⟨false, decide_eq_false (by omega), ?_⟩; conv => whnf) | (refine ⟨rfl, ?_⟩; conv => whnf) | (refine ⟨_, fun h => absurd h Bool.false_ne_true, fun _ => rfl, ?_⟩; conv => whnf) | (refine ⟨_, fun _ => rfl, fun h => absurd h.symm Bool.false_ne_true, ?_⟩; conv => whnf))
  rfl
abbrev ptZ : IV := .agg [.int .u8 1, .sl [], .bool false, .sl []]
theorem t67_ok (J : Keep) : C J 67 [ptZ] (.tup [qr 1, .bool true]) := by
  refine fn_ok Tryz.func67 rfl rfl rfl ?_
  have c1 := t31_ok J
  have c2 : C J 16 [zq] (.int .i64 0) := by
    have := f22_ok J 0
    rw [dg_zero_qr] at this
    exact this
  repeat (first | (refine W.RS (by kernel_rfl) ?_; conv => whnf) | (refine W.S ?_) | (refine W.block ?_) | (refine W.ret ?_; conv => whnf) | (refine W.skip ?_; conv => whnf) | (refine W.condT rfl ?_) | (refine ⟨_, c1, ?_⟩; conv => whnf) | (refine ⟨_, c2, ?_⟩; conv => whnf) | (refine ⟨true, decide_eq_true (by omega), ?_⟩; conv => whnf) | (refine ⟨rfl, ?_⟩; conv => whnf))
  rfl
theorem t43_ok {J : Keep} (B : Base J) : C J 43 [ptZ, .int .i64 8] (sd 1 1) := by
  refine fn_ok Tryz.func43 rfl rfl rfl ?_
  have c1 := t67_ok J
  have c2 : C J 68 [qr 1, .int .i64 8] (sd 1 1) := by
    have := f45_ok B (q := 1) (Nat.lt_of_le_of_lt qln_one (by decide)) 8
    have e1 : (((1 * (((gk 8 : Nat) : Int) : Rat)).floor : Rat) * mkRat 1 (gk 8)) = 1 := by decide +kernel
    have e2 : (-((-(1 * (((gk 8 : Nat) : Int) : Rat))).floor : Rat) * mkRat 1 (gk 8)) = 1 := by decide +kernel
    rw [e1, e2] at this
    exact this
  repeat (first | (refine W.RS (by kernel_rfl) ?_; conv => whnf) | (refine W.S ?_) | (refine W.ret ?_; conv => whnf) | (refine W.condT rfl ?_) | (refine ⟨_, c1, ?_⟩; conv => whnf) | (refine ⟨_, c2, ?_⟩; conv => whnf))
  rfl
theorem t21_ok {J : Keep} (B : Base J) : C J 21 [.int .u8 1, zq, .int .i64 8] (.tup [sd 1 1, .int .i64 0]) := by
  refine fn_ok Tryz.func21 rfl rfl rfl ?_
  have c1 := t42_ok J
  have c2 := t43_ok B
  repeat (first | (refine W.RS (by kernel_rfl) ?_; conv => whnf) | (refine W.S ?_) | (refine W.ret ?_; conv => whnf) | (refine W.skip ?_; conv => whnf) | (refine W.condF rfl ?_) | (refine ⟨_, c1, ?_⟩; conv => whnf) | (refine ⟨_, c2, ?_⟩; conv => whnf) | (refine ⟨false, bne_eq_false_iff_eq.2 (by omega), ?_⟩; conv => whnf) | (refine ⟨rfl, ?_⟩; conv => whnf))
  rfl
end Go.Proofs.Fl
namespace Go.Proofs.Fl
open Go.RowKit
theorem eff_raw {X : Cx} {f : FuncId} {fn : Func} {c : Code} (hf : X.P.funcs[f]? = some fn) (hb : fn.body = some c) (hn : (fn.name == "runtime.NumGoroutine") = false) {xs : List PV} {zs zs' : List IV} {r : IV} (hzl : zs.length ≤ 8) (hzz : zs'.length = zs.length) (hx : xs.length ≤ fn.ntmps)
    (h : ∀ (E : Env) (R : Ending → World → Prop) (H : Heap) (β : Nat → Nat × Nat) (a : Act) (w : World), E.mrk = [] → (∀ w, BelowO E.own E.w0 w → X.I w) → St E fn.ntmps H β (argE xs) (tbB (bxL pinId zs)) a w →
      (∀ tm bx H β a' w', retP X.T fn.results.toList r ⟨tm, bx, 0⟩ → boxesP bx pinId zs' → St E fn.ntmps H β tm bx a' w' → ∃ v, (results fn a'.tmps).run X.P w' = .ok v w' ∧ R (.returned v) w') → c.wpIn (FW none) 0 X.P (bodyPostM (FW none) 0 X.P fn R) a w) : EffC X.P X.I f xs zs zs' r := by
  refine ⟨⟨fn, hf, hn, by rw [hb]; rfl⟩, fun H w bs args hp hI hH hbs hargs => ?_⟩
  have hlen := hargs.length
  have hbl := BRs_len hbs
  refine (callsIn_wide (n := 0)).1 (callsIn_of_wp_marks hf hb trivial ?_)
  let ow : Nat → Prop := fun k => k ∈ bs ∨ w.heap.size ≤ k
  let pn : Nat → Option (Nat × Nat) := fun g => if pinId ≤ g ∧ g < pinId + bs.length then some (bs.getD (g - pinId) 0, 0) else none
  have gb : ∀ j, j < bs.length → bs[j]? = some (bs.getD j 0) := fun j hj => by simp [hj]
  refine h ⟨ow, w, H, pn, []⟩ _ H (fun g => (bs.getD (g - pinId) 0, 0)) _ w rfl (fun w' hw' => hI w' hw') ⟨⟨hH, BelowO.refl _ _, fun _ hk => .inr hk, HExtO.refl _ _, fun t => ?_, fun g b hg => ?_, fun g g' b b' hg hg' _ _ e => ?_, fun p k hk => ?_, MarksOk.nil _ _, fun g s g' b R hg => (by obtain ⟨j, z, _, _, e⟩ := bxL_mem (tbB_mem hg); cases e)⟩, rfl, ?_⟩ (fun tm bx H' β a' w' k kb hS => ?_)
  rotate_left
  rotate_left
  rotate_left
  rotate_left
  rotate_left
  · unfold retP at k
    split at k
    · rename_i ys fs hr
      obtain ⟨H1, l1, S1, vs, e2, V1⟩ := resI_ok X.hT hS.sim hr
      have hβ : ∀ j, j < bs.length → β (pinId + j) = (bs.getD j 0, 0) := fun j hj => by
        have hpj : pn (pinId + j) = some (bs.getD j 0, 0) := by
          show (if pinId ≤ pinId + j ∧ pinId + j < pinId + bs.length then some (bs.getD (pinId + j - pinId) 0, 0) else none) = _
          rw [if_pos ⟨by omega, by omega⟩, Nat.add_sub_cancel_left]
        exact (S1.pin _ _ hpj).1
      have hBR := boxesP_brs S1 hβ bs 0 zs' (by simp) (by omega) (boxesP_fz fs kb)
      have hnone : ∀ (bs : List Nat) (zs : List IV), BRs ow w' H1 bs zs → ∀ b ∈ bs, H1 b = none := by
        intro bs
        induction bs with
        | nil => intro zs _ b hb; cases hb
        | cons b0 bs ih =>
          intro zs hz b hb
          cases zs with
          | nil => exact hz.elim
          | cons z zs =>
            rcases List.mem_cons.1 hb with rfl | hb
            · exact hz.1.2.1
            · exact ih zs hz.2 b hb
      refine ⟨(if h : vs.toArray.size = 1 then vs.toArray[0] else .tuple vs.toArray), ?_, _, H1, rfl, S1.has, ⟨S1.ext.1, fun k arr hk => ?_⟩, ?_, S1.below, hBR⟩
      · unfold results
        have e0 : (fn.results.mapM fun | .tmp t => pure (a'.tmps.getD t undef) | .cell a t => do loadVar t (← asAddr (a'.tmps.getD a undef)) : Sem (Array Value)) = List.toArray <$> fn.results.toList.mapM (resOf a'.tmps) := by
          rw [Array.mapM_eq_mapM_toList]
          rfl
        refine (congrArg (fun (x : Sem (Array Value)) => (x >>= fun vs => pure (if h : vs.size = 1 then vs[0] else .tuple vs)).run X.P w') e0).trans ?_
        simp only [Sem.run_bind, Sem.run_map, e2, Result.andThen_ok, Sem.run_pure]
      · rcases S1.ext.2 k arr hk with h0 | h0
        · exact .inl h0
        · rcases h0 with h0 | h0
          · rw [hnone bs zs' hBR k h0] at hk; cases hk
          · exact .inr h0
      · rw [← k]
        cases V1 with
        | nil => exact .tup [] [] .nil
        | cons v x vs xs h0 t =>
          cases t with
          | nil => exact h0
          | cons v' x' vs xs h1 t =>
            have : ¬ (v :: v' :: vs).toArray.size = 1 := by simp
            rw [dif_neg this]
            exact .tup _ _ (.cons _ _ _ _ h0 (.cons _ _ _ _ h1 t))
    · exact k.elim
  · show SR _ _ _ _ (argE xs t)
    rw [argE_get]
    cases hx' : xs[t]? with
    | some x =>
      have hlt : t < args.length := by rw [hlen]; exact (List.getElem?_eq_some_iff.1 hx').1
      obtain ⟨v, h1, h2⟩ := hargs.get t x hx'
      have ev : (args.toArray ++ Array.replicate (fn.ntmps - args.toArray.size) undef).getD t undef = v := by
        simp [Array.getElem?_append, hlt]
        exact (List.getElem?_eq_some_iff.1 h1).2
      rw [ev]
      cases x with
      | iv x => exact h2
      | ptr i =>
        obtain ⟨h3, h4⟩ := h2
        refine ⟨bxL_some (by omega), ?_⟩
        rw [h4]
        show Value.pointer (some ⟨bs.getD i 0, 0, none⟩) = Value.pointer (some ⟨bs.getD (pinId + i - pinId) 0, 0, none⟩)
        rw [Nat.add_sub_cancel_left]
      | clo f is =>
        obtain ⟨h3, h4⟩ := h2
        refine ⟨fun g hg => ?_, ?_⟩
        · obtain ⟨i, hi, e⟩ := List.mem_map.1 hg
          rw [← e]
          have hi2 := h3 i hi
          exact bxL_some (by omega)
        · have hl : (is.map ((fun b => Value.pointer (some ⟨b, 0, none⟩)) ∘ fun i => bs.getD i 0)) = (is.map ((fun g => Value.pointer (some ⟨bs.getD (g - pinId) 0, 0, none⟩)) ∘ fun i => pinId + i)) := by
            apply List.map_congr_left
            intro i _
            show Value.pointer (some ⟨bs.getD i 0, 0, none⟩) = Value.pointer (some ⟨bs.getD (pinId + i - pinId) 0, 0, none⟩)
            rw [Nat.add_sub_cancel_left]
          rw [h4, cloV, List.map_map, List.map_map]
          exact congrArg (fun l => Value.func (.func f) #[] (List.toArray l)) hl
    | none =>
      have hge : ¬ t < args.length := by
        intro hlt
        rw [hlen] at hlt
        simp [hlt] at hx'
      show _ = undef
      simp [Array.getElem?_append, hge, Array.getElem?_replicate]
      split <;> rfl
  · obtain ⟨j, z, rfl, hz, rfl⟩ := bxL_mem (tbB_mem hg)
    obtain ⟨b, e1, e2⟩ := BRs_get hbs j z hz
    simp only [Nat.add_sub_cancel_left]
    rw [show (bs.getD j 0, 0) = (b, 0) by simp [e1]]
    exact e2
  · obtain ⟨j, z, rfl, hz, rfl⟩ := bxL_mem (tbB_mem hg)
    obtain ⟨j', z', rfl, hz', rfl⟩ := bxL_mem (tbB_mem hg')
    obtain ⟨b1, e1, _⟩ := BRs_get hbs j z hz
    obtain ⟨b2, e2, _⟩ := BRs_get hbs j' z' hz'
    simp only [Nat.add_sub_cancel_left] at e
    simp [e1, e2] at e
    apply Classical.byContradiction
    intro hne
    have hne : ¬ j = j' := fun e0 => hne (by rw [e0])
    have l1 := (List.getElem?_eq_some_iff.1 e1).1
    have l2 := (List.getElem?_eq_some_iff.1 e2).1
    have v1 := (List.getElem?_eq_some_iff.1 e1).2
    have v2 := (List.getElem?_eq_some_iff.1 e2).2
    have hpg := List.pairwise_iff_getElem.1 hp
    rcases Nat.lt_or_gt_of_ne hne with hlt | hlt
    · exact hpg j j' l1 l2 hlt (by rw [v1, v2, e])
    · exact hpg j' j l2 l1 hlt (by rw [v1, v2, e])
  · replace hk : (if pinId ≤ p ∧ p < pinId + bs.length then some (bs.getD (p - pinId) 0, 0) else none) = some k := hk
    split at hk
    · rename_i hpp
      cases hk
      refine ⟨rfl, ?_, by omega, hpp.1⟩
      have := bxL_some (i := pinId) (zs := zs) (j := p - pinId) (by omega)
      rwa [show pinId + (p - pinId) = p by omega] at this
    · cases hk
  · show (args.toArray ++ Array.replicate (fn.ntmps - args.toArray.size) undef).size = fn.ntmps
    simp; omega
end Go.Proofs.Fl
namespace Go.Proofs.Fl
open Go.RowKit
theorem wp_dfr {P : Program} {o : Oper} {ts : Array Value} {ds : List Deferred} {K : Act → World → Prop} {Q : Exit → Act → World → Prop} {w : World} (h : o.wp P ⟨ts, []⟩ w (fun a' w' => a'.defers = [] ∧ K ⟨a'.tmps, ds⟩ w') (fun _ _ _ => False)) : o.wp P ⟨ts, ds⟩ w K Q := by
  unfold Oper.wp at h ⊢
  have e : (Act.mk ts ds).eval = (Act.mk ts []).eval := by funext x; cases x <;> rfl
  rw [e]
  have hput : ∀ v w', (((Act.mk ts []).put o.dst v).defers = [] ∧ K ⟨((Act.mk ts []).put o.dst v).tmps, ds⟩ w') → K ((Act.mk ts ds).put o.dst v) w' := fun v w' hk => by
    cases hd : o.dst with
    | none => rw [hd] at hk; exact hk.2
    | some d => rw [hd] at hk; exact hk.2
  generalize (execOp (Act.mk ts []).eval o).run P w = r at *
  cases r with
  | ok x w' =>
    cases x with
    | value v => exact hput v w' h
    | skip => exact hput undef w' h
    | defer d =>
      have h : (({ Act.mk ts [] with defers := d :: [] } : Act).put o.dst undef).defers = [] ∧ _ := h
      cases hd : o.dst with
      | none => rw [hd] at h; cases h.1
      | some d' => rw [hd] at h; cases h.1
    | enter f args =>
      refine Calls.mono h fun e w'' hk => ?_
      cases e with
      | returned v => exact hput v w'' hk
      | panicked ch => exact hk.elim
      | outgrown => obtain ⟨_, _, hf⟩ := hk; exact hf.elim
    | row r args => exact Rows.mono h fun v w'' hk => hput v w'' hk
    | _ => exact h.elim
  | halt x w' =>
    cases x <;> exact h.elim
section
variable {X : Cx} {E : Env} {nt : Nat} {H : Heap} {β : Nat → Nat × Nat} {tm : Nat → SV} {bx : Nat → Option Bx} {a : Act} {w : World}
theorem op_eff4 (hS : St E nt H β tm bx a w) (hI : ∀ w', BelowO E.own E.w0 w' → X.I w') {o : Oper} {fo : Operand} {ats : Array TypeId} (hop : o.op = .call { callee := .value fo, args := #[], argTypes := ats }) (hdo : ∀ d, o.dst = some d → d < nt) {f : FuncId} {g0 g1 g2 g3 : Nat} {z0 z1 z2 z3 y0 y1 y2 y3 r : IV}
    (hfo : evS tm fo = .clo f [g0, g1, g2, g3]) (hz : cloB bx [g0, g1, g2, g3] [z0, z1, z2, z3]) (hpw : [g0, g1, g2, g3].Pairwise (· ≠ ·)) (hE : EffC X.P X.I f [.ptr 0, .ptr 1, .ptr 2, .ptr 3] [z0, z1, z2, z3] [y0, y1, y2, y3] r) {K : Act → World → Prop} {Q : Exit → Act → World → Prop}
    (hK : ∀ H' a' w', St E nt H' β (putS tm o.dst (.iv r)) (updL bx [g0, g1, g2, g3] [y0, y1, y2, y3]) a' w' → K a' w') : o.wp X.P a w K Q := by
  obtain ⟨⟨fn, hf1, hf2, hf3⟩, hc⟩ := hE
  have hv := ev_ok hS.sim rfl fo
  rw [hfo] at hv
  have hcap : a.eval fo = .func (.func f) #[] ([g0, g1, g2, g3].map fun g => Value.pointer (some ⟨(β g).1, 0, none⟩)).toArray := hv.2
  have hPV : PVRL H ([g0, g1, g2, g3].map fun g => (β g).1) ([g0, g1, g2, g3].map fun g => Value.pointer (some ⟨(β g).1, 0, none⟩)) [.ptr 0, .ptr 1, .ptr 2, .ptr 3] :=
    ⟨⟨(by decide : (0 : Nat) < 4), rfl⟩, ⟨(by decide : (1 : Nat) < 4), rfl⟩, ⟨(by decide : (2 : Nat) < 4), rfl⟩, ⟨(by decide : (3 : Nat) < 4), rfl⟩, trivial⟩
  have hpb : ([g0, g1, g2, g3].map fun g => (β g).1).Pairwise (· ≠ ·) := by
    refine List.pairwise_map.2 (hpw.imp_of_mem fun {x y} hx hy hne e => hne ?_)
    obtain ⟨z1, hz1⟩ := cloB_get hz x hx
    obtain ⟨z2, hz3⟩ := cloB_get hz y hy
    exact hS.sim.inj x y _ _ hz1 hz3 rfl rfl e
  have hown : ∀ k, (k ∈ [g0, g1, g2, g3].map (fun g => (β g).1) ∨ w.heap.size ≤ k) → E.own k := fun k hk => hk.elim (fun e => by
    obtain ⟨g, hg, rfl⟩ := List.mem_map.1 e
    obtain ⟨z, ez⟩ := cloB_get hz g hg
    exact (hS.sim.box g _ ez).lo rfl) (hS.sim.lo k)
  have hcall := hc H w ([g0, g1, g2, g3].map fun g => (β g).1) ([g0, g1, g2, g3].map fun g => Value.pointer (some ⟨(β g).1, 0, none⟩)) hpb (fun w' hw' => hI _ (hS.sim.below.trans (hw'.mono hown))) hS.sim.has
    (cloB_brs hS.sim hz (fun g hg => .inl (List.mem_map.2 ⟨g, hg, rfl⟩))) hPV
  have hrun : (execOp a.eval o).run X.P w = .ok (.enter f ([g0, g1, g2, g3].map fun g => Value.pointer (some ⟨(β g).1, 0, none⟩)).toArray) w := by
    simp only [execOp, hop, resolve, hcap, Deferred.ofValue, Sem.run_bind, Sem.run_pure, Result.andThen_ok, invoke, callFunc, run_program, hf1, hf2, hf3, Bool.false_eq_true, if_false]
    congr 2
    apply Array.ext'
    simp
  unfold Oper.wp
  rw [hrun]
  refine hcall.mono ?_
  rintro e w2 ⟨v, H3, rfl, hh3, he3, hv3, hb3, hbr3⟩
  exact hK H3 _ w2 (St.put ⟨hS.sim.turn hz hpw rfl hb3 hh3 he3 hbr3, hS.defers, hS.size⟩ hdo (r := .iv r) hv3)
theorem op_step (hS : St E nt H β tm bx a w) (hI : ∀ w', BelowO E.own E.w0 w' → X.I w') {o : Oper} {ops : Array Oper} {rest : List Oper} {Q : Exit → Act → World → Prop} {g : Nat} {K : SV → Eff → Prop} (hg : o.guard = none) (hnd : ∀ c, o.op ≠ .defer c) (hd : ∀ d, o.dst = some d → d < nt) (ho : opP X.T X.C o (evS tm) bx g K)
    (hK : ∀ r eff H β a w, K r eff → St E nt H β (putS tm o.dst r) (wrAll (fzAll bx eff.fz) eff.wr) a w → wpListIn (FW none) 0 X.P ops Q rest a w) : wpListIn (FW none) 0 X.P ops Q (o :: rest) a w := by
  unfold wpListIn
  simp only [Region.wanted, hg, if_true]
  refine op_in hnd (Oper.wp_mono (fun a w hp => ?_) (opP_ok X.hT X.ok (fun w' hw' => hI w' (hS.sim.below.trans hw')) hS hd ho))
  obtain ⟨r, eff, H, β, hk, hs⟩ := hp
  exact hK r eff H β a w hk hs
theorem op_stepD {ts : Array Value} {ds : List Deferred} (hm : E.mrk = []) (hS : St E nt H β tm bx ⟨ts, []⟩ w) (hI : ∀ w', BelowO E.own E.w0 w' → X.I w') {o : Oper} {ops : Array Oper} {rest : List Oper} {Q : Exit → Act → World → Prop} {g : Nat} {K : SV → Eff → Prop} (hg : o.guard = none) (hnd : ∀ c, o.op ≠ .defer c) (hd : ∀ d, o.dst = some d → d < nt) (ho : opP X.T X.C o (evS tm) bx g K)
    (hK : ∀ r eff H β ts w, K r eff → St E nt H β (putS tm o.dst r) (wrAll (fzAll bx eff.fz) eff.wr) ⟨ts, []⟩ w → wpListIn (FW none) 0 X.P ops Q rest ⟨ts, ds⟩ w) : wpListIn (FW none) 0 X.P ops Q (o :: rest) ⟨ts, ds⟩ w := by
  unfold wpListIn
  simp only [Region.wanted, hg, if_true]
  refine op_in hnd (wp_dfr (Oper.wp_mono (fun a w hp => ?_) (opP_ok X.hT X.ok (fun w' hw' => hI w' (hS.sim.below.trans hw')) hS hd ho)))
  obtain ⟨r, eff, H, β, hk, hs⟩ := hp
  have e : a.defers = [] := hs.defers.trans hm
  refine ⟨e, hK r eff H β a.tmps w hk ?_⟩
  obtain ⟨ts', ds'⟩ := a
  have e : ds' = [] := e
  subst e
  exact hs
theorem op_eff4D {ts : Array Value} {ds : List Deferred} (hm : E.mrk = []) (hS : St E nt H β tm bx ⟨ts, []⟩ w) (hI : ∀ w', BelowO E.own E.w0 w' → X.I w') {o : Oper} {fo : Operand} {ats : Array TypeId} (hg : o.guard = none) (hop : o.op = .call { callee := .value fo, args := #[], argTypes := ats }) (hdo : ∀ d, o.dst = some d → d < nt) {f : FuncId} {g0 g1 g2 g3 : Nat} {z0 z1 z2 z3 y0 y1 y2 y3 r : IV}
    (hfo : evS tm fo = .clo f [g0, g1, g2, g3]) (hz : cloB bx [g0, g1, g2, g3] [z0, z1, z2, z3]) (hpw : [g0, g1, g2, g3].Pairwise (· ≠ ·)) (hE : EffC X.P X.I f [.ptr 0, .ptr 1, .ptr 2, .ptr 3] [z0, z1, z2, z3] [y0, y1, y2, y3] r) {ops : Array Oper} {rest : List Oper} {Q : Exit → Act → World → Prop}
    (hK : ∀ H' ts' w', St E nt H' β (putS tm o.dst (.iv r)) (updL bx [g0, g1, g2, g3] [y0, y1, y2, y3]) ⟨ts', []⟩ w' → wpListIn (FW none) 0 X.P ops Q rest ⟨ts', ds⟩ w') : wpListIn (FW none) 0 X.P ops Q (o :: rest) ⟨ts, ds⟩ w := by
  unfold wpListIn
  simp only [Region.wanted, hg, if_true]
  refine op_in (fun c hc => by rw [hop] at hc; cases hc) (wp_dfr (op_eff4 hS hI hop hdo hfo hz hpw hE fun H' a w hs => ?_))
  have e : a.defers = [] := hs.defers.trans hm
  refine ⟨e, hK H' a.tmps w ?_⟩
  obtain ⟨ts', ds'⟩ := a
  have e : ds' = [] := e
  subst e
  exact hs
end
end Go.Proofs.Fl
namespace Go.Proofs.Fl
open Go.RowKit Go.Proofs.Dig
attribute [local irreducible] IntKind.wrap PureC MutC MakC IterC
theorem put_eval {a : Act} {d : Nat} {v : Value} (h : d < a.tmps.size) : (a.put (some d) v).eval (.tmp d) = v := by
  simp [Act.put, Act.eval, h]
theorem put_size {a : Act} {d : Nat} {v : Value} : (a.put (some d) v).tmps.size = a.tmps.size := by
  simp [Act.put]
theorem wpOpsS_rec {F : Fence} {n : Nat} {P : Program} {ops : Array Oper} {Q : Exit → Act → List Frame → World → Prop} {i : Nat} {rest : List Nat} {a : Act} {cs : List Frame} {w : World} {o : Oper} {ats : Array TypeId} (ho : ops[i]? = some o) (hg : o.guard = none) (hop : o.op = .call { callee := .builtin .recover, args := #[], argTypes := ats }) (hr : recoverD cs = none) (hF : ∀ f, F.fn f)
    (h : wpOpsSIn F n P ops Q rest (a.put o.dst .nilIface) cs w) : wpOpsSIn F n P ops Q (i :: rest) a cs w := by
  unfold wpOpsSIn
  rw [ho]
  refine ⟨fun f _ => hF f, ?_⟩
  rw [if_pos (by simp [Region.wanted, hg])]
  have hrun : (execOp a.eval o).run P w = .ok .recover w := by
    simp only [execOp, hop]
    rfl
  rw [hrun]
  simp only [hr]
  exact h
theorem wpOpsS_val {F : Fence} {n : Nat} {P : Program} {ops : Array Oper} {Q : Exit → Act → List Frame → World → Prop} {i : Nat} {rest : List Nat} {a : Act} {cs : List Frame} {w w' : World} {o : Oper} {v : Value} (ho : ops[i]? = some o) (hg : o.guard = none) (hF : ∀ f, F.fn f) (hrun : (execOp a.eval o).run P w = .ok (.value v) w')
    (h : wpOpsSIn F n P ops Q rest (a.put o.dst v) cs w') : wpOpsSIn F n P ops Q (i :: rest) a cs w := by
  unfold wpOpsSIn
  rw [ho]
  refine ⟨fun f _ => hF f, ?_⟩
  rw [if_pos (by simp [Region.wanted, hg]), hrun]
  exact h
theorem run_neq20 {J : Keep} {a : Act} {o : Oper} {w : World} (hop : o.op = .binOp .neq 20 (.tmp 5) (.const .nilIface) 20) (hv : a.eval (.tmp 5) = .nilIface) : (execOp a.eval o).run (cx J).P w = .ok (.value (.bool false)) w := by
  have hund : (cx J).P.underlying 20 = some (TypeDesc.interface #[]) := Tryz.underlying20
  have he : ∀ d, (Op.equalIn (d + 1) 20 .nilIface .nilIface).run (cx J).P w = .ok true w := fun d => by
    simp [Op.equalIn, run_underlying hund]
  have he2 : (Op.equal 20 .nilIface .nilIface).run (cx J).P w = .ok true w := he 9999
  have h2 : (binOp .neq 20 .nilIface .nilIface).run (cx J).P w = .ok (.bool false) w := by
    simp only [binOp]
    simp [he2]
  have h4 : (eqGuard .neq 20 (.tmp 5) (.const .nilIface) .nilIface .nilIface).run (cx J).P w = .ok () w := rfl
  have h3 : a.eval (.const .nilIface) = .nilIface := rfl
  simp only [execOp, hop, hv, h3, h4, Sem.run_bind, Sem.run_pure, Result.andThen_ok, h2]
theorem t63_ok {J : Keep} {z0 z1 z2 z3 y0 y1 y2 y3 : IV} (h : EF J 64 [.ptr 0, .ptr 1, .ptr 2, .ptr 3] [z0, z1, z2, z3] [y0, y1, y2, y3] (.tup [])) : EF J 63 [.clo 64 [0, 1, 2, 3]] [z0, z1, z2, z3] [y0, y1, y2, y3] (.int .i64 0) := by
  refine eff_raw (X := cx J) Tryz.func63 rfl rfl (Nat.le_of_ble_eq_true rfl) rfl (Nat.le_of_ble_eq_true rfl) fun E R H β a w hm hI hS hR => ?_
  obtain ⟨ts, ds⟩ := a
  have hd : ds = [] := hS.defers.trans hm
  subst hd
  refine wpIn_seq (wpIn_region_list ?_)
  refine op_step (X := cx J) (g := 0) (K := fun r eff => r = .ptr 0 0 ∧ eff = { wr := [(0, .var (.int .i64 0))], bump := 1 }) hS hI rfl (fun c hc => by cases hc) (fun d hd => by cases hd; exact Nat.le_of_ble_eq_true rfl) ⟨rfl, rfl⟩ ?_
  rintro r eff H1 β1 a1 w1 ⟨rfl, rfl⟩ hS1
  show Code.wpIn (FW none) 0 (cx J).P (.seq _ _) _ a1 w1
  refine wpIn_seq (wpIn_region_list ?_)
  refine op_step (X := cx J) (g := 1) (K := fun r eff => r = .clo 87 [0] ∧ eff = {}) hS1 hI rfl (fun c hc => by cases hc) (fun d hd => by cases hd; exact Nat.le_of_ble_eq_true rfl) ⟨rfl, rfl⟩ ?_
  rintro r eff H2 β2 a2 w2 ⟨rfl, rfl⟩ hS2
  obtain ⟨ts2, ds2⟩ := a2
  have hd2 : ds2 = [] := hS2.defers.trans hm
  subst hd2
  have hv : SR H2 β2 _ (ts2.getD 3 undef) (.clo 87 [0]) := hS2.sim.slot 3
  have hv2 : ts2.getD 3 undef = .func (.func 87) #[] #[.pointer (some ⟨(β2 0).1, 0, none⟩)] := hv.2
  obtain ⟨d, hd⟩ : ∃ d : Deferred, d = { target := .fn (.func 87) #[.pointer (some ⟨(β2 0).1, 0, none⟩)], args := #[] } := ⟨_, rfl⟩
  unfold wpListIn
  simp only [Region.wanted, if_true]
  refine ⟨fun _ _ => trivial, ?_⟩
  have hrun : (execOp (Act.mk ts2 []).eval { dst := none, op := .defer { callee := .value (.tmp 3), args := #[], argTypes := #[] }, type := 0, pos := "ode.go:54", after := #[{ on := 0, ground := .data }], guard := none }).run (cx J).P w2 = .ok (.defer d) w2 := by
    have hev : (Act.mk ts2 []).eval (.tmp 3) = .func (.func 87) #[] #[.pointer (some ⟨(β2 0).1, 0, none⟩)] := hv2
    simp only [execOp, resolve, hev, Deferred.ofValue, Sem.run_bind, Sem.run_pure, Result.andThen_ok, hd]
    simp
  rw [show (FW none).round = none from rfl, Oper.semAt_none, hrun]
  show Code.wpIn (FW none) 0 (cx J).P (.seq _ _) _ ⟨ts2, [d]⟩ w2
  refine wpIn_seq (wpIn_region_list ?_)
  refine op_stepD (X := cx J) (g := 2) (K := fun r eff => r = .clo 64 [pinId, pinId + 1, pinId + 2, pinId + 3] ∧ eff = {}) hm hS2 hI rfl (fun c hc => by cases hc) (fun d hd => by cases hd; exact Nat.le_of_ble_eq_true rfl) ⟨rfl, rfl⟩ ?_
  rintro r eff H3 β3 ts3 w3 ⟨rfl, rfl⟩ hS3
  refine op_eff4D (X := cx J) (g0 := pinId) (g1 := pinId + 1) (g2 := pinId + 2) (g3 := pinId + 3) hm hS3 hI rfl rfl (fun d hd => by cases hd; exact Nat.le_of_ble_eq_true rfl) rfl ⟨rfl, rfl, rfl, rfl, trivial⟩ (by simp) h ?_
  intro H4 ts4 w4 hS4
  show Code.wpIn (FW none) 0 (cx J).P (.seq _ _) _ ⟨ts4, [d]⟩ w4
  refine wpIn_seq (wpIn_region_list ?_)
  refine op_stepD (X := cx J) (g := 4) (K := fun r eff => r = .und ∧ eff = { rd := [0], fz := [], wr := [(0, .var (.int .i64 0))] }) hm hS4 hI rfl (fun c hc => by cases hc) (fun d hd => by cases hd) ⟨rfl, rfl⟩ ?_
  rintro r eff H5 β5 ts5 w5 ⟨rfl, rfl⟩ hS5
  show Code.wpIn (FW none) 0 (cx J).P .ret _ ⟨ts5, [d]⟩ w5
  refine wpIn_ret ?_
  show LeavesInM (FW none) 0 (cx J).P Tryz.f63 ts5 R [d] .returning w5
  rw [hd]
  unfold LeavesInM
  refine ⟨by simp, .inr ⟨(fun e => by cases e), _, _, 87, #[.pointer (some ⟨(β2 0).1, 0, none⟩)], rfl, ?_, fun _ _ => trivial, ?_⟩⟩
  · have hf1 : (cx J).P.funcs[87]? = some Tryz.f87 := Tryz.func87
    have hf2 : (Tryz.f87.name == "runtime.NumGoroutine") = false := rfl
    have hf3 : Tryz.f87.body.isNone = false := rfl
    simp only [invoke, callFunc, Sem.run_bind, run_program, Result.andThen_ok, hf1, hf2, hf3, Bool.false_eq_true, if_false, Sem.run_pure]
    congr 2
  · refine callsDIn_of_wpSIn Tryz.func87 rfl trivial fun c₀ cs hu => ?_
    have hrec : recoverD (c₀ :: cs) = none := by simp [recoverD, hu]
    have hsz : (#[Value.pointer (some ⟨(β2 0).1, 0, none⟩)] ++ Array.replicate (Tryz.f87.ntmps - (#[Value.pointer (some ⟨(β2 0).1, 0, none⟩)] : Array Value).size) undef).size = 17 := by
      have : Tryz.f87.ntmps = 17 := rfl
      rw [this]; simp
    generalize (#[Value.pointer (some ⟨(β2 0).1, 0, none⟩)] ++ Array.replicate (Tryz.f87.ntmps - (#[Value.pointer (some ⟨(β2 0).1, 0, none⟩)] : Array Value).size) undef) = t8 at hsz ⊢
    obtain ⟨a0, ha0⟩ : ∃ a0 : Act, a0 = ⟨t8, []⟩ := ⟨_, rfl⟩
    have hs0 : a0.tmps.size = 17 := by rw [ha0]; exact hsz
    have hd0 : a0.defers = [] := by rw [ha0]
    rw [← ha0]
    refine wpSIn_seq (wpSIn_region ?_)
    show wpOpsSIn _ _ _ _ _ [0, 1] _ _ _
    refine wpOpsS_rec rfl rfl rfl hrec (fun _ => trivial) ?_
    show wpOpsSIn _ _ _ _ _ [1] (a0.put (some 4) .nilIface) _ _
    refine wpOpsS_val rfl rfl (fun _ => trivial) (v := .nilIface) (w' := w5) ?_ ?_
    · show Result.ok (Next.value ((a0.put (some 4) .nilIface).eval (.tmp 4))) w5 = _
      rw [put_eval (by omega)]
    show Code.wpSIn _ _ _ (.seq _ _) _ ((a0.put (some 4) .nilIface).put (some 1) .nilIface) _ _
    have hs1 : ((a0.put (some 4) .nilIface).put (some 1) .nilIface).tmps.size = 17 := by rw [put_size, put_size]; exact hs0
    have hv1 : ((a0.put (some 4) .nilIface).put (some 1) .nilIface).eval (.tmp 1) = .nilIface := put_eval (by rw [put_size]; omega)
    have hd1 : ((a0.put (some 4) .nilIface).put (some 1) .nilIface).defers = [] := hd0
    generalize ((a0.put (some 4) .nilIface).put (some 1) .nilIface) = a1 at hs1 hv1 hd1 ⊢
    refine wpSIn_seq (wpSIn_region ?_)
    show wpOpsSIn _ _ _ _ _ [0, 1] _ _ _
    refine wpOpsS_val rfl rfl (fun _ => trivial) (v := .nilIface) (w' := w5) ?_ ?_
    · show Result.ok (Next.value (a1.eval (.tmp 1))) w5 = _
      rw [hv1]
    show wpOpsSIn _ _ _ _ _ [1] (a1.put (some 5) .nilIface) _ _
    have hv2' : (a1.put (some 5) .nilIface).eval (.tmp 5) = .nilIface := put_eval (by omega)
    refine wpOpsS_val rfl rfl (fun _ => trivial) (v := .bool false) (w' := w5) ?_ ?_
    · exact run_neq20 (J := J) rfl hv2'
    show Code.wpSIn _ _ _ (.cond _ _ _) _ ((a1.put (some 5) .nilIface).put (some 6) (.bool false)) _ _
    refine wpSIn_cond (t := false) (put_eval (by rw [put_size]; omega)) ?_
    refine wpSIn_of_wpIn rfl (wpIn_skip ?_)
    refine ⟨hd1, .returning, ?_, ?_⟩
    · rw [← hu]
    refine ⟨.tuple #[], by simp [results], ?_⟩
    show LeavesInM (FW none) 0 (cx J).P Tryz.f63 ts5 R [] .returning w5
    refine hR _ _ _ _ ⟨ts5, []⟩ w5 ?_ ?_ hS5
    · exact rfl
    · exact ⟨rfl, rfl, rfl, rfl, trivial⟩
end Go.Proofs.Fl
namespace Go.Proofs.Fl
open Go.RowKit Go.Proofs.Dig
attribute [local irreducible] IntKind.wrap PureC MutC MakC IterC
def rats (l : List (Int × Nat)) : List Rat := l.map fun p => mkRat p.1 p.2
def facL : List Rat := rats [(1, 1), (1, 1), (1, 2), (1, 6), (1, 24), (1, 120), (1, 720), (1, 5040), (1, 40320), (1, 362880), (1, 3628800), (1, 39916800), (1, 479001600), (1, 6227020800), (1, 87178291200), (1, 1307674368000), (1, 20922789888000), (1, 355687428096000), (1, 6402373705728000), (1, 121645100408832000), (1, 2432902008176640000), (1, 51090942171709440000), (1, 1124000727777607680000), (1, 25852016738884976640000), (1, 620448401733239439360000), (1, 15511210043330985984000000), (1, 403291461126605635584000000), (1, 10888869450418352160768000000), (1, 304888344611713860501504000000), (1, 8841761993739701954543616000000), (1, 265252859812191058636308480000000), (1, 8222838654177922817725562880000000), (1, 263130836933693530167218012160000000), (1, 8683317618811886495518194401280000000), (1, 295232799039604140847618609643520000000), (1, 10333147966386144929666651337523200000000), (1, 371993326789901217467999448150835200000000), (1, 13763753091226345046315979581580902400000000), (1, 523022617466601111760007224100074291200000000), (1, 20397882081197443358640281739902897356800000000), (1, 815915283247897734345611269596115894272000000000), (1, 33452526613163807108170062053440751665152000000000)]
def coL1 : List Rat := rats [(1, 1), (1, 1), (1, 2), (1, 6), (1, 24), (1, 120), (1, 720), (1, 5040), (1, 40320), (1, 362880), (1, 3628800), (1, 39916800), (1, 479001600), (1, 6227020800), (1, 87178291200), (1, 1307674368000), (1, 20922789888000), (1, 355687428096000), (1, 6402373705728000), (1, 121645100408832000), (1, 2432902008176640000), (1, 51090942171709440000), (1, 1124000727777607680000), (1, 25852016738884976640000), (1, 620448401733239439360000), (1, 15511210043330985984000000), (1, 403291461126605635584000000), (1, 10888869450418352160768000000), (1, 304888344611713860501504000000), (1, 8841761993739701954543616000000), (1, 265252859812191058636308480000000), (1, 8222838654177922817725562880000000), (1, 263130836933693530167218012160000000), (1, 8683317618811886495518194401280000000), (1, 295232799039604140847618609643520000000), (1, 10333147966386144929666651337523200000000), (1, 371993326789901217467999448150835200000000), (1, 13763753091226345046315979581580902400000000), (1, 523022617466601111760007224100074291200000000), (1, 20397882081197443358640281739902897356800000000), (1, 815915283247897734345611269596115894272000000000)]
def coL2 : List Rat := rats [(0, 1), (1, 1), (0, 1), (-1, 6), (0, 1), (1, 120), (0, 1), (-1, 5040), (0, 1), (1, 362880), (0, 1), (-1, 39916800), (0, 1), (1, 6227020800), (0, 1), (-1, 1307674368000), (0, 1), (1, 355687428096000), (0, 1), (-1, 121645100408832000), (0, 1), (1, 51090942171709440000), (0, 1), (-1, 25852016738884976640000), (0, 1), (1, 15511210043330985984000000), (0, 1), (-1, 10888869450418352160768000000), (0, 1), (1, 8841761993739701954543616000000), (0, 1), (-1, 8222838654177922817725562880000000), (0, 1), (1, 8683317618811886495518194401280000000), (0, 1), (-1, 10333147966386144929666651337523200000000), (0, 1), (1, 13763753091226345046315979581580902400000000), (0, 1), (-1, 20397882081197443358640281739902897356800000000), (0, 1)]
def coL5 : List Rat := rats [(0, 1), (1, 1), (-1, 2), (1, 3), (-1, 4), (1, 5), (-1, 6), (1, 7), (-1, 8), (1, 9), (-1, 10), (1, 11), (-1, 12), (1, 13), (-1, 14), (1, 15), (-1, 16), (1, 17), (-1, 18), (1, 19), (-1, 20), (1, 21), (-1, 22), (1, 23), (-1, 24), (1, 25), (-1, 26), (1, 27), (-1, 28), (1, 29), (-1, 30), (1, 31), (-1, 32), (1, 33), (-1, 34), (1, 35), (-1, 36), (1, 37), (-1, 38), (1, 39), (-1, 40)]
def coL6 : List Rat := rats [(0, 1), (1, 1), (0, 1), (-1, 3), (0, 1), (1, 5), (0, 1), (-1, 7), (0, 1), (1, 9), (0, 1), (-1, 11), (0, 1), (1, 13), (0, 1), (-1, 15), (0, 1), (1, 17), (0, 1), (-1, 19), (0, 1), (1, 21), (0, 1), (-1, 23), (0, 1), (1, 25), (0, 1), (-1, 27), (0, 1), (1, 29), (0, 1), (-1, 31), (0, 1), (1, 33), (0, 1), (-1, 35), (0, 1), (1, 37), (0, 1), (-1, 39), (0, 1)]
def lim : Nat := 1000000000 ^ 20
def smB (x : Rat) : Bool := Nat.blt x.num.natAbs lim && Nat.blt x.den lim
theorem sm_qln {x : Rat} (h : smB x = true) : qln x ≤ 40 := by
  simp only [smB, Bool.and_eq_true, Nat.blt_eq] at h
  have h1 := ln_le (n := x.num.natAbs) (k := 20) h.1
  have h2 := ln_le (n := x.den) (k := 20) h.2
  unfold qln; omega
theorem sm_all {p : List Rat} (h : p.all smB = true) (i : Nat) : qln (p.getD i 0) ≤ 1000 := by
  by_cases hi : i < p.length
  · have := List.all_eq_true.1 h _ (getD_mem hi)
    exact Nat.le_trans (sm_qln this) (by decide)
  · rw [getD_out (by omega)]; exact Nat.le_trans qln_z (by decide)
theorem sm_all2 {q : List (List Rat)} (h : (q.all fun p => p.all smB) = true) (k i : Nat) : qln ((q.getD k []).getD i 0) ≤ 1000 := by
  by_cases hk : k < q.length
  · refine sm_all ?_ i
    have hm : q.getD k [] ∈ q := by simp [List.getD, hk]
    exact List.all_eq_true.1 h _ hm
  · rw [show q.getD k [] = [] by simp [List.getD, List.getElem?_eq_none (show q.length ≤ k by omega)]]
    exact Nat.le_trans qln_z (by decide)
theorem len_all2 {q : List (List Rat)} {n : Nat} (h : (q.all fun p => Nat.ble p.length n) = true) (k : Nat) : (q.getD k []).length ≤ n := by
  by_cases hk : k < q.length
  · have hm : q.getD k [] ∈ q := by simp [List.getD, hk]
    have := List.all_eq_true.1 h _ hm
    simpa using this
  · rw [show q.getD k [] = [] by simp [List.getD, List.getElem?_eq_none (show q.length ≤ k by omega)]]
    exact Nat.zero_le _
theorem eq_ok {e : List (List Rat)} (h2 : 2 ≤ e.length) (h5 : e.length ≤ 5) (hd : (e.all fun p => Nat.ble p.length 41) = true) (hs : (e.all fun p => p.all smB) = true) (hl : (e.getD (e.length - 1) []).getD 0 0 ≠ 0) : EqOk e :=
  ⟨h2, h5, len_all2 hd, sm_all2 hs, hl⟩
theorem inS_congr {p : List Rat} {n m i : Nat} {a b : List Rat} {x : Rat} (h0 : 0 < n) (h : ∀ j, j < n → a.getD j 0 = b.getD j 0) : ∀ k, inS p n m i a x k = inS p n m i b x k
  | 0 => rfl
  | k + 1 => by
    unfold inS
    rw [inS_congr h0 h k]
    split
    · rw [h (n - (m + k - i)) (by omega)]
    · rfl
theorem outS_congr {q : List (List Rat)} {n m : Nat} {a b : List Rat} (h0 : 0 < n) (h : ∀ j, j < n → a.getD j 0 = b.getD j 0) : ∀ i, outS q n m a i = outS q n m b i
  | 0 => rfl
  | i + 1 => by
    unfold outS
    rw [outS_congr h0 h i, inS_congr h0 h]
theorem nextA_congr {q : List (List Rat)} {m : Nat} {lead : Rat} {y : List Rat} {n : Nat} {a b : List Rat} (hm : 1 ≤ m) (h : ∀ j, j < n → a.getD j 0 = b.getD j 0) : nextA q m lead y n a = nextA q m lead y n b := by
  unfold nextA
  split
  · rfl
  · rw [outS_congr (by omega) h]
theorem take_getD {L : List Rat} {k j : Nat} (h : j < k) : (L.take k).getD j 0 = L.getD j 0 := by
  simp [List.getD_eq_getElem?_getD, h]
theorem Sol.take {q : List (List Rat)} {m : Nat} {lead : Rat} {y L : List Rat} (S : Sol q m lead y L) {k : Nat} (h0 : 0 < k) (hk : k ≤ L.length) : Sol q m lead y (L.take k) where
  pos := by rw [List.length_take]; omega
  len := by have := S.len; rw [List.length_take]; omega
  m1 := S.m1
  m5 := S.m5
  yl := S.yl
  ql := S.ql
  pl := S.pl
  next n hn := by
    rw [List.length_take] at hn
    rw [take_getD (by omega), S.next n (by omega)]
    exact (nextA_congr S.m1 fun j hj => take_getD (by omega)).symm
  sq := S.sq
  sy := S.sy
  sL n := by
    by_cases h : n < k
    · rw [take_getD h]; exact S.sL n
    · rw [getD_out (by rw [List.length_take]; omega)]; exact Nat.le_trans qln_z (by decide)
  sl := S.sl
  sin n i j hn hmn hi hj := by
    rw [List.length_take] at hn
    have h1 := S.m1
    have hc : ∀ j, j < n → (L.take k).getD j 0 = L.getD j 0 := fun j hj => take_getD (by omega)
    rw [inS_congr (by omega) hc, outS_congr (by omega) hc]
    exact S.sin n i j (by omega) hmn hi hj
  sou n i hn hmn hi := by
    rw [List.length_take] at hn
    have h1 := S.m1
    have hc : ∀ j, j < n → (L.take k).getD j 0 = L.getD j 0 := fun j hj => take_getD (by omega)
    rw [outS_congr (by omega) hc]
    exact S.sou n i (by omega) hmn hi
  nf n hn := by rw [List.length_take] at hn; exact S.nf n (by omega)
  nz n hn hmn := by rw [List.length_take] at hn; exact S.nz n (by omega) hmn
theorem Ser.take {kind : Int} {Cf : Nat → Rat} {L : List Rat} (S : Ser kind Cf L) {k : Nat} (h0 : 0 < k) (hk : k ≤ L.length) : Ser kind Cf (L.take k) where
  kd := S.kd
  pos := by rw [List.length_take]; omega
  len := by have := S.len; rw [List.length_take]; omega
  zero := S.zero
  succ i hi := by rw [List.length_take] at hi; exact S.succ i (by omega)
  at' i hi := by rw [List.length_take] at hi; rw [take_getD (by omega)]; exact S.at' i (by omega)
  size := S.size
def solB (q : List (List Rat)) (m : Nat) (lead : Rat) (y L : List Rat) : Bool :=
  (List.range L.length).all fun n => decide (L.getD n 0 = nextA q m lead y n L) && !decide (fallQ n n = 0) &&
    (Nat.blt n m || (!decide (lead * fallQ n m = 0) && ((List.range (q.length + 1)).all fun i => smB (outS q n m L i) && (List.range ((q.getD i []).length + 1)).all fun k => smB (inS (q.getD i []) n m i L (outS q n m L i) k))))
theorem sol_ok {q : List (List Rat)} {m : Nat} {lead : Rat} {y L : List Rat} (pos : 0 < L.length) (len : L.length ≤ 100) (m1 : 1 ≤ m) (m5 : m ≤ 5) (yl : y.length = m) (ql : q.length = m + 1) (pl : (q.all fun p => Nat.ble p.length 100) = true) (sq : (q.all fun p => p.all smB) = true) (sy : y.all smB = true) (sL : L.all smB = true) (sl : smB lead = true) (h : solB q m lead y L = true) : Sol q m lead y L := by
  have hn : ∀ n, n < L.length → (decide (L.getD n 0 = nextA q m lead y n L) && !decide (fallQ n n = 0) &&
    (Nat.blt n m || (!decide (lead * fallQ n m = 0) && ((List.range (q.length + 1)).all fun i => smB (outS q n m L i) && (List.range ((q.getD i []).length + 1)).all fun k => smB (inS (q.getD i []) n m i L (outS q n m L i) k))))) = true := fun n hn => List.all_eq_true.1 h n (List.mem_range.2 hn)
  have hg : ∀ n, n < L.length → m ≤ n → lead * fallQ n m ≠ 0 ∧ ∀ i, i ≤ q.length → smB (outS q n m L i) = true ∧ ∀ k, k ≤ (q.getD i []).length → smB (inS (q.getD i []) n m i L (outS q n m L i) k) = true := fun n h1 h2 => by
    have := hn n h1
    simp only [Bool.and_eq_true, Bool.or_eq_true, Nat.blt_eq, Bool.not_eq_true', decide_eq_false_iff_not, decide_eq_true_eq] at this
    rcases this.2 with h3 | ⟨h3, h4⟩
    · omega
    · refine ⟨h3, fun i hi => ?_⟩
      have h5 := List.all_eq_true.1 h4 i (List.mem_range.2 (by omega))
      simp only [Bool.and_eq_true] at h5
      exact ⟨h5.1, fun k hk => List.all_eq_true.1 h5.2 k (List.mem_range.2 (by omega))⟩
  refine ⟨pos, len, m1, m5, yl, ql, len_all2 pl, fun n h1 => ?_, sm_all2 sq, sm_all sy, sm_all sL, Nat.le_trans (sm_qln sl) (by decide), fun n i k h1 h2 hi hk => ?_, fun n i h1 h2 hi => ?_, fun n h1 => ?_, fun n h1 h2 => (hg n h1 h2).1⟩
  · have := hn n h1
    simp only [Bool.and_eq_true, decide_eq_true_eq] at this
    exact this.1.1
  · exact Nat.le_trans (sm_qln (((hg n h1 h2).2 i (by omega)).2 k hk)) (by decide)
  · exact Nat.le_trans (sm_qln ((hg n h1 h2).2 i hi).1) (by decide)
  · have := hn n h1
    simp only [Bool.and_eq_true, Bool.not_eq_true', decide_eq_false_iff_not] at this
    exact this.1.2
def serB (kind : Int) (Cl L : List Rat) : Bool :=
  (List.range L.length).all fun i => decide (Cl.getD (i + 1) 0 = Cl.getD i 0 / (((i : Int) + 1 : Int) : Rat)) && decide (L.getD i 0 = serX kind i (Cl.getD i 0))
theorem ser_ok {kind : Int} {Cl L : List Rat} (kd : kind = 1 ∨ kind = 2 ∨ kind = 3 ∨ kind = 5) (pos : 0 < L.length) (len : L.length ≤ 100) (zero : Cl.getD 0 0 = 1) (size : Cl.all smB = true) (h : serB kind Cl L = true) : Ser kind (fun i => Cl.getD i 0) L := by
  have hn := fun i (hi : i < L.length) => List.all_eq_true.1 h i (List.mem_range.2 hi)
  refine ⟨kd, pos, len, zero, fun i hi => ?_, fun i hi => ?_, sm_all size⟩
  · have := hn i hi
    simp only [Bool.and_eq_true, decide_eq_true_eq] at this
    exact this.1
  · have := hn i hi
    simp only [Bool.and_eq_true, decide_eq_true_eq] at this
    exact this.2
theorem eq1_ok : EqOk eqK1 := eq_ok (by decide) (by decide) (by decide +kernel) (by decide +kernel) (by decide +kernel)
theorem sol1_ok : Sol (eqK1.map trimL) (eqK1.length - 1) ((eqK1.getD (eqK1.length - 1) []).getD 0 0) [1] coL1 := sol_ok (by decide +kernel) (by decide +kernel) (by decide) (by decide) rfl rfl (by decide +kernel) (by decide +kernel) (by decide +kernel) (by decide +kernel) (by decide +kernel) (by decide +kernel)
theorem ser1_ok : Ser 1 (fun i => facL.getD i 0) coL1 := ser_ok (by decide) (by decide +kernel) (by decide +kernel) (by decide +kernel) (by decide +kernel) (by decide +kernel)
theorem len1 : coL1.length = 41 := by decide +kernel
theorem eq2_ok : EqOk eqK2 := eq_ok (by decide) (by decide) (by decide +kernel) (by decide +kernel) (by decide +kernel)
theorem sol2_ok : Sol (eqK2.map trimL) (eqK2.length - 1) ((eqK2.getD (eqK2.length - 1) []).getD 0 0) [0, 1] coL2 := sol_ok (by decide +kernel) (by decide +kernel) (by decide) (by decide) rfl rfl (by decide +kernel) (by decide +kernel) (by decide +kernel) (by decide +kernel) (by decide +kernel) (by decide +kernel)
theorem ser2_ok : Ser 3 (fun i => facL.getD i 0) coL2 := ser_ok (by decide) (by decide +kernel) (by decide +kernel) (by decide +kernel) (by decide +kernel) (by decide +kernel)
theorem len2 : coL2.length = 41 := by decide +kernel
theorem eq5_ok : EqOk eqK5 := eq_ok (by decide) (by decide) (by decide +kernel) (by decide +kernel) (by decide +kernel)
theorem sol5_ok : Sol (eqK5.map trimL) (eqK5.length - 1) ((eqK5.getD (eqK5.length - 1) []).getD 0 0) [0, 1] coL5 := sol_ok (by decide +kernel) (by decide +kernel) (by decide) (by decide) rfl rfl (by decide +kernel) (by decide +kernel) (by decide +kernel) (by decide +kernel) (by decide +kernel) (by decide +kernel)
theorem ser5_ok : Ser 2 (fun i => facL.getD i 0) coL5 := ser_ok (by decide) (by decide +kernel) (by decide +kernel) (by decide +kernel) (by decide +kernel) (by decide +kernel)
theorem len5 : coL5.length = 41 := by decide +kernel
theorem eq6_ok : EqOk eqK6 := eq_ok (by decide) (by decide) (by decide +kernel) (by decide +kernel) (by decide +kernel)
theorem sol6_ok : Sol (eqK6.map trimL) (eqK6.length - 1) ((eqK6.getD (eqK6.length - 1) []).getD 0 0) [0, 1] coL6 := sol_ok (by decide +kernel) (by decide +kernel) (by decide) (by decide) rfl rfl (by decide +kernel) (by decide +kernel) (by decide +kernel) (by decide +kernel) (by decide +kernel) (by decide +kernel)
theorem ser6_ok : Ser 5 (fun i => facL.getD i 0) coL6 := ser_ok (by decide) (by decide +kernel) (by decide +kernel) (by decide +kernel) (by decide +kernel) (by decide +kernel)
theorem len6 : coL6.length = 41 := by decide +kernel
end Go.Proofs.Fl
namespace Go.Proofs.Fl
open Go.RowKit Go.Proofs.Dig
attribute [local irreducible] IntKind.wrap PureC MutC MakC IterC
theorem t41_ok (J : Keep) {e : List (List Rat)} {y : List Rat} {g : Int} (hy : 0 < y.length) (hy5 : y.length ≤ 5) : C J 41 [fnI e y, zq, .int .i64 g] (.tup [spans y, .int .i64 0]) := by
  refine fn_ok Tryz.func41 rfl rfl rfl ?_
  have c1 := t63_ok (t64_ok J (e := e) (y := y) (g := g) hy hy5)
  repeat (first | (refine W.S ?_; refine W.eff 1 [0, 1, 2, 3] rfl rfl rfl rfl ?_; conv => whnf) | (refine W.RS (by kernel_rfl) ?_; conv => whnf) | (refine W.ret ?_; conv => whnf) | (refine ⟨[], [fnI e y, zq, .int .i64 g, .sl []], [fnI e y, zq, .int .i64 g, spans y], _, rfl, ⟨rfl, rfl, rfl, rfl, trivial⟩, by simp, c1, ?_⟩; conv => whnf))
  rfl
theorem t20_ok {J : Keep} (B : Base J) {e : List (List Rat)} {y : List Rat} {g : Int} (h : EqOk e) (hy : y.length = e.length - 1) : C J 20 [fnI e y, zq, .int .i64 g] (.tup [spans y, .int .i64 0]) := by
  refine fn_ok Tryz.func20 rfl rfl rfl ?_
  have h2 := h.two
  have h5 := h.five
  have c1 := t12_ok B h hy
  have c2 := t41_ok J (e := e) (y := y) (g := g) (by omega) (by omega)
  repeat (first | (refine W.RS (by kernel_rfl) ?_; conv => whnf) | (refine W.S ?_) | (refine W.ret ?_; conv => whnf) | (refine W.skip ?_; conv => whnf) | (refine W.condF rfl ?_) | (refine ⟨_, c1, ?_⟩; conv => whnf) | (refine ⟨_, c2, ?_⟩; conv => whnf) | (refine ⟨false, bne_eq_false_iff_eq.2 (by omega), ?_⟩; conv => whnf) | (refine ⟨rfl, ?_⟩; conv => whnf))
  rfl
theorem qtext_zero : qtext 0 = [48] := by decide +kernel
theorem qtext_one : qtext 1 = [49] := by decide +kernel
theorem eqK4_ok : EqOk eqK4 := eq_ok (by decide) (by decide) (by decide +kernel) (by decide +kernel) (by decide +kernel)
set_option maxHeartbeats 2000000 in
theorem t8_ok {J : Keep} (B : Base J) (L : LibI J) : C J 8 [] (.bool true) := by
  refine fn_ok Tryz.func8 rfl rfl rfl ?_
  have c1 := t4_4 J
  have c2 := t20_ok B (g := 8) eqK4_ok (y := [0, 1]) rfl
  have c3 := t21_ok B
  have c4 : C J 22 [sd 0 0] (.str [91, 48, 32, 48, 93]) := by
    have := f113_ok L (a := 0) (b := 0) (Nat.lt_of_le_of_lt qln_z (by decide)) (Nat.lt_of_le_of_lt qln_z (by decide))
    rw [qtext_zero] at this
    exact this
  have c5 : C J 22 [sd 1 1] (.str [91, 49, 32, 49, 93]) := by
    have := f113_ok L (a := 1) (b := 1) (Nat.lt_of_le_of_lt qln_one (by decide)) (Nat.lt_of_le_of_lt qln_one (by decide))
    rw [qtext_one] at this
    exact this
  have e1 : (([91, 48, 32, 48, 93] : List UInt8) == [91, 48, 32, 48, 93]) = true := by decide
  have e2 : (([91, 49, 32, 49, 93] : List UInt8) == [91, 49, 32, 49, 93]) = true := by decide
  repeat (first | (refine W.RS (by kernel_rfl) ?_; conv => whnf) | (refine W.ret ?_; conv => whnf) | (refine ⟨_, c1, ?_⟩; conv => whnf) | (refine ⟨_, c2, ?_⟩; conv => whnf) | (refine ⟨_, c3, ?_⟩; conv => whnf) | (refine ⟨_, c4, ?_⟩; conv => whnf) | (refine ⟨_, c5, ?_⟩; conv => whnf) | (refine ⟨_, e1, ?_⟩; conv => whnf) | (refine ⟨0, sd 0 0, rfl, rfl, rfl, ?_⟩; conv => whnf) | (refine ⟨1, sd 1 1, rfl, rfl, rfl, ?_⟩; conv => whnf) | (refine ⟨_, castA _, ?_⟩; conv => whnf) | (refine ⟨rfl, ?_⟩; conv => whnf) | (refine ⟨_, fun _ => rfl, fun h => absurd h.symm Bool.false_ne_true, ?_⟩; conv => whnf))
  rfl
end Go.Proofs.Fl
namespace Go.Proofs.Fl
open Go.RowKit Go.Proofs.Dig
attribute [local irreducible] IntKind.wrap PureC MutC MakC IterC
structure RowOk (J : Keep) (a b : Int) (e : List (List Rat)) (y M : List Rat) (k : Nat) : Prop where
  len : M.length = k
  kn : C J 4 [.int .u8 a, .int .i64 0] (.tup [fnI e y, .int .i64 0])
  co : C J 5 [fnI e y, .int .i64 (k : Nat)] (.tup [pq M, .int .i64 0])
  se : C J 6 [.int .u8 b, .int .i64 (k : Nat)] (.tup [pq M, .int .i64 0])
  size : ∀ i, qln (M.getD i 0) ≤ 1000
theorem row_ok {J : Keep} (B : Base J) {a b : Int} {e : List (List Rat)} {y L : List Rat} {k : Nat} (hk : k ≤ 40) (hL : L.length = 41) (kn : C J 4 [.int .u8 a, .int .i64 0] (.tup [fnI e y, .int .i64 0])) (he : EqOk e) (hy : y.length = e.length - 1)
    (S : Sol (e.map trimL) (e.length - 1) ((e.getD (e.length - 1) []).getD 0 0) y L) {Cf : Nat → Rat} (R : Ser b Cf L) : RowOk J a b e y (L.take k) k where
  len := by rw [List.length_take]; omega
  kn := kn
  co := by
    by_cases h0 : k = 0
    · subst h0; exact t5_zero B he hy
    · exact t5_ok B he hy (S.take (k := k) (by omega) (by omega)) (by rw [List.length_take]; omega)
  se := by
    have := t6_ok B (R.take (k := k + 1) (by omega) (by omega)) (K := k) (by rw [List.length_take]; omega)
    rw [List.take_take, show min k (k + 1) = k by omega] at this
    exact this
  size i := by
    by_cases h : i < k
    · rw [take_getD h]; exact S.sL i
    · rw [getD_out (by rw [List.length_take]; omega)]; exact Nat.le_trans qln_z (by decide)
abbrev tabI : List IV := [.agg [.int .u8 1, .int .u8 1], .agg [.int .u8 2, .int .u8 3], .agg [.int .u8 5, .int .u8 2], .agg [.int .u8 6, .int .u8 5]]
theorem rows_ok {J : Keep} (B : Base J) {k : Nat} (hk : k ≤ 40) : ∀ j, j < 4 → ∃ (a b : Int) (e : List (List Rat)) (y M : List Rat), tabI[j]? = some (.agg [.int .u8 a, .int .u8 b]) ∧ RowOk J a b e y M k
  | 0, _ => ⟨1, 1, _, _, _, rfl, row_ok B hk len1 (t4_1 J) eq1_ok rfl sol1_ok ser1_ok⟩
  | 1, _ => ⟨2, 3, _, _, _, rfl, row_ok B hk len2 (t4_2 J) eq2_ok rfl sol2_ok ser2_ok⟩
  | 2, _ => ⟨5, 2, _, _, _, rfl, row_ok B hk len5 (t4_5 J) eq5_ok rfl sol5_ok ser5_ok⟩
  | 3, _ => ⟨6, 5, _, _, _, rfl, row_ok B hk len6 (t4_6 J) eq6_ok rfl sol6_ok ser6_ok⟩
  | _ + 4, h => absurd h (by omega)
theorem cmp_self (J : Keep) {x : Rat} (h : qln x ≤ 1000) : C J 7 [qr x, qr x] (.int .i64 0) := by
  have := f37_ok (J := J) (a := x) (b := x) (by omega) (by omega)
  have e : cmpR x x = 0 := by unfold cmpR cmpI; simp
  rw [e] at this
  exact this
theorem tmod41 (n : Nat) : (n : Int).tmod 41 = ((n % 41 : Nat) : Int) := by
  rw [Int.tmod_eq_emod_of_nonneg (by omega)]; omega
set_option maxHeartbeats 2000000 in
theorem t3_ok {J : Keep} (B : Base J) (L : LibI J) {n : Nat} : C J 3 [.int .u8 (n : Nat)] (.bool true) := by
  refine fn_ok Tryz.func3 rfl rfl rfl ?_
  have c8 := t8_ok B L
  have hk : n % 41 ≤ 40 := by omega
  have hw : IntKind.wrap .i64 ((n % 41 : Nat) : Int) = ((n % 41 : Nat) : Int) := w64 (by omega)
  obtain ⟨k, hke⟩ : ∃ k, n % 41 = k := ⟨_, rfl⟩
  have hm := tmod41 n
  rw [hke] at hk hm hw
  repeat (first | (refine W.RS (by kernel_rfl) ?_; conv => whnf) | (refine W.S ?_) | (refine W.block ?_) | (refine ⟨by decide, _, hm, ?_⟩; conv => whnf) | (refine ⟨_, hw, ?_⟩; conv => whnf) | (refine ⟨_, castA _, ?_⟩; conv => whnf) | (refine ⟨rfl, ?_⟩; conv => whnf))
  refine W.loop (G := { j : Nat // j ≤ 4 }) (fun j => mkA [(3, .iv (.int .i64 (k : Nat))), (20, .ref 0 0 4 true), (21, .iv (.int .i64 4)), (22, .iv (.int .i64 (j.1 : Nat)))] [(0, .arr 22 2 tabI false)] 20) (fun j => 4 - j.1) ⟨0, Nat.zero_le _⟩
    (Wk.tab [(0, 9)] ⟨⟨rfl, rfl⟩, ⟨rfl, rfl⟩, ⟨rfl, rfl⟩, ⟨rfl, rfl⟩, trivial⟩ ⟨rfl, trivial⟩ rfl) ?_
  rintro ⟨j, hj⟩
  have hj : j ≤ 4 := hj
  show W J _ _ (mkA [(3, .iv (.int .i64 (k : Nat))), (20, .ref 0 0 4 true), (21, .iv (.int .i64 4)), (22, .iv (.int .i64 (j : Nat)))] [(0, .arr 22 2 tabI false)] 20) _
  by_cases hj4 : j < 4
  · obtain ⟨a, b, e, y, M, hg, R⟩ := rows_ok B hk j hj4
    have hg0 : tabI[0 + j]? = some (.agg [.int .u8 a, .int .u8 b]) := by rw [Nat.zero_add]; exact hg
    have c1 := R.kn
    have c2 := R.co
    have c3 := R.se
    have hM := R.len
    have lm : (M.map qr).length = k := by rw [List.length_map]; exact hM
    repeat (first | (refine W.S ?_; refine W.wkRS (id := 8) (σ' := mkA [(3, .iv (.int .i64 (k : Nat))), (7, .iv (.int .i64 0)), (8, .iv (pq M)), (9, .iv (.int .i64 0)), (10, .iv (pq M)), (11, .iv (.int .i64 0)), (20, .ref 0 0 4 true), (21, .iv (.int .i64 4)), (22, .iv (.int .i64 (j : Nat)))] [(0, .arr 22 2 tabI false)] 20) (Wk.tab [] ⟨⟨rfl, rfl⟩, ⟨rfl, rfl⟩, ⟨rfl, rfl⟩, ⟨rfl, rfl⟩, ⟨rfl, rfl⟩, ⟨rfl, rfl⟩, ⟨rfl, rfl⟩, ⟨rfl, rfl⟩, ⟨rfl, rfl⟩, trivial⟩ ⟨rfl, trivial⟩ rfl) (by kernel_rfl) ?_; conv => whnf) | (refine W.RS (by kernel_rfl) ?_; conv => whnf) | (refine W.S ?_) | (refine W.block ?_) | (refine W.skip ?_; conv => whnf) | (refine W.condF rfl ?_) | (refine W.condT rfl ?_) | (refine ⟨_, c1, ?_⟩; conv => whnf) | (refine ⟨_, c2, ?_⟩; conv => whnf) | (refine ⟨_, c3, ?_⟩; conv => whnf) | (refine ⟨_, hg0, ?_⟩; conv => whnf) | (refine ⟨(by decide : (0 : Nat) < 2), ?_⟩; conv => whnf) | (refine ⟨(by decide : (1 : Nat) < 2), ?_⟩; conv => whnf) | (refine ⟨_, castA _, ?_⟩; conv => whnf) | (refine ⟨(rfl : (_ : Nat) = _), _, rfl, by omega, ?_⟩; conv => whnf) | (refine ⟨true, decide_eq_true (by omega), ?_⟩; conv => whnf) | (refine ⟨false, bne_eq_false_iff_eq.2 (by omega), ?_⟩; conv => whnf) | (refine ⟨_, rfl, ?_⟩; conv => whnf) | (refine ⟨rfl, ?_⟩; conv => whnf) | (refine ⟨_, fun h => absurd h Bool.false_ne_true, fun _ => rfl, ?_⟩; conv => whnf))
    refine W.loop (G := { i : Nat // i ≤ k }) (fun i => mkA [(3, .iv (.int .i64 (k : Nat))), (8, .iv (pq M)), (10, .iv (pq M)), (12, .iv (.int .i64 (i.1 : Nat))), (20, .ref 0 0 4 true), (21, .iv (.int .i64 4)), (22, .iv (.int .i64 (j : Nat)))] [(0, .arr 22 2 tabI false)] 20) (fun i => k - i.1) ⟨0, Nat.zero_le _⟩ (Wk.tab [] ⟨⟨rfl, rfl⟩, ⟨rfl, rfl⟩, ⟨rfl, rfl⟩, ⟨rfl, rfl⟩, ⟨rfl, rfl⟩, ⟨rfl, rfl⟩, ⟨rfl, rfl⟩, trivial⟩ ⟨rfl, trivial⟩ rfl) ?_
    rintro ⟨i, hi⟩
    have hi : i ≤ k := hi
    show W J _ _ (mkA [(3, .iv (.int .i64 (k : Nat))), (8, .iv (pq M)), (10, .iv (pq M)), (12, .iv (.int .i64 (i : Nat))), (20, .ref 0 0 4 true), (21, .iv (.int .i64 4)), (22, .iv (.int .i64 (j : Nat)))] [(0, .arr 22 2 tabI false)] 20) _
    by_cases hik : i < k
    · have hgi := getq (f := qr) (l := M) (k := i) (by omega)
      have sx := R.size i
      obtain ⟨x, hx⟩ : ∃ x, M.getD i 0 = x := ⟨_, rfl⟩
      rw [hx] at hgi sx
      have c4 := cmp_self J sx
      repeat (first | (refine W.RS (by kernel_rfl) ?_; conv => whnf) | (refine W.R (by kernel_rfl) ?_; conv => whnf) | (refine W.S ?_) | (refine W.block ?_) | (refine W.skip ?_; conv => whnf) | (refine W.condF rfl ?_) | (refine W.condT rfl ?_) | (refine ⟨_, c4, ?_⟩; conv => whnf) | (refine ⟨i, _, rfl, hgi, rfl, ?_⟩; conv => whnf) | (refine ⟨rfl, _, w64 (by omega), ?_⟩; conv => whnf) | (refine ⟨true, decide_eq_true (by omega), ?_⟩; conv => whnf) | (refine ⟨false, bne_eq_false_iff_eq.2 (by omega), ?_⟩; conv => whnf) | (refine ⟨rfl, ?_⟩; conv => whnf))
      exact ⟨⟨i + 1, by omega⟩, Wk.tab [] ⟨⟨rfl, rfl⟩, ⟨rfl, rfl⟩, ⟨rfl, rfl⟩, ⟨rfl, rfl⟩, ⟨rfl, rfl⟩, ⟨rfl, rfl⟩, ⟨rfl, rfl⟩, trivial⟩ ⟨rfl, trivial⟩ rfl, by dsimp only; omega⟩
    · repeat (first | (refine W.RS (by kernel_rfl) ?_; conv => whnf) | (refine W.R (by kernel_rfl) ?_; conv => whnf) | (refine W.S ?_) | (refine W.exit ?_; conv => whnf) | (refine W.condF rfl ?_) | (refine ⟨rfl, _, w64 (by omega), ?_⟩; conv => whnf) | (refine ⟨false, decide_eq_false (by omega), ?_⟩; conv => whnf) | (refine ⟨rfl, ?_⟩; conv => whnf))
      exact ⟨⟨j + 1, by omega⟩, Wk.tab [] ⟨⟨rfl, rfl⟩, ⟨rfl, rfl⟩, ⟨rfl, rfl⟩, ⟨rfl, rfl⟩, trivial⟩ ⟨rfl, trivial⟩ rfl, by dsimp only; omega⟩
  · repeat (first | (refine W.RS (by kernel_rfl) ?_; conv => whnf) | (refine W.S ?_) | (refine W.ret ?_; conv => whnf) | (refine W.exit ?_; conv => whnf) | (refine W.condF rfl ?_) | (refine ⟨_, c8, ?_⟩; conv => whnf) | (refine ⟨false, decide_eq_false (by omega), ?_⟩; conv => whnf) | (refine ⟨rfl, ?_⟩; conv => whnf))
    rfl
end Go.Proofs.Fl
namespace Go.Proofs.Fl
open Go.RowKit Go.Proofs.Dig
attribute [local irreducible] IntKind.wrap PureC MutC MakC IterC
theorem one_alive {x : IV} {g : Nat} : ∀ p ∈ [(g, Bx.var x)], p.2.alive = true := by
  intro p hp
  simp at hp; subst hp; rfl
theorem varU {x y : Nat} (h : x = y) : some (Bx.var (.int .u64 (x : Int))) = some (Bx.var (.int .u64 (y : Int))) := by rw [h]
theorem varI {x : Int} {y : Nat} (h : x = (y : Int)) : some (Bx.var (.int .u64 x)) = some (Bx.var (.int .u64 (y : Int))) := by rw [h]
theorem hiN_le (ds : List Nat) (k : Nat) : hiN ds k ≤ nv B9 ds := by
  unfold hiN
  rw [show nv B9 ds = nv B9 (ds.take (ds.length - k) ++ ds.drop (ds.length - k)) by rw [List.take_append_drop], nv_append]
  have : 1 * nv B9 (ds.drop (ds.length - k)) ≤ B9 ^ (ds.take (ds.length - k)).length * nv B9 (ds.drop (ds.length - k)) := Nat.mul_le_mul_right _ (Nat.pow_pos (by decide))
  omega
theorem word_ds (J : Keep) {ds : List Nat} (hd : Dg B9 ds) (hl : ds.length < 2 ^ 60) (hn : nv B9 ds < 1000000000000000000) : C J 118 [mgI ds] (.int .u64 (nv B9 ds : Nat)) := by
  refine fn_ok (J := J.top) Tryz.func118 rfl rfl rfl ?_
  repeat (first | (refine W.RS (by kernel_rfl) ?_; conv => whnf) | (refine W.S ?_) | (refine W.block ?_) | (refine ⟨149, [.sl (ds.map u32)], f192_ok J _, rfl, ?_⟩; conv => whnf))
  refine W.weak (σ' := mkA [(3, .ptr pinId 0), (8, .clo 149 [6])] [(pinId, .var (.int .u64 0)), (6, .var (.sl (ds.map u32)))] 50) (Wk.tab [(pinId, 2)] ⟨⟨rfl, rfl⟩, ⟨rfl, rfl⟩, trivial⟩ ⟨rfl, rfl, trivial⟩ rfl) ?_
  refine W.range (f224_ok J hl) [pinId] [(3, .ptr pinId 0)] (fun k => [(pinId, .var (.int .u64 (hiN ds k : Nat)))]) 60 rfl ⟨rfl, trivial⟩ (by simp) rfl back_two (fun _ => rfl) (fun _ => one_alive) rfl ⟨rfl, trivial⟩ rfl ⟨varU (hiN_zero ds).symm, trivial⟩ rfl rfl (fun k hk => ?_) ?_
  · rw [back_at hk]
    rw [back_len] at hk
    show W J.any _ _ ⟨putsL (tbS [(3, .ptr pinId 0)]) [9, 10] [.int .i64 ((ds.length - 1 - k : Nat) : Int), u32 (ds.getD (ds.length - 1 - k) 0)], tbB [(pinId, .var (.int .u64 (hiN ds k : Nat)))], 60⟩ _
    have h1 := hiN_succ hk
    have h2 := hiN_le ds (k + 1)
    have h3 := hd.getD (by decide) (ds.length - 1 - k)
    repeat (first | (refine W.R (by kernel_rfl) ?_; conv => whnf) | (refine W.block ?_) | (refine ⟨rfl, _, wu64 (by omega), ?_⟩; conv => whnf) | (refine ⟨_, wu64 (by omega), ?_⟩; conv => whnf) | (refine ⟨rfl, ?_⟩; conv => whnf))
    exact ⟨varI (by omega), trivial⟩
  · rw [back_len, hiN_all]
    repeat (first | (refine W.RS (by kernel_rfl) ?_; conv => whnf) | (refine W.ret ?_; conv => whnf))
    rfl
theorem f118_w (J : Keep) {n : Nat} (h : ln n ≤ 2) : C J 118 [mag n] (.int .u64 n) := by
  have := word_ds J (ds := dg n) (dg_ok n).dg (by have : (dg n).length ≤ 2 := h; omega) (by rw [dg_nv]; exact ln_two h)
  rwa [dg_nv] at this
theorem baseOf (J : Keep) : Base J := ⟨fun _ h => f118_w J h⟩
end Go.Proofs.Fl
namespace Go.Proofs.Fl
open Go.RowKit Go.ChangeShapes Go.WideShapes
attribute [local irreducible] IntKind.wrap PureC MutC MakC IterC
theorem tab_keep {P : Program} {n : String} {g : Nat} {k : IntKind} {zs : List Int} {w w' : World} (hg : P.globalNamed n = some g) (h : Lib.TabIs P w n k zs) (hb : Below w.heap.size w w') : Lib.TabIs P w' n k zs := by
  unfold Lib.TabIs World.var? at h ⊢
  rw [hg] at h ⊢
  simp only [Option.bind_some] at h ⊢
  have hlt : g < w.heap.size := by
    rcases Nat.lt_or_ge g w.heap.size with h' | h'
    · exact h'
    · rw [Array.getElem?_eq_none h'] at h; cases h
  rw [hb.block g hlt]
  exact h
theorem gPow : Tryz.prog.globalNamed "internal/strconv.uint64pow10" = some ((Tryz.prog.globalNamed "internal/strconv.uint64pow10").getD 0) := by kernel_rfl
theorem below_less {n m : Nat} {w w' : World} (h : Below n w w') (hm : m ≤ n) : Below m w w' := ⟨h.os, h.tape, h.output, h.size, fun k hk => h.block k (by omega)⟩
def lawJ : Keep where
  I w := Lib.TabIs Tryz.prog w "internal/strconv.uint64pow10" .u64 Lib.pow10Tab
  bel _n _w _w' h hn hb := tab_keep gPow h (below_less hb hn)
  ro := fun r => r = none
  r0 := rfl
theorem lawL : LibI lawJ := ⟨fun _ h => h⟩
theorem below_kept {W W' : World} (h : Below W.heap.size W W') (may : MemPlace → Prop) : W.keptBut W' may := by
  refine ⟨h.os, h.output, fun i hi => ?_⟩
  rw [h.block i hi]
  cases W.heap[i]? with
  | none => rfl
  | some o => cases o <;> first | rfl | exact ⟨rfl, rfl, rfl, fun _ _ => rfl⟩ | exact .inr ⟨rfl, rfl⟩
theorem trodAll_keep {H : Type} {enc : TypeId × Value → H} {P : Program} (hl : laidOutB P = true) {W W' : World} (hb : Below W.heap.size W W') : ∀ {ts : List TypeId} {vs : List Value} {ds : List (DataW H)} {ps : List MemPlace},
    ts.all (fun t => P.readableRec t && decide (t < P.types.size)) = true → DataW.TrodAll enc P W 0 (fun _ => true) true ts vs ds ps → (∀ x ∈ ps, x.block < W.heap.size) → DataW.TrodAll enc P W' 0 (fun b => decide (b < W.heap.size)) true ts vs ds ps
  | [], _, _, _, _, h, _ => by
    obtain ⟨rfl, rfl, rfl⟩ := trodAll_nil h
    exact h
  | t :: ts, _, _, _, hr, h, hlt => by
    obtain ⟨v, vs1, d, ds1, a, b, rfl, rfl, rfl, h1, h2⟩ := trodAll_cons h
    simp only [List.all_cons, Bool.and_eq_true, decide_eq_true_eq] at hr
    exact ⟨a, b, Below.trod hl hr.1.1 hr.1.2 h1 hb (fun x hx => hlt x (by simp [hx])), trodAll_keep hl hb (by simpa using hr.2) h2 (fun x hx => hlt x (by simp [hx])), rfl⟩
theorem laidOut : laidOutB Tryz.prog = true := by kernel_rfl
theorem ownK : ownKnob Tryz.prog.godebug = none := by kernel_rfl
set_option maxRecDepth 100000 in
theorem law_lifted {f : FuncId} {fn : Func} {s : ChangeSpec} {laid : List (String × DataW Unit)} {os : Os} (started : os.Started) {H : Type} {enc : TypeId × Value → H}
    (hfn : Tryz.prog.funcs[f]? = some fn) (noInit : Tryz.prog.inits.idxOf? f = none) (hv : s.vars = []) (hr : fn.resultTypes = #[4])
    (hs : ∀ ds : List (DataW H), ds.length = fn.params.toList.length → s.fn H ds = { results := [.lit (.bool true)], args := ds })
    (hread : fn.params.toList.all (fun t => Tryz.prog.readableRec t && decide (t < Tryz.prog.types.size)) = true)
    (hlaid : ∀ W, laidMetH Tryz.prog laid W → Lib.TabIs Tryz.prog W "internal/strconv.uint64pow10" .u64 Lib.pow10Tab)
    (witness : ∃ (w : World) (tape : Tape) (i : Input), w.os = os ∧ (w.forCall tape i).Shaped Tryz.prog ∧ i.vars = [] ∧ Input.okWide Tryz.prog (w.forCall tape i) .any w.heap.size f i ∧
      ((s.pre enc Tryz.prog fn [] false (w.forCall tape i).memory i.args ∧ laidMetH Tryz.prog laid (w.forCall tape i).memory) ∧ sizedMet enc Tryz.prog fn (OpenSpec.ofChange s) false (w.forCall tape i).memory i.args) ∧ ({} : Assume).holds Tryz.prog (lone (Frame.enter Tryz.prog f i.args .normal) [] (w.forCall tape i)))
    (hlaw : ∀ (W : World) (base : Nat) (args : Array Value) (ds : List (DataW H)) (p : List MemPlace), (∀ (j : Nat) t v, fn.params[j]? = some t → args[j]? = some v → Value.okWide Tryz.prog W .any base t v) →
      DataW.TrodAll enc Tryz.prog W 0 (fun _ => true) true fn.params.toList args.toList ds p → ∃ (Hp : Heap) (xs : List IV), HeapHas W Hp ∧ VRL Hp args.toList xs ∧ C lawJ f xs (.bool true)) :
    ReturnsInHanded {} Tryz.checked os f .any (fun w args => (s.pre enc Tryz.prog fn [] false w args ∧ laidMetH Tryz.prog laid w) ∧ sizedMet enc Tryz.prog fn (OpenSpec.ofChange s) false w args) (s.post enc Tryz.prog fn false true false false) := by
  refine returnsInHanded_of_calls (C := Tryz.checked) ownK started noInit witness ?_
  intro w tape i _ hsh _ hok hpre _
  obtain ⟨_, _, _, fn', hfn', _, _, _, _, hval⟩ := hok
  obtain rfl : fn' = fn := Option.some.inj (hfn'.symm.trans hfn)
  obtain ⟨⟨⟨ds, gs, before, hw, hc⟩, hx⟩, hz⟩ := hpre
  have hw' := DataW.Whole.of_heap (w' := w.forCall tape i) (by rfl) hw
  have hx' : laidMetH Tryz.prog laid (w.forCall tape i) := hx.of_heap (by rfl)
  obtain ⟨W, hW⟩ : ∃ W, w.forCall tape i = W := ⟨_, rfl⟩
  rw [hW] at hsh hval hw' hx' ⊢
  have hlt := hw'.lt
  have hw2 := hw'
  obtain ⟨p, q, hA, hV, rfl, _, _⟩ := hw2
  obtain ⟨Hp, xs, hH, hargs, hC⟩ := hlaw W w.heap.size i.args ds p hval hA
  rw [hv] at hV
  obtain ⟨rfl, rfl⟩ : gs = [] ∧ q = [] := by
    cases gs with
    | nil => exact ⟨rfl, hV⟩
    | cons g r => exact absurd hV (by intro h; cases h)
  have hI : lawJ.I W := hlaid W hx'
  unfold C PureC at hC
  have hcall := hC.2 Hp W i.args.toList hI hH hargs
  have ha : i.args.toList.toArray = i.args := rfl
  rw [ha] at hcall
  refine hcall.mono ?_
  rintro e W' ⟨v, H', rfl, _, _, hvr, hb⟩
  cases hvr
  have hlen : ds.length = fn'.params.toList.length := by
    have : ∀ {ts : List TypeId} {vs : List Value} {ds : List (DataW H)} {ps : List MemPlace}, DataW.TrodAll enc Tryz.prog W 0 (fun _ => true) true ts vs ds ps → ds.length = ts.length := by
      intro ts
      induction ts with
      | nil => intro vs ds ps h; obtain ⟨rfl, rfl, rfl⟩ := trodAll_nil h; rfl
      | cons t ts ih =>
        intro vs ds ps h
        obtain ⟨v, vs1, d, ds1, a, b, rfl, rfl, rfl, h1, h2⟩ := trodAll_cons h
        simp [ih h2]
    exact this hA
  have e1 : s.fn H (ds ++ []) = { results := [.lit (.bool true)], args := ds } := by rw [List.append_nil]; exact hs ds hlen
  refine ChangeSpec.post_blind ?_
  refine ⟨ds, [], p ++ [], [], p, [], hw', ?_, ?_, ?_, below_kept hb _, fun h => by cases h⟩
  · rw [e1, hr]
    exact trodAll_mk1 (shut_bool Tryz.underlying4 true)
  · rw [e1]
    exact trodAll_keep laidOut hb hread hA (fun x hx => hlt x (by simp [hx]))
  · rw [e1, hv]
    rfl
end Go.Proofs.Fl
namespace Go.Proofs.Fl
open Go.RowKit Go.ChangeShapes Go.WideShapes Go.Deep
attribute [local irreducible] IntKind.wrap PureC MutC MakC IterC
set_option maxRecDepth 100000
theorem wf_u8 {n : Int} (h : (Lit.int .u8 n).wf = true) : ∃ p : Nat, n = (p : Int) ∧ p < 256 := by
  simp only [Lit.wf, Bool.and_eq_true, decide_eq_true_eq] at h
  have e1 : IntKind.u8.min = 0 := rfl
  have e2 : IntKind.u8.max = 255 := rfl
  rw [e1, e2] at h
  exact ⟨n.toNat, by omega, by omega⟩
section
variable {H : Type} {enc : TypeId × Value → H} {w : World} {base : Nat} {spare : Nat → Bool} {held : Bool}
theorem byte_arg {r : Reach} {b0 : Nat} {t : TypeId} (ht : Tryz.prog.underlying t = some (.int .u8)) {v : Value} {d : DataW H} {p : List MemPlace} (hv : Value.okWide Tryz.prog w r b0 t v) (h : DataW.Trod enc Tryz.prog w base spare held t v d p) :
    ∃ n : Nat, v = .int .u8 (n : Int) ∧ n < 256 := by
  obtain ⟨n, rfl, _, _, hw⟩ := open_int ht hv h
  obtain ⟨p, rfl, hp⟩ := wf_u8 hw
  exact ⟨p, rfl, hp⟩
theorem args_open1 {P : Program} {t : TypeId} {args : Array Value} {ds : List (DataW H)} {ps : List MemPlace} (h : DataW.TrodAll enc P w base spare held [t] args.toList ds ps) :
    ∃ v d, (∃ p, DataW.Trod enc P w base spare held t v d p) ∧ args = #[v] := by
  obtain ⟨v, vs, d, ds', p, q, hargs, rfl, rfl, hd, hrest⟩ := trodAll_cons h
  obtain ⟨rfl, rfl, rfl⟩ := trodAll_nil hrest
  exact ⟨v, d, ⟨p, hd⟩, Array.toList_inj.1 hargs⟩
end
def noHeap : Heap := fun _ => none
theorem noHeap_has (w : World) : HeapHas w noHeap := fun _ _ h => by cases h
noncomputable def witW (os : Os) : World := World.doorLaid Tryz.prog 65 os
theorem wit_met (os : Os) (args : Array Value) : laidMetH Tryz.prog YtemnaolonamolaaGreatDoor.Rows.topSeriesRow.laid ((witW os).forCall (fun _ _ => 0) ⟨#[], args, []⟩).memory := by
  rw [MakeChecks.laidMetH_plain _ _ _ (by kernel_rfl)]
  exact laidMet_of_run' 8 (by kernel_rfl) (by kernel_rfl)
theorem laid_pow (W : World) (h : laidMetH Tryz.prog YtemnaolonamolaaGreatDoor.Rows.topSeriesRow.laid W) : Lib.TabIs Tryz.prog W "internal/strconv.uint64pow10" .u64 Lib.pow10Tab := by
  have h1 := h.filter (fun x => x.1 == "internal/strconv.uint64pow10")
  have e : (YtemnaolonamolaaGreatDoor.Rows.topSeriesRow.laid.filter fun x => x.1 == "internal/strconv.uint64pow10") = [("internal/strconv.uint64pow10", Lib.tabData .u64 Lib.pow10Tab)] := by kernel_rfl
  rw [e, MakeChecks.laidMetH_plain _ _ _ (by kernel_rfl)] at h1
  exact Lib.tabIs_of_head gPow (t := (Tryz.prog.globals[(Tryz.prog.globalNamed "internal/strconv.uint64pow10").getD 0]?.map (·.type)).getD 0) (e := 85) (n := 20) (by kernel_rfl) (by kernel_rfl) (by kernel_rfl) (by kernel_rfl) (by kernel_rfl) h1
theorem laidOut' : laidOutB YtemnaolonamolaaGreatDoor.Tryz.pinned.checked.prog = true := by kernel_rfl
theorem rowed' : mapsRowed YtemnaolonamolaaGreatDoor.Tryz.pinned.checked.prog = true := by kernel_rfl
end Go.Proofs.Fl
