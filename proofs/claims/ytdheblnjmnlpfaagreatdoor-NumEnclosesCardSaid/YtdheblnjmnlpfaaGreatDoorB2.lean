/-
  Contracts of the functions of num and of its reference, and the join to a row (no conditions of ours).
-/
import Derived.Test.YtdheblnjmnlpfaaGreatDoorB1
import Derived.RangeFuncOwn
import Derived.OrdersIn
import Derived.TacticsIn
import Derived.Test.YtdheblnjmnlpfaaGreatDoorProg
import Derived.KernelRfl
import Derived.Shelf.Strings.BuilderK
import Derived.Shelf.Strings.Builder1
import Derived.Shelf.Strings.Builder2
import Derived.Shelf.Strings.Trim
import Derived.Shelf.Small.Utf8
import Derived.Shelf.Small.Strs
import Derived.Shelf.Small.Wraps
import Derived.Shelf.Strings.BuilderF
import Derived.Shelf.Strconv.Atoi
import Derived.Shelf.Strconv.Itoa0
import Derived.Shelf.Strconv.Itoa1
import Derived.Shelf.LaysM
import Derived.Shelf.Strconv.Itoa2
import Derived.Shelf.Strconv.Itoa3
import Derived.Shelf.Strconv.AtoiErrFast
import Derived.Shelf.Strconv.ParseIntEmpty
import Derived.Shelf.Strconv.AtoiFail
import Derived.Shelf.Strconv.Clone
import Derived.Shelf.Strconv.SyntaxError
import Derived.Shelf.LaysC
import Derived.Shelf.Strconv.ToError
import Derived.Shelf.Strconv.Lower
import Derived.Shelf.Strconv.ParseUint10
import Derived.Shelf.Strconv.ParseUint10Empty
import Derived.Shelf.Strconv.ParseUint10Any
import Derived.Shelf.Strconv.ParseInt10
import Derived.Shelf.Strconv.AtoiLong
import Derived.Shelf.Strconv.AtoiInnerAll
import Derived.Shelf.Strconv.RangeError
import Derived.Shelf.Strconv.ToErrorRange
import Derived.Shelf.Strconv.AtoiAll
import Derived.Shelf.Strconv.ErrVarAll
import Derived.Shelf.Strings.Search1
import Derived.Shelf.Strings.Search2
import Derived.Shelf.Strings.Cut
import Derived.Shelf.Strings.Shaped
import Derived.Shelf.Strings.Prefix
import Derived.Shelf.Unicode.Decode
import Derived.Shelf.Strings.Runes
import Derived.Shelf.Strings.AsciiSet
import Derived.Shelf.Bits.Mul64
import Derived.Shelf.Strings.Repeat
import Derived.Shelf.Unicode.DecodeSlow
import Derived.Shelf.Unicode.DecodeAny
import Derived.Shelf.Unicode.DecodeLast
import Derived.Ground.Names2Prog
import Derived.Shelf.Slices.SearchI
import Derived.Test.YtdheblnjmnlpfaaGreatDoorTie
import Derived.Test.YtdheblnjmnlpfaaGreatDoorCards
import Derived.ChangeSame
import Derived.ChangeVars
import Derived.JoinedOf
import Derived.RowKit
import Derived.RowKitTokens
import Derived.LaidLaws
import Derived.LaidMore
import Derived.LaidSub
import Derived.Stop.Joined
import Derived.Lib.LaidTab
import Derived.Lib.LaidU8
import Derived.Lib.SmallJoins
import Derived.Carry
import Derived.SevenTiedAt
namespace Go.Proofs.Fl
open Go.RowKit
theorem filter_lt {p p' : Nat → Bool} {i : Nat} (h1 : p i = true) (h2 : p' i = false) (h3 : ∀ j, p' j = true → p j = true) : ∀ {l : List Nat}, i ∈ l → (l.filter p').length < (l.filter p).length
  | [], h => by simp at h
  | j :: l, h => by
    have hle : ∀ l : List Nat, (l.filter p').length ≤ (l.filter p).length := by
      intro l
      induction l with
      | nil => simp
      | cons k l ih =>
        simp only [List.filter_cons]
        cases hp' : p' k with
        | true => simp [h3 k hp']; exact ih
        | false =>
          cases p k
          · simpa using ih
          · simp; omega
    by_cases hji : j = i
    · subst hji
      simp only [List.filter_cons, h1, h2, if_true]
      have := hle l
      simp; omega
    · have hm : i ∈ l := by
        rcases List.mem_cons.1 h with e | e
        · exact absurd e.symm hji
        · exact e
      have := filter_lt h1 h2 h3 hm
      simp only [List.filter_cons]
      cases hp' : p' j with
      | true => simp [h3 j hp']; exact this
      | false =>
        cases p j
        · simpa using this
        · simp; omega
section
variable {all : Array Oper} {tab : List Nat} {S : Nat → Bool}
theorem Flow.anc_lt (hf : Flow all tab) : ∀ (i : Nat) (o : Oper), all[i]? = some o → ∀ a, (tab.getD i 0).testBit a = true → a < i := by
  intro i
  induction i using Nat.strongRecOn with
  | _ i ih =>
    intro o ho a ha
    rw [hf.mask i o ho] at ha
    obtain ⟨e, he, h⟩ := maskOf_spec ha
    have hlt := hf.edge i o ho e he
    rcases h with rfl | h
    · exact hlt
    · have hsz : e < all.size := Nat.lt_trans hlt (Array.getElem?_eq_some_iff.1 ho).1
      have := ih e hlt all[e] (by simp [hsz]) a h
      omega
def Closed (all : Array Oper) (S : Nat → Bool) : Prop := ∀ j o, all[j]? = some o → S j = true → ∀ e ∈ edgesOf o, S e = true
theorem Flow.anc_in (hf : Flow all tab) (hc : Closed all S) : ∀ (i : Nat) (o : Oper), all[i]? = some o → (∀ e ∈ edgesOf o, S e = true) → ∀ a, (tab.getD i 0).testBit a = true → S a = true := by
  intro i
  induction i using Nat.strongRecOn with
  | _ i ih =>
    intro o ho he0 a ha
    rw [hf.mask i o ho] at ha
    obtain ⟨e, he, h⟩ := maskOf_spec ha
    have hlt := hf.edge i o ho e he
    rcases h with rfl | h
    · exact he0 e he
    · have hsz : e < all.size := Nat.lt_trans hlt (Array.getElem?_eq_some_iff.1 ho).1
      have hg : all[e]? = some all[e] := by simp [hsz]
      exact ih e hlt all[e] hg (hc e _ hg (he0 e he)) a h
theorem Flow.near_same (hf : Flow all tab) (hc : Closed all S) {i j : Nat} {o o' : Oper} (hi : all[i]? = some o) (hj : all[j]? = some o') (hr : ∀ e ∈ edgesOf o, S e = true) (hS : S i = false) (hn : near tab i j = true) : decide (j < i) = S j := by
  simp only [near, Bool.or_eq_true] at hn
  rcases hn with h | h | h
  · have := Nat.eq_of_beq_eq_true h; subst this
    rw [hS]; simp
  · rw [hf.anc_in hc i o hi hr j h]
    simpa using hf.anc_lt i o hi j h
  · have h1 := hf.anc_lt j o' hj i h
    cases hSj : S j with
    | true =>
      have := hf.anc_in hc j o' hj (hc j o' hj hSj) i h
      rw [hS] at this; cases this
    | false => simpa using by omega
end
section
variable {T : TypeId → Option TY} {Φ : Ctr} {all : Array Oper} {o : Oper} {g : Nat} {tm tm' : Nat → SV} {bx bx' : Nat → Option Bx} {l : Lg}
theorem mem_looks {x : Operand} {t : Nat} (hx : x ∈ o.op.operands) (e : x = .tmp t) : t ∈ looksB all o := by
  have h : t ∈ o.op.operands.toList.filterMap fun | .tmp t => some t | _ => none := List.mem_filterMap.2 ⟨x, by simpa using hx, by subst e; rfl⟩
  unfold looksB
  split
  · split
    · exact List.mem_cons_of_mem _ h
    · exact h
  · exact h
theorem Fact.foot (h : Fact T Φ all o g tm bx l) (ht : ∀ t ∈ looksB all o, tm' t = tm t) (hb : ∀ id ∈ l.e.rd, eqF (bx id) (bx' id)) (hw : ∀ p ∈ l.e.wr, bx' p.1 = bx p.1) : Fact T Φ all o g tm' bx' l := by
  have hy : ysS all tm' o = ysS all tm o := by
    unfold ysS
    split
    · rfl
    · rename_i j want hg
      split
      · rfl
      · rename_i t hd
        have : tm' t = tm t := ht t (by unfold looksB; simp only [hg, hd]; simp)
        rw [this]
  unfold Fact at *
  rw [hy]
  rcases h with ⟨h1, h2⟩ | h
  · refine .inl ⟨h1, opP_foot h2 (fun x hx => ?_) hb hw⟩
    cases x with
    | tmp t => exact ht t (mem_looks hx rfl)
    | _ => rfl
  · exact .inr h
theorem wanted_ys {E : Env} {nt : Nat} {H : Heap} {β : Nat → Nat × Nat} {a : Act} {w : World} (h : St E nt H β tm bx a w) {c : Bool} (hy : ysS all tm o = some c) : Region.wanted o (yielded all a.tmps) = c := by
  unfold ysS at hy
  unfold Region.wanted
  split at hy
  · rename_i hg; simp only [hg]; simpa using hy
  · rename_i j want hg
    simp only [hg]
    split at hy
    · rename_i hd
      simp only [yielded, hd, Option.bind_none]
      simpa using hy
    · rename_i t hd
      simp only [yielded, hd, Option.bind_some]
      have hs := h.sim.slot t
      split at hy
      · rename_i b ht
        rw [ht] at hs
        have e := VR.asBool hs
        cases hx : a.tmps[t]? with
        | none => simp [hx, undef] at e
        | some u => simp [hx] at e; subst e; simpa using hy
      · rename_i ht
        rw [ht] at hs
        change a.tmps.getD t undef = undef at hs
        cases hx : a.tmps[t]? with
        | none => simpa using hy
        | some u => simp [hx] at hs; subst hs; simpa [undef] using hy
      · cases hy
end
section
variable {P : Program} {I : World → Prop} {T : TypeId → Option TY} {Φ : Ctr} {E : Env} {nt : Nat} {Q : Exit → Act → World → Prop}
def dstsOk (nt : Nat) (l : List Oper) : Bool := l.all fun o => match o.dst with
  | some d => Nat.blt d nt
  | none => true
theorem dstsOk_spec {l : List Oper} (h : dstsOk nt l = true) {o : Oper} (ho : o ∈ l) : ∀ d, o.dst = some d → d < nt := fun d hd => by
  have := List.all_eq_true.1 h o ho
  simp only [hd, Nat.blt_eq] at this; exact this
def FW (ro : Option Nat) : Fence := { Fence.wide with round := ro }
theorem callsW {P : Program} {ro : Option Nat} {n : Nat} {f : FuncId} {args : Array Value} {w : World} {R : Ending → World → Prop} (h : Calls P f args w R) : CallsIn (FW ro) n P f args w R :=
  callsIn_wide (n := n) |>.2 h
theorem rowsW {P : Program} {ro : Option Nat} {n : Nat} {row : String} {args : Array Value} {w : World} {R : Value → World → Prop} (h : Rows P row args w R) : RowsIn (FW ro) n P row args w R :=
  fun c cs _ => let ⟨v, w', r, s⟩ := h c cs; ⟨v, w', r, (stepsIn_wide (P := P)).2 s⟩
theorem op_in {P : Program} {ro : Option Nat} {o : Oper} {a : Act} {w : World} {K : Act → World → Prop} {Q : Exit → Act → World → Prop} (hnd : ∀ c, o.op ≠ .defer c) (h : o.wp P a w K Q) : o.wpIn (FW ro) 0 P a w K Q := by
  refine ⟨fun _ _ => trivial, ?_⟩
  rw [show (FW ro).round = ro from rfl, Oper.semAt_eq ro a.eval o hnd]
  unfold Oper.wp at h
  generalize (execOp a.eval o).run P w = r at *
  cases r with
  | ok x w' =>
    cases x <;> simp only [Oper.upon, Oper.uponIn] at h ⊢ <;>
      first
        | exact h
        | exact ⟨fun e => (by cases e), callsW h⟩
        | exact ⟨fun e => (by cases e), rowsW h⟩
  | halt x w' => cases x <;> simp only [Oper.upon, Oper.uponIn] at h ⊢ <;> exact h
theorem fact_step {ro : Option Nat} (hT : TabOk P T) (hΦ : CtrOk P I Φ) (hIE : ∀ w, BelowO E.own E.w0 w → I w) {all : Array Oper} {o : Oper} (hd : ∀ d, o.dst = some d → d < nt) {H : Heap} {β : Nat → Nat × Nat} {tm : Nat → SV} {bx : Nat → Option Bx} {a : Act} {w : World} {g : Nat} {l : Lg} (h : St E nt H β tm bx a w) (hf : Fact T Φ all o g tm bx l)
    {K : Act → World → Prop} (hK : ∀ H β a w, St E nt H β (putS tm o.dst l.r) (wrAll (fzAll bx l.e.fz) l.e.wr) a w → K a w) :
    if Region.wanted o (yielded all a.tmps) then o.wpIn (FW ro) 0 P a w K Q else (∀ f, o.about P w a.eval = some f → (FW ro).fn f) ∧ K (a.put o.dst undef) w := by
  rcases hf with ⟨hy, hop⟩ | ⟨hy, hr, he⟩
  · rw [wanted_ys h hy]
    simp only [if_true]
    refine op_in (fun c hc => ?_) (Oper.wp_mono (fun a w hp => ?_) (opP_ok hT hΦ (fun w' hw' => hIE w' (h.sim.below.trans (hw'))) h hd hop))
    · unfold opP at hop; rw [hc] at hop; exact hop.elim
    obtain ⟨r, e, H, β, ⟨rfl, rfl⟩, hS⟩ := hp
    exact hK _ _ _ _ hS
  · rw [wanted_ys h hy]
    simp only [Bool.false_eq_true, if_false]
    rw [hr, he] at hK
    exact ⟨fun _ _ => trivial, hK H β _ w (h.put hd (r := .und) rfl)⟩
theorem Sim.drawn {H : Heap} {β : Nat → Nat × Nat} {tm : Nat → SV} {bx : Nat → Option Bx} {a : Act} {w : World} (h : St E nt H β tm bx a w) : St E nt H β tm bx a { w with drawn := w.drawn + 1 } :=
  ⟨h.sim.same rfl rfl rfl rfl, h.defers, h.size⟩
theorem list_go {ro : Option Nat} (hT : TabOk P T) (hΦ : CtrOk P I Φ) (hIE : ∀ w, BelowO E.own E.w0 w → I w) {all : Array Oper} {K : (Nat → SV) → (Nat → Option Bx) → List Lg → Prop} (hK : ∀ H β tm bx log a w, K tm bx log → St E nt H β tm bx a w → Q .normal a w) :
    ∀ {os : List Oper} {g : Nat} {tm : Nat → SV} {bx : Nat → Option Bx} {log : List Lg} {H : Heap} {β : Nat → Nat × Nat} {a : Act} {w : World}, dstsOk nt os = true → St E nt H β tm bx a w → opsP T Φ all os g tm bx log K → wpListIn (FW ro) 0 P all Q os a w := by
  intro os
  induction os with
  | nil => intro g tm bx log H β a w _ h ho; exact hK _ _ _ _ _ _ _ ho h
  | cons o os ih =>
    intro g tm bx log H β a w hd h ho
    have hd' : dstsOk nt os = true := by
      simp only [dstsOk, List.all_cons, Bool.and_eq_true] at hd; exact hd.2
    have key : ∃ l : Lg, Fact T Φ all o g tm bx l ∧ opsP T Φ all os (g + 1) (putS tm o.dst l.r) (wrAll (fzAll bx l.e.fz) l.e.wr) (l :: log) K := by
      unfold opsP at ho
      split at ho
      · rename_i hy
        obtain ⟨r, e, h1, h2⟩ := opP_elim ho
        exact ⟨⟨r, e⟩, .inl ⟨hy, h1⟩, h2⟩
      · rename_i hy
        exact ⟨⟨.und, {}⟩, .inr ⟨hy, rfl, rfl⟩, ho⟩
      · exact ho.elim
    obtain ⟨l, hf, h'⟩ := key
    unfold wpListIn
    exact fact_step hT hΦ hIE (dstsOk_spec hd (by simp)) h hf fun H β a w hS => ih hd' hS h'
theorem any_go {ro : Option Nat} (hT : TabOk P T) (hΦ : CtrOk P I Φ) (hIE : ∀ w, BelowO E.own E.w0 w → I w) {all : Array Oper} {tab : List Nat} (hd : dstsOk nt all.toList = true) (hf : Flow all tab) {g : Nat} {tm : Nat → SV} {bx : Nat → Option Bx} {D : Nat → Option Nat} (hD : ∀ i o, all[i]? = some o → D i = o.dst) (L : Nat → Lg)
    (hfact : ∀ i o, all[i]? = some o → Fact T Φ all o (g + i) (fun t => tmF D L (fun j => decide (j < i)) t (List.range all.size) (tm t)) (fun id => bxF L (fun j => decide (j < i)) id (List.range all.size) (bx id)) (L i))
    (hconf : ∀ i j, i < all.size → j < all.size → near tab i j = true ∨ meets (L i).e (L j).e = false)
    (hQ : ∀ H β a w, St E nt H β (fun t => tmF D L (fun _ => true) t (List.range all.size) (tm t)) (fun id => bxF L (fun _ => true) id (List.range all.size) (bx id)) a w → Q .normal a w) :
    ∀ (fuel : Nat) (listed : Array Bool) (S : Nat → Bool) (H : Heap) (β : Nat → Nat × Nat) (a : Act) (w : World), (∀ j, j < all.size → listed.getD j true = S j ∧ listed.getD j false = S j) → ((List.range all.size).filter fun j => !S j).length ≤ fuel → Closed all S →
      St E nt H β (fun t => tmF D L S t (List.range all.size) (tm t)) (fun id => bxF L S id (List.range all.size) (bx id)) a w → wpAnyIn (FW ro) 0 P .any all Q fuel listed a w := by
  have lt : ∀ {j o}, all[j]? = some o → j < all.size := fun h => (Array.getElem?_eq_some_iff.1 h).1
  have edge_iff : ∀ {o : Oper} {p : Nat → Prop}, (∀ e ∈ o.after, Region.binds .any e = true → p e.on) ↔ ∀ e ∈ edgesOf o, p e := by
    intro o p
    unfold edgesOf
    constructor
    · intro h e he
      obtain ⟨x, hx, e'⟩ := List.mem_filterMap.1 he
      cases hb : Region.binds .any x with
      | true => simp [hb] at e'; subst e'; exact h x (by simpa using hx) hb
      | false => simp [hb] at e'
    · intro h x hx hb
      exact h _ (List.mem_filterMap.2 ⟨x, by simpa using hx, by simp [hb]⟩)
  have done : ∀ {listed : Array Bool} {S : Nat → Bool}, (∀ j, j < all.size → listed.getD j true = S j ∧ listed.getD j false = S j) → Region.ready .any all listed = [] → ∀ j, j < all.size → S j = true := by
    intro listed S hl hr j
    induction j using Nat.strongRecOn with
    | _ j ih =>
      intro hj
      cases hS : S j with
      | true => rfl
      | false =>
        have hg : all[j]? = some all[j] := by simp [hj]
        have : j ∈ Region.ready .any all listed := mem_ready.2 ⟨by rw [(hl j hj).1, hS], all[j], hg, (edge_iff (p := fun e => listed.getD e false = true)).2 fun e he => by
          have := hf.edge j _ hg e he
          rw [(hl e (by omega)).2]; exact ih e this (by omega)⟩
        rw [hr] at this; simp at this
  have fin : ∀ {S : Nat → Bool} {H : Heap} {β : Nat → Nat × Nat} {a : Act} {w : World}, (∀ j, j < all.size → S j = true) → St E nt H β (fun t => tmF D L S t (List.range all.size) (tm t)) (fun id => bxF L S id (List.range all.size) (bx id)) a w → Q .normal a w := by
    intro S H β a w hS h
    refine hQ H β a w ?_
    have e1 : (fun t => tmF D L S t (List.range all.size) (tm t)) = (fun t => tmF D L (fun _ => true) t (List.range all.size) (tm t)) := funext fun t => tmF_agree fun i hi _ => hS i (List.mem_range.1 hi)
    have e2 : (fun id => bxF L S id (List.range all.size) (bx id)) = (fun id => bxF L (fun _ => true) id (List.range all.size) (bx id)) := funext fun id => bxF_agree fun i hi hne => absurd (hS i (List.mem_range.1 hi)) hne
    rw [← e1, ← e2]; exact h
  intro fuel
  induction fuel with
  | zero =>
    intro listed S H β a w hl hn hc h
    have hS : ∀ j, j < all.size → S j = true := fun j hj => by
      have h0 : (List.range all.size).filter (fun j => !S j) = [] := List.eq_nil_of_length_eq_zero (by omega)
      have := List.filter_eq_nil_iff.1 h0 j (List.mem_range.2 hj)
      simpa using this
    refine ⟨?_, fin hS h⟩
    cases hr : Region.ready .any all listed with
    | nil => rfl
    | cons i is =>
      have hi : i ∈ Region.ready .any all listed := by rw [hr]; simp
      obtain ⟨h0, o, ho, _⟩ := mem_ready.1 hi
      rw [(hl i (lt ho)).1, hS i (lt ho)] at h0; cases h0
  | succ fuel ih =>
    intro listed S H β a w hl hn hc h
    refine ⟨fun hr => fin (done hl hr) h, fun i hi => ?_⟩
    obtain ⟨h0, o, ho, hall⟩ := mem_ready.1 hi
    have hilt := lt ho
    have hSi : S i = false := by rw [← (hl i hilt).1]; exact h0
    have hre : ∀ e ∈ edgesOf o, S e = true := fun e he => by
      have := hf.edge i o ho e he
      rw [← (hl e (by omega)).2]
      exact (edge_iff (p := fun e => listed.getD e false = true)).1 hall e he
    have same : ∀ j, j < all.size → near tab i j = true → decide (j < i) = S j := fun j hj hn => hf.near_same hc ho (show all[j]? = some all[j] by simp [hj]) hre hSi hn
    have hfa : Fact T Φ all o (g + i) (fun t => tmF D L S t (List.range all.size) (tm t)) (fun id => bxF L S id (List.range all.size) (bx id)) (L i) := by
      refine (hfact i o ho).foot (fun t ht => ?_) (fun id hid => ?_) (fun p hp => ?_)
      · refine (tmF_agree fun j hj hdj => ?_).symm
        have hj := List.mem_range.1 hj
        have hg : all[j]? = some all[j] := by simp [hj]
        exact same j hj (hf.looks i o ho t ht j _ hg (by rw [← hD j _ hg]; exact hdj))
      · refine bxF_eqF (fun j hj hne => ?_) (eqF.refl _)
        have hj := List.mem_range.1 hj
        rcases hconf j i hj hilt with hn | hm
        · rw [near_symm] at hn; exact absurd (same j hj hn) hne
        · exact meets_not hm (.inl hid)
      · refine (bxF_agree fun j hj hne => ?_).symm
        have hj := List.mem_range.1 hj
        rcases hconf i j hilt hj with hn | hm
        · exact absurd (same j hj hn) hne
        · exact (meets_spec hm hp).1
    unfold wpOpIn
    simp only [ho]
    refine fact_step hT hΦ hIE (dstsOk_spec hd (by simpa using Array.mem_of_getElem? ho)) h hfa fun H β a w hS => ?_
    refine ih _ (fun j => S j || Nat.beq j i) H β a w (fun j hj => ?_) ?_ ?_ ?_
    · by_cases hji : j = i
      · subst hji
        have hsz : j < listed.size := by
          rcases Nat.lt_or_ge j listed.size with h' | h'
          · exact h'
          · simp [Array.getElem?_eq_none h'] at h0
        simp [hsz, Nat.beq_refl]
      · have hb : Nat.beq j i = false := by
          cases hb : Nat.beq j i
          · rfl
          · exact absurd (Nat.eq_of_beq_eq_true hb) hji
        rw [getD_set_ne true (Ne.symm hji), getD_set_ne false (Ne.symm hji), hb, Bool.or_false]
        exact hl j hj
    · have := filter_lt (p := fun j => !S j) (p' := fun j => !(S j || Nat.beq j i)) (i := i) (by simp [hSi]) (by simp [Nat.beq_refl]) (fun j hj => by simp at hj ⊢; exact hj.1) (List.mem_range.2 hilt)
      omega
    · intro j o' hj hSj e he
      simp only [Bool.or_eq_true] at hSj ⊢
      rcases hSj with hSj | hSj
      · exact .inl (hc j o' hj hSj e he)
      · have := Nat.eq_of_beq_eq_true hSj; subst this
        rw [ho] at hj; cases hj
        exact .inl (hre e he)
    · have e1 : (fun t => tmF D L (fun j => S j || Nat.beq j i) t (List.range all.size) (tm t)) = putS (fun t => tmF D L S t (List.range all.size) (tm t)) o.dst (L i).r := by
        funext t
        rw [tmF_add (S := S) (i := i) (fun _ => rfl) (List.mem_range.2 hilt) (fun j hj h1 h2 => by
          have hj := List.mem_range.1 hj
          have hg : all[j]? = some all[j] := by simp [hj]
          rw [hD i o ho] at h1
          rw [hD j _ hg] at h2
          exact hf.uniq j i _ o t hg ho h2 h1)]
        rw [hD i o ho]
        cases hdo : o.dst with
        | none => simp [putS]
        | some d =>
          by_cases hdt : d = t
          · subst hdt; simp [putS, upd_same]
          · simp [putS, hdt, upd_other _ _ _ (Ne.symm hdt)]
      have e2 : (fun id => bxF L (fun j => S j || Nat.beq j i) id (List.range all.size) (bx id)) = wrAll (fzAll (fun id => bxF L S id (List.range all.size) (bx id)) (L i).e.fz) (L i).e.wr := by
        funext id
        rw [app_at, bxF_add (S := S) (i := i) (fun _ => rfl) hSi List.pairwise_lt_range (List.mem_range.2 hilt)]
        intro j hj hij hSj b
        have hj := List.mem_range.1 hj
        have hnn : near tab i j = false := by
          cases hn : near tab i j with
          | false => rfl
          | true =>
            have := same j hj hn
            rw [hSj] at this
            simp at this; omega
        have m1 := (hconf i j hilt hj).resolve_left (by rw [hnn]; simp)
        have m2 := (hconf j i hj hilt).resolve_left (by rw [near_symm, hnn]; simp)
        exact actE_comm m2 m1 id b
      rw [e1, e2]; exact hS
end
end Go.Proofs.Fl
namespace Go.Proofs.Fl
open Go.RowKit
structure Cx where
  P : Program
  I : World → Prop
  T : TypeId → Option TY
  hT : TabOk P T
  hm : P.follows .mixedOrders = true
  bel : ∀ n w w', I w → w.heap.size ≤ n → Below n w w' → I w'
  mu : FuncId → Bool
  ma : FuncId → Bool
  ro : Option Nat → Prop
  r0 : ro none
abbrev Cx.C (X : Cx) : Ctr := ⟨X.ma, MakC X.P X.I, X.mu, PureC X.P X.I, MutC X.P X.I⟩
theorem Cx.ok (X : Cx) : CtrOk X.P X.I X.C := ⟨fun _ _ _ _ h => h, fun _ _ _ h => h, fun _ _ _ _ _ _ _ _ _ h => h⟩
def regP (X : Cx) (all : Array Oper) (draw : Bool) (σ : AS) (K : AS → Prop) : Prop :=
  opsP X.T X.C all all.toList σ.nx σ.tm σ.bx [] fun tm bx log => match draw with
    | true => noConf (ancs all.toList) log.reverse = true ∧ K ⟨tm, bx, σ.nx + all.size⟩
    | false => K ⟨tm, bx, σ.nx + all.size⟩
def CW (X : Cx) (nt : Nat) (c : Code) (σ : AS) (K : Exit → AS → Prop) : Prop :=
  ∀ (ro : { r : Option Nat // X.ro r }) (E : Env) (Q : Exit → Act → World → Prop), (∀ w, BelowO E.own E.w0 w → X.I w) → (∀ e σ' M H β a w, K e σ' → St (E.mks M) nt H β σ'.tm σ'.bx a w → Q e a w) →
    ∀ M H β a w, St (E.mks M) nt H β σ.tm σ.bx a w → c.wpIn (FW ro.1) 0 X.P Q a w
def thenK (X : Cx) (nt : Nat) (y : Code) (K : Exit → AS → Prop) : Exit → AS → Prop
  | .normal, σ => CW X nt y σ K
  | e, σ => K e σ
def blockK (id : Nat) (K : Exit → AS → Prop) : Exit → AS → Prop
  | .exit i, σ => bif Nat.beq i id then K .normal σ else K (.exit i) σ
  | e, σ => K e σ
section
variable {X : Cx} {nt : Nat} {σ : AS} {K : Exit → AS → Prop}
theorem CW.mono {c : Code} {K' : Exit → AS → Prop} (h : CW X nt c σ K') (hk : ∀ e σ, K' e σ → K e σ) : CW X nt c σ K :=
  fun ro E Q hI hQ M H β a w hS => h ro E Q hI (fun e σ' M H β a w k hS => hQ e σ' M H β a w (hk _ _ k) hS) M H β a w hS
theorem CW.skip (h : K .normal σ) : CW X nt .skip σ K := fun _ _ _ _ hQ M H β a w hS => wpIn_skip (hQ _ _ M H β a w h hS)
theorem CW.ret (h : K .ret σ) : CW X nt .ret σ K := fun _ _ _ _ hQ M H β a w hS => wpIn_ret (hQ _ _ M H β a w h hS)
theorem CW.exit {id : Nat} (h : K (.exit id) σ) : CW X nt (.exit id) σ K := fun _ _ _ _ hQ M H β a w hS => wpIn_exit (hQ _ _ M H β a w h hS)
theorem CW.seq {x y : Code} (h : CW X nt x σ (thenK X nt y K)) : CW X nt (.seq x y) σ K := fun ro E Q hI hQ M H β a w hS =>
  wpIn_seq (h ro E _ hI (fun e σ' M H β a w k hS => by
    cases e with
    | normal => exact k ro E Q hI hQ M H β a w hS
    | _ => exact hQ _ _ M H β a w k hS) M H β a w hS)
theorem CW.cond {c : Operand} {x y : Code} {t : Bool} (hc : evS σ.tm c = .iv (.bool t)) (h1 : t = true → CW X nt x σ K) (h2 : t = false → CW X nt y σ K) : CW X nt (.cond c x y) σ K := fun ro E Q hI hQ M H β a w hS => by
  have hv := ev_ok hS.sim rfl c
  rw [hc] at hv
  exact wpIn_cond_split (VR.asBool hv) (fun e => h1 e ro E Q hI hQ M H β a w hS) (fun e => h2 e ro E Q hI hQ M H β a w hS)
theorem CW.block {id : Nat} {c : Code} (h : CW X nt c σ (blockK id K)) : CW X nt (.block id c) σ K := fun ro E Q hI hQ M H β a w hS =>
  wpIn_block (h ro E _ hI (fun e σ' M H β a w k hS => by
    cases e with
    | exit i =>
      simp only [blockK] at k
      simp only [Exit.inBlock]
      by_cases hi : i = id
      · subst hi
        rw [Nat.beq_refl] at k
        simp only [if_true]
        exact hQ _ _ M H β a w k hS
      · have hb : Nat.beq i id = false := by
          cases hb : Nat.beq i id
          · rfl
          · exact absurd (Nat.eq_of_beq_eq_true hb) hi
        rw [hb] at k
        simp only [hi, if_false]
        exact hQ _ _ M H β a w k hS
    | _ => exact hQ _ _ M H β a w k hS) M H β a w hS)
theorem zip_fold {os : List Oper} {recs : List Lg} (hl : recs.length = os.length) (D : Nat → Option Nat) (hD : ∀ i o, os[i]? = some o → D i = o.dst) (hu : ∀ (i j : Nat) (o o' : Oper) (d : Nat), os[i]? = some o → os[j]? = some o' → o.dst = some d → o'.dst = some d → i = j) (tm : Nat → SV) (bx : Nat → Option Bx) : ∀ k, k ≤ os.length →
    (((os.zip recs).take k).foldl (fun tm p => putS tm p.1.dst p.2.r) tm) = (fun t => tmF D (fun i => recs.getD i default) (fun j => decide (j < k)) t (List.range os.length) (tm t)) ∧
    (((os.zip recs).take k).foldl (fun bx p => wrAll (fzAll bx p.2.e.fz) p.2.e.wr) bx) = (fun id => bxF (fun i => recs.getD i default) (fun j => decide (j < k)) id (List.range os.length) (bx id)) := by
  intro k
  induction k with
  | zero =>
    intro _
    have z1 : ∀ (t : Nat) (l : List Nat) (x : SV), tmF D (fun i => recs.getD i default) (fun j => decide (j < 0)) t l x = x := by
      intro t l
      induction l with
      | nil => intro x; rfl
      | cons i l ih => intro x; rw [tmF, if_neg (by simp)]; exact ih x
    have z2 : ∀ (t : Nat) (l : List Nat) (x : Option Bx), bxF (fun i => recs.getD i default) (fun j => decide (j < 0)) t l x = x := by
      intro t l
      induction l with
      | nil => intro x; rfl
      | cons i l ih => intro x; rw [bxF, if_neg (by simp)]; exact ih x
    refine ⟨?_, ?_⟩
    · funext t; simp only [List.take_zero, List.foldl_nil]; exact (z1 t _ _).symm
    · funext t; simp only [List.take_zero, List.foldl_nil]; exact (z2 t _ _).symm
  | succ k ih =>
    intro hk
    obtain ⟨i1, i2⟩ := ih (by omega)
    have ho : os[k]? = some os[k] := by simp
    have hr : recs[k]? = some (recs[k]'(by omega)) := by simp
    have hz : (os.zip recs)[k]? = some (os[k], recs[k]'(by omega)) := by
      rw [List.getElem?_zip_eq_some]; exact ⟨ho, hr⟩
    have hg : recs.getD k default = recs[k]'(by omega) := by simp [hr]
    have hS : ∀ j, decide (j < k + 1) = (decide (j < k) || Nat.beq j k) := by
      intro j
      by_cases h1 : j < k
      · simp [h1]; omega
      · by_cases h2 : j = k
        · subst h2; simp [Nat.beq_refl]
        · have hb : Nat.beq j k = false := by
            cases hb : Nat.beq j k
            · rfl
            · exact absurd (Nat.eq_of_beq_eq_true hb) h2
          simp [h1, hb]; omega
    have hm : k ∈ List.range os.length := List.mem_range.2 (by omega)
    constructor
    · rw [List.take_add_one, List.foldl_append, i1, hz]
      funext t
      rw [tmF_add (S := fun j => decide (j < k)) (i := k) hS hm (fun j hj h1 h2 => by
        have hj := List.mem_range.1 hj
        have hgj : os[j]? = some os[j] := by simp [hj]
        rw [hD k _ ho] at h1; rw [hD j _ hgj] at h2
        exact hu j k _ _ t hgj ho h2 h1), hD k _ ho]
      simp only [Option.toList_some, List.foldl_cons, List.foldl_nil, hg]
      cases hdo : os[k].dst with
      | none => simp [putS]
      | some d =>
        by_cases hdt : d = t
        · subst hdt; simp [putS, upd_same]
        · simp [putS, hdt, upd_other _ _ _ (Ne.symm hdt)]
    · rw [List.take_add_one, List.foldl_append, i2, hz]
      funext id
      rw [bxF_add (S := fun j => decide (j < k)) (i := k) hS (by simp) List.pairwise_lt_range hm (fun j _ h1 h2 => by simp at h2; omega)]
      simp only [Option.toList_some, List.foldl_cons, List.foldl_nil]
      rw [app_at, hg]
theorem CW.region {id : Nat} {all : Array Oper} {draw : Bool} (hd : dstsOk nt all.toList = true) (hf : draw = true → flowOk all (ancs all.toList) = true) (h : regP X all draw σ (K .normal)) : CW X nt (.region id all draw) σ K := fun ro E Q hI hQ M H β a w hS => by
  unfold regP at h
  cases draw with
  | false =>
    exact wpIn_region_list (list_go (E := E.mks M) X.hT X.ok hI (fun H β tm bx log a w k hS => hQ .normal ⟨tm, bx, σ.nx + all.size⟩ M H β a w k hS) hd hS h)
  | true =>
    have hfl := flow_of (hf rfl)
    obtain ⟨recs, e1, e2, e3, e4⟩ := opsP_facts h
    have hlen : all.toList.length = all.size := by simp
    let D : Nat → Option Nat := fun i => (all[i]?).bind (·.dst)
    have hD : ∀ i o, all[i]? = some o → D i = o.dst := fun i o ho => by simp [D, ho]
    have hD' : ∀ i o, all.toList[i]? = some o → D i = o.dst := fun i o ho => hD i o (by simpa using ho)
    have hu : ∀ (i j : Nat) (o o' : Oper) (d : Nat), all.toList[i]? = some o → all.toList[j]? = some o' → o.dst = some d → o'.dst = some d → i = j := fun i j o o' d h1 h2 => hfl.uniq i j o o' d (by simpa using h1) (by simpa using h2)
    have zf := zip_fold (D := D) e1 hD' hu σ.tm σ.bx
    rw [hlen] at zf
    have hall := zf all.size (Nat.le_refl _)
    have htk : (all.toList.zip recs).take all.size = all.toList.zip recs := List.take_of_length_le (by simp [e1])
    rw [htk] at hall
    rw [hall.1, hall.2] at e4
    have t1 : (fun t => tmF D (fun i => recs.getD i default) (fun j => decide (j < all.size)) t (List.range all.size) (σ.tm t)) = (fun t => tmF D (fun i => recs.getD i default) (fun _ => true) t (List.range all.size) (σ.tm t)) :=
      funext fun t => tmF_agree fun i hi _ => by simpa using List.mem_range.1 hi
    have t2 : (fun id => bxF (fun i => recs.getD i default) (fun j => decide (j < all.size)) id (List.range all.size) (σ.bx id)) = (fun id => bxF (fun i => recs.getD i default) (fun _ => true) id (List.range all.size) (σ.bx id)) :=
      funext fun id => bxF_agree fun i hi hne => absurd (by simpa using List.mem_range.1 hi) hne
    rw [t1, t2] at e4
    refine wpIn_region_any X.hm (any_go (E := E.mks M) X.hT X.ok hI hd hfl (g := σ.nx) (tm := σ.tm) (bx := σ.bx) hD (fun i => recs.getD i default) (fun i o ho => ?_) (fun i j hi hj => ?_) (fun H β a w hS => hQ .normal _ M H β a w e4 hS) all.size _ (fun _ => false) H β a _ (fun j hj => ?_) ?_ ?_ (Sim.drawn ?_))
    · have hlt : i < all.size := (Array.getElem?_eq_some_iff.1 ho).1
      have hr : recs[i]? = some (recs.getD i default) := by
        have : i < recs.length := by omega
        simp [this]
      have := e2 i o _ (by simpa using ho) hr
      rw [(zf i (by omega)).1, (zf i (by omega)).2] at this
      exact this
    · simp only [List.append_nil, List.reverse_reverse] at e3
      have hi' : recs[i]? = some (recs.getD i default) := by
        have : i < recs.length := by omega
        simp [this]
      have hj' : recs[j]? = some (recs.getD j default) := by
        have : j < recs.length := by omega
        simp [this]
      have := confFrom_spec e3 i _ hi' j _ hj'
      rwa [Nat.zero_add] at this
    · simp [hj]
    · refine Nat.le_trans (List.length_filter_le _ _) (by simp)
    · intro j o _ h; cases h
    · have z1 : ∀ (t : Nat) (l : List Nat) (x : SV), tmF D (fun i => recs.getD i default) (fun _ => false) t l x = x := by
        intro t l
        induction l with
        | nil => intro x; rfl
        | cons i l ih => intro x; rw [tmF, if_neg (by simp)]; exact ih x
      have z2 : ∀ (t : Nat) (l : List Nat) (x : Option Bx), bxF (fun i => recs.getD i default) (fun _ => false) t l x = x := by
        intro t l
        induction l with
        | nil => intro x; rfl
        | cons i l ih => intro x; rw [bxF, if_neg (by simp)]; exact ih x
      simp only [z1, z2]
      exact hS
end
end Go.Proofs.Fl
namespace Go.Proofs.Fl
open Go.RowKit
def rnS (ρ : Nat → Nat) : SV → SV
  | .ptr g off => .ptr (ρ g) off
  | .ref g off n f => .ref (ρ g) off n f
  | .eptr g i off => .eptr (ρ g) i off
  | .clo f gs => .clo f (gs.map ρ)
  | s => s
def okR (bx : Nat → Option Bx) : SV → Bool
  | .ptr g _ => (bx g).isSome
  | .ref g _ _ _ => (bx g).isSome
  | .eptr g _ _ => (bx g).isSome
  | .clo _ gs => gs.all fun g => (bx g).isSome
  | _ => true
structure Wk (σ σ' : AS) : Prop where
  ex : ∃ ρ : Nat → Nat, (∀ t, σ'.tm t = .unk ∨ (σ.tm t = rnS ρ (σ'.tm t) ∧ okR σ'.bx (σ'.tm t) = true)) ∧ (∀ g b, σ'.bx g = some b → b = .dead ∨ σ.bx (ρ g) = some b) ∧
    (∀ g g' b b', σ'.bx g = some b → σ'.bx g' = some b' → ρ g = ρ g' → g = g') ∧ (∀ i, i < 8 → σ.bx (pinId + i) = none ∨ (ρ (pinId + i) = pinId + i ∧ σ'.bx (pinId + i) ≠ none))
section
variable {E : Env} {nt : Nat} {H : Heap} {β : Nat → Nat × Nat} {a : Act} {w : World} {σ σ' : AS}
theorem SR.weak {bx bx' : Nat → Option Bx} {ρ : Nat → Nat} (hb : ∀ g b, bx' g = some b → b = .dead ∨ bx (ρ g) = some b) {v : Value} : ∀ {s : SV}, okR bx' s = true → SR H β bx v (rnS ρ s) → SR H (fun g => β (ρ g)) bx' v s
  | .unk, _, _ => trivial
  | .und, _, h => h
  | .iv _, _, h => h
  | .nilS, _, h => h
  | .iptr _ _, _, h => h
  | .yld _, _, h => h
  | .clo f gs, ho, ⟨h1, h2⟩ => by
    simp only [okR, List.all_eq_true] at ho
    refine ⟨fun g hg e => ?_, ?_⟩
    · have := ho g hg; rw [e] at this; cases this
    · rw [h2, List.map_map]; rfl
  | .ptr g off, ho, h => by
    refine ⟨?_, h.2⟩
    simp only [okR] at ho
    intro e; rw [e] at ho; cases ho
  | .ref g off n full, ho, h => by
    simp only [okR] at ho
    cases hg : bx' g with
    | none => rw [hg] at ho; cases ho
    | some b =>
      cases b with
      | var => simp only [SR, hg]
      | bld => simp only [SR, hg]
      | dead => simp only [SR, hg]
      | arr e sz es fz =>
        rcases hb g _ hg with h0 | h0
        · cases h0
        · simp only [rnS, SR, h0] at h
          simp only [SR, hg]; exact h
  | .eptr g i off, ho, h => by
    simp only [okR] at ho
    cases hg : bx' g with
    | none => rw [hg] at ho; cases ho
    | some b =>
      cases b with
      | var => simp only [SR, hg]
      | bld => simp only [SR, hg]
      | dead => simp only [SR, hg]
      | arr e sz es fz =>
        rcases hb g _ hg with h0 | h0
        · cases h0
        · simp only [rnS, SR, h0] at h
          simp only [SR, hg]; exact h
theorem St.weak (h : St E nt H β σ.tm σ.bx a w) (hw : Wk σ σ') : ∃ β', St E nt H β' σ'.tm σ'.bx a w := by
  obtain ⟨ρ, h1, h2, h3, h4⟩ := hw.ex
  refine ⟨fun g => β (ρ g), ⟨h.sim.has, h.sim.below, h.sim.lo, h.sim.ext, fun t => ?_, fun g b hg => ?_, fun g g' b b' hg hg' ha ha' e => ?_, fun p k hk => ?_, h.sim.marks, fun g s g' b R hg hg' ha hR => ?_⟩, h.defers, h.size⟩
  · rcases h1 t with e | ⟨e, ho⟩
    · rw [e]; trivial
    · have := h.sim.slot t
      rw [e] at this
      exact this.weak h2 ho
  · rcases h2 g b hg with e | e
    · subst e; trivial
    · exact h.sim.box _ _ e
  · rcases h2 g b hg with e1 | e1
    · subst e1; cases ha
    · rcases h2 g' b' hg' with e2 | e2
      · subst e2; cases ha'
      · exact h3 g g' b b' hg hg' (h.sim.inj _ _ _ _ e1 e2 ha ha' e)
  · obtain ⟨p1, p2, p3, p4⟩ := h.sim.pin p k hk
    rcases h4 (p - pinId) (by omega) with e | ⟨e1, e2⟩
    · rw [show pinId + (p - pinId) = p by omega] at e; exact absurd e p2
    · rw [show pinId + (p - pinId) = p by omega] at e1 e2
      exact ⟨by show β (ρ p) = k; rw [e1]; exact p1, e2, p3, p4⟩
  · rcases h2 g _ hg with e1 | e1
    · cases e1
    · rcases h2 g' b hg' with e2 | e2
      · subst e2; cases ha
      · exact h.sim.hid _ s _ b R e1 e2 ha hR
end
def tbS : List (Nat × SV) → Nat → SV
  | [], _ => .unk
  | p :: l, t => bif Nat.beq t p.1 then p.2 else tbS l t
def tbB : List (Nat × Bx) → Nat → Option Bx
  | [], _ => none
  | p :: l, t => bif Nat.beq t p.1 then some p.2 else tbB l t
def mkA (l : List (Nat × SV)) (m : List (Nat × Bx)) (nx : Nat) : AS := ⟨tbS l, tbB m, nx⟩
def rnT : List (Nat × Nat) → Nat → Nat
  | [], g => g
  | p :: l, g => bif Nat.beq g p.1 then p.2 else rnT l g
def slotsW (tm : Nat → SV) (r : List (Nat × Nat)) (bx' : Nat → Option Bx) : List (Nat × SV) → Prop
  | [] => True
  | p :: l => (tm p.1 = rnS (rnT r) p.2 ∧ okR bx' p.2 = true) ∧ slotsW tm r bx' l
def boxesW (bx : Nat → Option Bx) (r : List (Nat × Nat)) : List (Nat × Bx) → Prop
  | [] => True
  | p :: l => bx (rnT r p.1) = some p.2 ∧ boxesW bx r l
theorem tbS_mem : ∀ {l : List (Nat × SV)} {t : Nat}, tbS l t = .unk ∨ (t, tbS l t) ∈ l
  | [], _ => .inl rfl
  | p :: l, t => by
    unfold tbS
    cases h : Nat.beq t p.1 with
    | true =>
      have := Nat.eq_of_beq_eq_true h; subst this
      exact .inr (by simp)
    | false =>
      rcases tbS_mem (l := l) (t := t) with h | h
      · exact .inl h
      · exact .inr (List.mem_cons_of_mem _ h)
theorem tbB_mem : ∀ {l : List (Nat × Bx)} {t : Nat} {b : Bx}, tbB l t = some b → (t, b) ∈ l
  | [], _, _, h => by simp [tbB] at h
  | p :: l, t, b, h => by
    unfold tbB at h
    cases hb : Nat.beq t p.1 with
    | true =>
      have := Nat.eq_of_beq_eq_true hb; subst this
      simp at h
      rw [← h]; simp
    | false =>
      rw [hb] at h
      exact List.mem_cons_of_mem _ (tbB_mem h)
theorem slotsW_mem {tm : Nat → SV} {r : List (Nat × Nat)} {bx' : Nat → Option Bx} : ∀ {l : List (Nat × SV)}, slotsW tm r bx' l → ∀ p ∈ l, tm p.1 = rnS (rnT r) p.2 ∧ okR bx' p.2 = true
  | [], _, p, h => by simp at h
  | q :: l, hs, p, h => by
    rcases List.mem_cons.1 h with rfl | h
    · exact hs.1
    · exact slotsW_mem hs.2 p h
theorem boxesW_mem {bx : Nat → Option Bx} {r : List (Nat × Nat)} : ∀ {l : List (Nat × Bx)}, boxesW bx r l → ∀ p ∈ l, bx (rnT r p.1) = some p.2
  | [], _, p, h => by simp at h
  | q :: l, hs, p, h => by
    rcases List.mem_cons.1 h with rfl | h
    · exact hs.1
    · exact boxesW_mem hs.2 p h
def pinW (bx : Nat → Option Bx) (r : List (Nat × Nat)) (m : List (Nat × Bx)) (i : Nat) : Prop := bx (pinId + i) = none ∨ (rnT r (pinId + i) = pinId + i ∧ (tbB m (pinId + i)).isSome = true)
def pinsW (bx : Nat → Option Bx) (r : List (Nat × Nat)) (m : List (Nat × Bx)) : Prop := pinW bx r m 0 ∧ pinW bx r m 1 ∧ pinW bx r m 2 ∧ pinW bx r m 3 ∧ pinW bx r m 4 ∧ pinW bx r m 5 ∧ pinW bx r m 6 ∧ pinW bx r m 7
theorem pinsW.get {bx : Nat → Option Bx} {r : List (Nat × Nat)} {m : List (Nat × Bx)} (h : pinsW bx r m) : ∀ i, i < 8 → pinW bx r m i
  | 0, _ => h.1
  | 1, _ => h.2.1
  | 2, _ => h.2.2.1
  | 3, _ => h.2.2.2.1
  | 4, _ => h.2.2.2.2.1
  | 5, _ => h.2.2.2.2.2.1
  | 6, _ => h.2.2.2.2.2.2.1
  | 7, _ => h.2.2.2.2.2.2.2
  | n + 8, hn => absurd hn (by omega)
theorem Wk.tab {σ : AS} {l : List (Nat × SV)} {m : List (Nat × Bx)} {nx : Nat} (r : List (Nat × Nat)) (h1 : slotsW σ.tm r (tbB m) l) (h2 : boxesW σ.bx r m) (h3 : uniq (m.map fun p => (rnT r p.1, p.1)) = true)
    (h4 : pinsW σ.bx r m := by (refine ⟨?_, ?_, ?_, ?_, ?_, ?_, ?_, ?_⟩ <;> first | exact .inl rfl | exact .inr ⟨rfl, rfl⟩)) : Wk σ (mkA l m nx) := by
  refine ⟨rnT r, fun t => ?_, fun g b hg => ?_, fun g g' b b' hg hg' e => ?_, fun i hi => (h4.get i hi).imp id fun e => ⟨e.1, fun en => by have := e.2; rw [show tbB m (pinId + i) = none from en] at this; cases this⟩⟩
  · rcases tbS_mem (l := l) (t := t) with h | h
    · exact .inl h
    · have := slotsW_mem h1 _ h
      exact .inr this
  · exact .inr (boxesW_mem h2 _ (tbB_mem hg))
  · have m1 := tbB_mem hg
    have m2 := tbB_mem hg'
    have := uniq_spec h3 (rnT r g, g) (List.mem_map.2 ⟨_, m1, rfl⟩) (rnT r g', g') (List.mem_map.2 ⟨_, m2, rfl⟩) e
    exact (Prod.mk.inj this).2
theorem least_ex {p : Nat → Prop} : ∀ {n : Nat}, p n → ∃ m, p m ∧ ∀ k, p k → m ≤ k := by
  intro n
  induction n using Nat.strongRecOn with
  | _ n ih =>
    intro hn
    by_cases h : ∃ k, k < n ∧ p k
    · obtain ⟨k, h1, h2⟩ := h
      exact ih k h1 h2
    · exact ⟨n, hn, fun k hk => by
        rcases Nat.lt_or_ge k n with h' | h'
        · exact absurd ⟨k, h', hk⟩ h
        · exact h'⟩
open Classical in
noncomputable def leastN (p : Nat → Prop) : Nat := if h : ∃ m, p m ∧ ∀ k, p k → m ≤ k then h.choose else 0
theorem leastN_spec {p : Nat → Prop} {n : Nat} (h : p n) : p (leastN p) ∧ leastN p ≤ n := by
  have he := least_ex h
  unfold leastN
  rw [dif_pos he]
  exact ⟨he.choose_spec.1, he.choose_spec.2 n h⟩
def loopK {G : Type} (inv : G → AS) (μ : G → Nat) (g : G) (K : Exit → AS → Prop) : Exit → AS → Prop
  | .normal, σ => ∃ g', Wk σ (inv g') ∧ μ g' < μ g
  | e, σ => K e σ
def joinK {G : Type} (inv : G → AS) (K : Exit → AS → Prop) : Exit → AS → Prop
  | .normal, σ => ∃ g', Wk σ (inv g')
  | e, σ => K e σ
section
variable {X : Cx} {nt : Nat} {σ : AS} {K : Exit → AS → Prop}
theorem CW.weak {c : Code} {σ' : AS} (hw : Wk σ σ') (h : CW X nt c σ' K) : CW X nt c σ K := fun ro E Q hI hQ M H β a w hS => by
  obtain ⟨β', hS'⟩ := hS.weak hw
  exact h ro E Q hI hQ M H β' a w hS'
theorem CW.loop {G : Type} (inv : G → AS) (μ : G → Nat) {c : Code} (g0 : G) (h0 : Wk σ (inv g0)) (h : ∀ g, CW X nt c (inv g) (loopK inv μ g K)) : CW X nt (.loop c) σ K := fun ro E Q hI hQ M0 H β a w hS => by
  let J : G → Act → World → Prop := fun g a w => ∃ M H β, St (E.mks M) nt H β (inv g).tm (inv g).bx a w
  let M : Act → World → Nat := fun a w => leastN fun n => ∃ g, μ g = n ∧ J g a w
  obtain ⟨β0, hS0⟩ := hS.weak h0
  refine wpIn_loop (fun a w => ∃ g, J g a w) M ⟨g0, M0, H, β0, hS0⟩ fun a w ⟨g1, hJ1⟩ => ?_
  obtain ⟨⟨g, e, hJ⟩, _⟩ := leastN_spec (p := fun n => ∃ g, μ g = n ∧ J g a w) ⟨g1, rfl, hJ1⟩
  obtain ⟨M1, H1, β1, hS1⟩ := hJ
  refine h g ro E _ hI (fun e' σ' M2 H β a' w' k hS => ?_) M1 H1 β1 a w hS1
  cases e' with
  | normal =>
    obtain ⟨g', hw, hlt⟩ := k
    obtain ⟨β', hS'⟩ := hS.weak hw
    have hJ' : J g' a' w' := ⟨M2, H, β', hS'⟩
    have := (leastN_spec (p := fun n => ∃ g, μ g = n ∧ J g a' w') ⟨g', rfl, hJ'⟩).2
    refine ⟨⟨g', hJ'⟩, ?_⟩
    show leastN _ < leastN _
    rw [← e]
    exact Nat.lt_of_le_of_lt this hlt
  | _ => exact hQ _ _ M2 H β a' w' k hS
theorem CW.join {G : Type} (inv : G → AS) {x y : Code} (h1 : CW X nt x σ (joinK inv K)) (h2 : ∀ g, CW X nt y (inv g) K) : CW X nt (.seq x y) σ K := CW.seq (h1.mono fun e σ' k => by
  cases e with
  | normal => obtain ⟨g, hw⟩ := k; exact CW.weak hw (h2 g)
  | _ => exact k)
end
def argS : List IV → Nat → SV
  | [], _ => .und
  | x :: _, 0 => .iv x
  | _ :: l, t + 1 => argS l t
def resI (T : TypeId → Option TY) (tm : Nat → SV) (bx : Nat → Option Bx) : List ResultVar → Option (List IV × List Nat)
  | [] => some ([], [])
  | .tmp t :: rs => match toI bx (tm t) with
    | some (x, f) => match resI T tm bx rs with
      | some (xs, fs) => some (x :: xs, f ++ fs)
      | none => none
    | none => none
  | .cell a t :: rs => match T t, tm a with
    | some ty, .ptr g off => match bx g with
      | some (.var y) => match ldI ty.sh.agg ty.size y off with
        | some x => match resI T tm bx rs with
          | some (xs, fs) => some (x :: xs, fs)
          | none => none
        | none => none
      | _ => none
    | _, _ => none
def oneOf : List IV → IV
  | [x] => x
  | xs => .tup xs
def retP (T : TypeId → Option TY) (rs : List ResultVar) (r : IV) (σ : AS) : Prop :=
  match resI T σ.tm σ.bx rs with
  | some (xs, _) => oneOf xs = r
  | none => False
def retK (T : TypeId → Option TY) (rs : List ResultVar) (r : IV) : Exit → AS → Prop
  | .normal, σ => retP T rs r σ
  | .ret, σ => retP T rs r σ
  | _, _ => False
theorem resI_fz {T : TypeId → Option TY} {tm : Nat → SV} {bx : Nat → Option Bx} (f : List Nat) : ∀ {rs : List ResultVar} {r : List IV × List Nat}, resI T tm bx rs = some r → resI T tm (fzAll bx f) rs = some r
  | [], r, h => h
  | .tmp t :: rs, r, h => by
    simp only [resI, toI_fz] at h ⊢
    split at h
    · split at h
      · rename_i h2
        rw [resI_fz f h2]; exact h
      · cases h
    · cases h
  | .cell a t :: rs, r, h => by
    simp only [resI] at h ⊢
    split at h
    · split at h
      · rename_i hb
        rw [fzAll_var f _ _ _ hb]
        split at h
        · split at h
          · rename_i h1 _ _ _ h2
            simp only [h1, resI_fz f h2]; exact h
          · cases h
        · cases h
      · cases h
    · cases h
def resOf (tmps : Array Value) : ResultVar → Sem Value
  | .tmp t => pure (tmps.getD t undef)
  | .cell a t => do loadVar t (← asAddr (tmps.getD a undef))
theorem resI_ok {P : Program} {T : TypeId → Option TY} (hT : TabOk P T) {E : Env} {tmps : Array Value} {w : World} {β : Nat → Nat × Nat} {tm : Nat → SV} : ∀ {rs : List ResultVar} {H : Heap} {bx : Nat → Option Bx} (_ : Sim E H β tm bx tmps w) {xs : List IV} {fs : List Nat}, resI T tm bx rs = some (xs, fs) →
    ∃ H', HLe H H' ∧ Sim E H' β tm (fzAll bx fs) tmps w ∧ ∃ vs : List Value, (rs.mapM (resOf tmps)).run P w = .ok vs w ∧ VRL H' vs xs
  | [], H, bx, h, xs, fs, hr => by
    simp only [resI, Option.some.injEq, Prod.mk.injEq] at hr; obtain ⟨rfl, rfl⟩ := hr
    exact ⟨H, HLe.refl _, h, [], by simp, .nil⟩
  | .tmp t :: rs, H, bx, h, xs, fs, hr => by
    simp only [resI] at hr
    split at hr
    · rename_i x f h1
      split at hr
      · rename_i ys gs h2
        simp only [Option.some.injEq, Prod.mk.injEq] at hr; obtain ⟨rfl, rfl⟩ := hr
        obtain ⟨H1, l1, S1, V1⟩ := toI_ok h (h.slot t) h1
        obtain ⟨H2, l2, S2, vs, e, V2⟩ := resI_ok hT S1 (resI_fz f h2)
        refine ⟨H2, l1.trans l2, by rw [fzAll_append]; exact S2, tmps.getD t undef :: vs, ?_, .cons _ _ _ _ (V1.mono l2) V2⟩
        simp only [List.mapM_cons, resOf, Sem.run_bind, Sem.run_pure, Result.andThen_ok, e]
      · cases hr
    · cases hr
  | .cell a t :: rs, H, bx, h, xs, fs, hr => by
    simp only [resI] at hr
    split at hr
    · rename_i ty g off ht ha
      split at hr
      · rename_i y hb
        split at hr
        · rename_i x hl
          split at hr
          · rename_i ys gs h2
            simp only [Option.some.injEq, Prod.mk.injEq] at hr; obtain ⟨rfl, rfl⟩ := hr
            obtain ⟨i, d, z, ok⟩ := tyOf_ok (hT t ty ht)
            have hv := h.slot a
            rw [ha] at hv
            obtain ⟨_, hv⟩ := hv
            obtain ⟨_, _, _, v, e, h4, h5⟩ := h.box g _ hb
            obtain ⟨u, hr, hu⟩ := run_loadVar (base := 0) ok h5 h4 (by rw [List.drop_zero, List.take_of_length_le (by simp)]) hl
            rw [Nat.zero_add] at hr
            obtain ⟨H2, l2, S2, vs, e2, V2⟩ := resI_ok hT h h2
            refine ⟨H2, l2, S2, u :: vs, ?_, .cons _ _ _ _ (hu.mono l2) V2⟩
            simp only [List.mapM_cons, resOf, hv, asAddr, Sem.run_bind, Sem.run_pure, Result.andThen_ok, hr, e2]
          · cases hr
        · cases hr
      · cases hr
    · cases hr
theorem argS_get : ∀ {xs : List IV} {t : Nat}, argS xs t = (match xs[t]? with | some x => .iv x | none => .und)
  | [], _ => rfl
  | x :: l, 0 => rfl
  | x :: l, t + 1 => by rw [argS, argS_get]; rfl
theorem Sim.poke {E : Env} {H : Heap} {β : Nat → Nat × Nat} {tm : Nat → SV} {bx : Nat → Option Bx} {tmps : Array Value} {w : World} (h : Sim E H β tm bx tmps w) {D : Nat} {o : Obj} (o' : Obj) (hD : w.heap[D]? = some o) (hc : o.isCells = false)
    (ho : E.own D) (hm : ∀ d ∈ E.mrk, d ≠ { target := .collected D, args := #[] }) : Sim E H β tm bx tmps (w.putObj D o') where
  has b arr e := by
    obtain ⟨t, fr, ht⟩ := h.has b arr e
    refine ⟨t, fr, (World.putObj_heap_other fun e' => ?_).trans ht⟩
    rw [e', hD] at ht; cases ht; cases hc
  below := h.below.trans ⟨rfl, rfl, rfl, by simp, fun k hk => World.putObj_heap_other fun e => hk (by rw [e]; exact ho)⟩
  lo k hk := h.lo k (by simpa using hk)
  ext := h.ext
  slot := h.slot
  box g b hg := by
    by_cases ha : b.alive = true
    · refine (h.box g b hg).keep (World.putObj_heap_other fun e => ?_) (HLe.refl _) id (fun s R eb hR => ⟨World.putObj_heap_other fun e => ?_, id⟩)
      · obtain ⟨arr, e', hx⟩ := (h.box g b hg).cells ha
        rw [e, hD] at hx; cases hx; cases hc
      · subst eb
        obtain ⟨_, _, arr, fz, hx⟩ := bld_row (h.box g _ hg).2.2.1 hR
        rw [e, hD] at hx; cases hx; cases hc
    · cases b <;> first | trivial | simp [Bx.alive] at ha
  inj := h.inj
  pin := h.pin
  marks := ⟨h.marks.1, fun d hd => by
    obtain ⟨D', e, ho', hb⟩ := h.marks.2 d hd
    refine ⟨D', e, ho', (World.putObj_heap_other fun e' => ?_).trans hb⟩
    exact hm d hd (by rw [e, e'])⟩
  hid g s g' b R h1 h2 ha hR := h.hid g s g' b R h1 h2 ha (hR.same (World.putObj_heap_other fun e => by
    obtain ⟨arr, e', hx⟩ := (h.box g _ h1).cells rfl
    rw [e, hD] at hx; cases hx; cases hc))
theorem Sim.unmark {E : Env} {M M' : List Deferred} {H : Heap} {β : Nat → Nat × Nat} {tm : Nat → SV} {bx : Nat → Option Bx} {tmps : Array Value} {w : World} (h : Sim (E.mks M) H β tm bx tmps w) (hm : MarksOk E.own M' w) : Sim (E.mks M') H β tm bx tmps w :=
  ⟨h.has, h.below, h.lo, h.ext, h.slot, h.box, h.inj, h.pin, hm, h.hid⟩
theorem leavesM {P : Program} {fn : Func} {R : Ending → World → Prop} {E : Env} {nt : Nat} {H : Heap} {β : Nat → Nat × Nat} {tm : Nat → SV} {bx : Nat → Option Bx} : ∀ (M : List Deferred) {a : Act} {w : World}, St (E.mks M) nt H β tm bx a w →
    (∀ a' w', St (E.mks []) nt H β tm bx a' w' → a'.tmps = a.tmps → ∃ v, (results fn a'.tmps).run P w' = .ok v w' ∧ R (.returned v) w') → LeavesInM (FW none) 0 P fn a.tmps R M .returning w
  | [], a, w, h, hk => hk a w h rfl
  | d :: M, a, w, h, hk => by
    obtain ⟨D, e, ho, hb⟩ := h.sim.marks.2 d (by simp)
    have hp := h.sim.marks.1
    refine ⟨by simp, .inl ⟨D, w.putObj D (.deferred none), by rw [e], run_takeDeferred hb, ?_⟩⟩
    have h1 := h.sim.unmark (M' := M) ⟨(List.pairwise_cons.1 hp).2, fun d' hd' => h.sim.marks.2 d' (List.mem_cons_of_mem _ hd')⟩
    have h2 := h1.poke (.deferred none) hb rfl ho (fun d' hd' e' => (List.pairwise_cons.1 hp).1 d' hd' (by rw [e, e']))
    exact leavesM M (a := { a with defers := M }) ⟨h2, rfl, h.size⟩ hk
theorem pure_of {X : Cx} {f : FuncId} {fn : Func} {c : Code} (hf : X.P.funcs[f]? = some fn) (hb : fn.body = some c) (hn : (fn.name == "runtime.NumGoroutine") = false) {xs : List IV} {r : IV} (hx : xs.length ≤ fn.ntmps)
    (h : CW X fn.ntmps c ⟨argS xs, fun _ => none, 0⟩ (retK X.T fn.results.toList r)) : PureC X.P X.I f xs r := by
  refine ⟨⟨fn, hf, hn, by rw [hb]; rfl⟩, fun H w args hI hH hargs => ?_⟩
  have hlen := hargs.length
  refine (callsIn_wide (n := 0)).1 (callsIn_of_wp_marks hf hb trivial ?_)
  refine h ⟨none, X.r0⟩ ⟨fun k => w.heap.size ≤ k, w, H, fun _ => none, []⟩ _ (fun w' hw' => X.bel _ _ _ hI (Nat.le_refl _) hw'.below) (fun e σ' M H' β a0 w0 k hS0 => ?_) [] H (fun _ => (0, 0)) _ w ⟨⟨hH, BelowO.refl _ _, fun _ hk => hk, HExtO.refl _ _, fun t => ?_, fun g b hg => (by cases hg), fun g g' b b' hg => (by cases hg), fun p k hk => (by cases hk), MarksOk.nil _ _, fun g s g' b R hg => (by cases hg)⟩, rfl, ?_⟩
  · have key : retP X.T fn.results.toList r σ' → ∀ a' w', St ⟨fun k => w.heap.size ≤ k, w, H, fun _ => none, []⟩ fn.ntmps H' β σ'.tm σ'.bx a' w' → a'.tmps = a0.tmps → ∃ v, (results fn a'.tmps).run X.P w' = .ok v w' ∧ (∃ v1 H1, Ending.returned v = .returned v1 ∧ HeapHas w' H1 ∧ HExt w.heap.size H H1 ∧ VR H1 v1 r ∧ Below w.heap.size w w') := fun k a' w' hS _ => by
      unfold retP at k
      split at k
      · rename_i ys fs hr
        obtain ⟨H1, l1, S1, vs, e1, V1⟩ := resI_ok X.hT hS.sim hr
        refine ⟨(if h : vs.toArray.size = 1 then vs.toArray[0] else .tuple vs.toArray), ?_, _, H1, rfl, S1.has, S1.ext, ?_, S1.below.below⟩
        · unfold results
          have e0 : (fn.results.mapM fun | .tmp t => pure (a'.tmps.getD t undef) | .cell a t => do loadVar t (← asAddr (a'.tmps.getD a undef)) : Sem (Array Value)) = List.toArray <$> fn.results.toList.mapM (resOf a'.tmps) := by
            rw [Array.mapM_eq_mapM_toList]
            rfl
          refine (congrArg (fun (x : Sem (Array Value)) => (x >>= fun vs => pure (if h : vs.size = 1 then vs[0] else .tuple vs)).run X.P w') e0).trans ?_
          simp only [Sem.run_bind, Sem.run_map, e1, Result.andThen_ok, Sem.run_pure]
        · rw [← k]
          cases V1 with
          | nil => exact .tup [] [] .nil
          | cons v x vs xs h0 t =>
            cases t with
            | nil => exact h0
            | cons v' x' vs xs h1 t =>
              have : ¬ (v :: v' :: vs).toArray.size = 1 := by simp
              rw [dif_neg this]
              exact .tup _ _ (.cons _ _ _ _ h0 (.cons _ _ _ _ h1 t))
      · exact k.elim
    cases e with
    | normal => (show LeavesInM (FW none) 0 X.P fn a0.tmps (fun e w' => ∃ v H', e = .returned v ∧ HeapHas w' H' ∧ HExt w.heap.size H H' ∧ VR H' v r ∧ Below w.heap.size w w') a0.defers .returning w0; rw [hS0.defers]; exact leavesM M hS0 (key k))
    | ret => (show LeavesInM (FW none) 0 X.P fn a0.tmps (fun e w' => ∃ v H', e = .returned v ∧ HeapHas w' H' ∧ HExt w.heap.size H H' ∧ VR H' v r ∧ Below w.heap.size w w') a0.defers .returning w0; rw [hS0.defers]; exact leavesM M hS0 (key k))
    | _ => exact k.elim
  · show SR _ _ _ _ (argS xs t)
    rw [argS_get]
    cases hx' : xs[t]? with
    | some x =>
      have hlt : t < args.length := by rw [hlen]; exact (List.getElem?_eq_some_iff.1 hx').1
      obtain ⟨v, h1, h2⟩ := hargs.get t x hx'
      have : (args.toArray ++ Array.replicate (fn.ntmps - args.toArray.size) undef).getD t undef = v := by
        simp [Array.getElem?_append, hlt]
        exact (List.getElem?_eq_some_iff.1 h1).2
      rw [this]; exact h2
    | none =>
      have hge : ¬ t < args.length := by
        intro hlt
        rw [hlen] at hlt
        simp [hlt] at hx'
      show _ = undef
      simp [Array.getElem?_append, hge, Array.getElem?_replicate]
      split <;> rfl
  · show (args.toArray ++ Array.replicate (fn.ntmps - args.toArray.size) undef).size = fn.ntmps
    simp; omega
def resF (T : TypeId → Option TY) (σ : AS) (rs : List ResultVar) : Bool :=
  match resI T σ.tm σ.bx rs with
  | some (_, fs) => !fs.any (Nat.beq pinId)
  | none => false
def argM (off n : Nat) (xs : List IV) : Nat → SV
  | 0 => .ref pinId off n false
  | t + 1 => argS xs t
def retM (T : TypeId → Option TY) (rs : List ResultVar) (b : Bx) (r : IV) : Exit → AS → Prop
  | .normal, σ => retP T rs r σ ∧ σ.bx pinId = some b ∧ resF T σ rs = true
  | .ret, σ => retP T rs r σ ∧ σ.bx pinId = some b ∧ resF T σ rs = true
  | _, _ => False
theorem mut_of {X : Cx} {f : FuncId} {fn : Func} {c : Code} (hf : X.P.funcs[f]? = some fn) (hb : fn.body = some c) (hn : (fn.name == "runtime.NumGoroutine") = false) {e : TypeId} {sz off n : Nat} {es es' : List IV} {xs : List IV} {r : IV} (hx : xs.length + 1 ≤ fn.ntmps)
    (h : CW X fn.ntmps c ⟨argM off n xs, tbB [(pinId, .arr e sz es false)], 0⟩ (retM X.T fn.results.toList (.arr e sz es' false) r)) : MutC X.P X.I f e sz off n es xs es' r := by
  refine ⟨⟨fn, hf, hn, by rw [hb]; rfl⟩, fun H w b cap capS args hI hH hbr hc1 hc2 hc3 hargs => ?_⟩
  have hlen := hargs.length
  have hblt : b < w.heap.size := hbr.lt rfl
  refine (callsIn_wide (n := 0)).1 (callsIn_of_wp_marks hf hb trivial ?_)
  refine h ⟨none, X.r0⟩ ⟨fun k => k = b ∨ w.heap.size ≤ k, w, H, fun g => bif Nat.beq g pinId then some (b, cap) else none, []⟩ _ (fun w' hw' => hI w' hw') (fun e1 σ' M H' β a0 w0 k hS0 => ?_) [] H (fun _ => (b, cap)) _ w ⟨⟨hH, BelowO.refl _ _, fun _ hk => .inr hk, HExtO.refl _ _, fun t => ?_, fun g b0 hg => ?_, fun g g' b0 b' hg hg' _ _ _ => ?_, fun p k hk => ?_, MarksOk.nil _ _, fun g s g' b R hg => (by simp only [tbB] at hg; cases hb : Nat.beq g pinId <;> rw [hb] at hg <;> cases hg)⟩, rfl, ?_⟩
  · have key : (retP X.T fn.results.toList r σ' ∧ σ'.bx pinId = some (.arr e sz es' false) ∧ resF X.T σ' fn.results.toList = true) → ∀ a' w', St ⟨fun k => k = b ∨ w.heap.size ≤ k, w, H, fun g => bif Nat.beq g pinId then some (b, cap) else none, []⟩ fn.ntmps H' β σ'.tm σ'.bx a' w' → a'.tmps = a0.tmps → ∃ v, (results fn a'.tmps).run X.P w' = .ok v w' ∧ (∃ v1 H1, Ending.returned v = .returned v1 ∧ HeapHas w' H1 ∧ HExtO (fun k => w.heap.size ≤ k) H H1 ∧ VR H1 v1 r ∧ BelowO (fun k => k = b ∨ w.heap.size ≤ k) w w' ∧ BR (fun k => k = b ∨ w.heap.size ≤ k) w' H1 (b, cap) (.arr e sz es' false)) := fun ⟨k, kb, kf⟩ a' w' hS _ => by
      unfold retP at k
      unfold resF at kf
      split at k
      · rename_i ys fs hr
        rw [hr] at kf
        have hnf : ¬ pinId ∈ fs := fun hm => by
          simp only [any_beq.2 hm] at kf
          cases kf
        obtain ⟨H1, l1, S1, vs, e2, V1⟩ := resI_ok X.hT hS.sim hr
        have hp := S1.pin pinId (b, cap) rfl
        have hbx : fzAll σ'.bx fs pinId = some (.arr e sz es' false) := by rw [fzAll_other fs _ _ hnf]; exact kb
        have hbr' := S1.box pinId _ hbx
        rw [hp.1] at hbr'
        refine ⟨(if h : vs.toArray.size = 1 then vs.toArray[0] else .tuple vs.toArray), ?_, _, H1, rfl, S1.has, ⟨S1.ext.1, fun k arr hk => ?_⟩, ?_, S1.below, hbr'⟩
        · unfold results
          have e0 : (fn.results.mapM fun | .tmp t => pure (a'.tmps.getD t undef) | .cell a t => do loadVar t (← asAddr (a'.tmps.getD a undef)) : Sem (Array Value)) = List.toArray <$> fn.results.toList.mapM (resOf a'.tmps) := by
            rw [Array.mapM_eq_mapM_toList]
            rfl
          refine (congrArg (fun (x : Sem (Array Value)) => (x >>= fun vs => pure (if h : vs.size = 1 then vs[0] else .tuple vs)).run X.P w') e0).trans ?_
          simp only [Sem.run_bind, Sem.run_map, e2, Result.andThen_ok, Sem.run_pure]
        · rcases S1.ext.2 k arr hk with h0 | h0
          · exact .inl h0
          · rcases h0 with h0 | h0
            · subst h0
              have hnone : H1 k = none := by simpa using hbr'.2.choose_spec.choose_spec.2.1
              rw [hnone] at hk; cases hk
            · exact .inr h0
        · rw [← k]
          cases V1 with
          | nil => exact .tup [] [] .nil
          | cons v x vs xs h0 t =>
            cases t with
            | nil => exact h0
            | cons v' x' vs xs h1 t =>
              have : ¬ (v :: v' :: vs).toArray.size = 1 := by simp
              rw [dif_neg this]
              exact .tup _ _ (.cons _ _ _ _ h0 (.cons _ _ _ _ h1 t))
      · exact k.elim
    cases e1 with
    | normal => (show LeavesInM (FW none) 0 X.P fn a0.tmps (fun e' w' => ∃ v H', e' = .returned v ∧ HeapHas w' H' ∧ HExtO (fun k => w.heap.size ≤ k) H H' ∧ VR H' v r ∧ BelowO (fun k => k = b ∨ w.heap.size ≤ k) w w' ∧
      BR (fun k => k = b ∨ w.heap.size ≤ k) w' H' (b, cap) (.arr e sz es' false)) a0.defers .returning w0; rw [hS0.defers]; exact leavesM M hS0 (key k))
    | ret => (show LeavesInM (FW none) 0 X.P fn a0.tmps (fun e' w' => ∃ v H', e' = .returned v ∧ HeapHas w' H' ∧ HExtO (fun k => w.heap.size ≤ k) H H' ∧ VR H' v r ∧ BelowO (fun k => k = b ∨ w.heap.size ≤ k) w w' ∧
      BR (fun k => k = b ∨ w.heap.size ≤ k) w' H' (b, cap) (.arr e sz es' false)) a0.defers .returning w0; rw [hS0.defers]; exact leavesM M hS0 (key k))
    | _ => exact k.elim
  · cases t with
    | zero =>
      show SR _ _ _ _ (.ref pinId off n false)
      have hb0 : tbB [(pinId, Bx.arr e sz es false)] pinId = some (.arr e sz es false) := rfl
      simp only [SR, hb0]
      refine ⟨capS, ?_, hc1, hc2, hc3, by simp⟩
      simp [Array.getElem?_append]
    | succ t =>
      show SR _ _ _ _ (argS xs t)
      rw [argS_get]
      cases hx' : xs[t]? with
      | some x =>
        have hlt : t < args.length := by rw [hlen]; exact (List.getElem?_eq_some_iff.1 hx').1
        obtain ⟨v, h1, h2⟩ := hargs.get t x hx'
        have : ((.slice (some ⟨b, off * sz, none⟩) n capS :: args).toArray ++ Array.replicate (fn.ntmps - (.slice (some ⟨b, off * sz, none⟩) n capS :: args).toArray.size) undef).getD (t + 1) undef = v := by
          simp [Array.getElem?_append, hlt]
          exact (List.getElem?_eq_some_iff.1 h1).2
        rw [this]; exact h2
      | none =>
        have hge : ¬ t < args.length := by
          intro hlt
          rw [hlen] at hlt
          simp [hlt] at hx'
        show _ = undef
        simp [Array.getElem?_append, hge, Array.getElem?_replicate]
        split <;> rfl
  · have hm := tbB_mem hg
    simp at hm
    obtain ⟨rfl, rfl⟩ := hm
    exact hbr
  · have hm := tbB_mem hg
    have hm' := tbB_mem hg'
    simp at hm hm'
    rw [hm.1, hm'.1]
  · replace hk : (bif Nat.beq p pinId then some (b, cap) else none) = some k := hk
    cases hb : Nat.beq p pinId with
    | false => rw [hb] at hk; cases hk
    | true =>
      rw [hb] at hk; cases hk
      have e := Nat.eq_of_beq_eq_true hb
      subst e
      exact ⟨rfl, by simp [tbB, Nat.beq_refl], by omega, Nat.le_refl _⟩
  · show ((Value.slice (some ⟨b, off * sz, none⟩) n capS :: args).toArray ++ Array.replicate (fn.ntmps - (Value.slice (some ⟨b, off * sz, none⟩) n capS :: args).toArray.size) undef).size = fn.ntmps
    simp; omega
end Go.Proofs.Fl
namespace Go.Proofs.Fl
open Go.RowKit
inductive Tr where
  | leaf (o : Option TY)
  | node (k : Nat) (l r : Tr)
noncomputable def Tr.get : Tr → Nat → Option TY
  | .leaf o, _ => o
  | .node k l r, t => bif Nat.blt t k then l.get t else r.get t
def Tr.small (n : Nat) : Tr → Bool
  | .leaf none => true
  | .leaf _ => false
  | .node k _ r => Nat.ble k n && r.small n
theorem Tr.get_big {n t : Nat} (hn : n ≤ t) : ∀ {s : Tr}, s.small n = true → s.get t = none
  | .leaf none, _ => rfl
  | .node k l r, h => by
    simp only [Tr.small, Bool.and_eq_true, Nat.ble_eq] at h
    have : Nat.blt t k = false := by
      cases hb : Nat.blt t k
      · rfl
      · rw [Nat.blt_eq] at hb; omega
    rw [Tr.get, this]
    exact Tr.get_big hn h.2
def ty1 : TY := ⟨.other, 1, 8, .nil 1, []⟩
def ty2 : TY := ⟨.int .i64, 1, 8, .int .i64 0, []⟩
def ty3 : TY := ⟨.int .i64, 1, 8, .int .i64 0, []⟩
def ty4 : TY := ⟨.bool, 1, 1, .bool false, []⟩
def ty5 : TY := ⟨.int .u8, 1, 1, .int .u8 0, []⟩
def ty6 : TY := ⟨.int .u8, 1, 1, .int .u8 0, []⟩
def ty7 : TY := ⟨.struct, 4, 24, .agg [.int .i64 0, .int .i64 0, .bool false, .int .u8 0], [(0, false, 1), (1, false, 1), (2, false, 1), (3, false, 1)]⟩
def ty8 : TY := ⟨.struct, 4, 24, .agg [.int .i64 0, .int .i64 0, .bool false, .int .u8 0], [(0, false, 1), (1, false, 1), (2, false, 1), (3, false, 1)]⟩
def ty9 : TY := ⟨.string, 1, 16, .str [], []⟩
def ty10 : TY := ⟨.string, 1, 16, .str [], []⟩
def ty11 : TY := ⟨.string, 1, 16, .str [], []⟩
def ty12 : TY := ⟨.int .u64, 1, 8, .int .u64 0, []⟩
def ty13 : TY := ⟨.struct, 2, 24, .agg [.str [], .int .u64 0], [(0, false, 1), (1, false, 1)]⟩
def ty14 : TY := ⟨.struct, 2, 24, .agg [.str [], .int .u64 0], [(0, false, 1), (1, false, 1)]⟩
def ty15 : TY := ⟨.other, 1, 8, .nil 2, []⟩
def ty16 : TY := ⟨.other, 1, 8, .nil 2, []⟩
def ty17 : TY := ⟨.other, 1, 8, .nil 2, []⟩
def ty18 : TY := ⟨.struct, 1, 8, .agg [.nil 2], [(0, false, 1)]⟩
def ty19 : TY := ⟨.struct, 1, 8, .agg [.nil 2], [(0, false, 1)]⟩
def ty20 : TY := ⟨.other, 1, 16, .nil 0, []⟩
def ty21 : TY := ⟨.int .i32, 1, 4, .int .i32 0, []⟩
def ty22 : TY := ⟨.other, 1, 8, .nil 1, []⟩
def ty23 : TY := ⟨.slice 173, 1, 24, .sl [], []⟩
def ty24 : TY := ⟨.struct, 1, 24, .agg [.sl []], [(0, false, 1)]⟩
def ty25 : TY := ⟨.struct, 1, 24, .agg [.sl []], [(0, false, 1)]⟩
def ty26 : TY := ⟨.struct, 2, 32, .agg [.sl [], .bool false], [(0, true, 1), (1, false, 1)]⟩
def ty27 : TY := ⟨.struct, 2, 32, .agg [.sl [], .bool false], [(0, true, 1), (1, false, 1)]⟩
def ty28 : TY := ⟨.struct, 3, 56, .agg [.sl [], .bool false, .sl []], [(0, true, 2), (2, true, 1)]⟩
def ty29 : TY := ⟨.struct, 3, 56, .agg [.sl [], .bool false, .sl []], [(0, true, 2), (2, true, 1)]⟩
def ty30 : TY := ⟨.int .i64, 1, 8, .int .i64 0, []⟩
def ty32 : TY := ⟨.other, 1, 8, .nil 1, []⟩
def ty33 : TY := ⟨.slice 3, 1, 24, .sl [], []⟩
def ty34 : TY := ⟨.struct, 2, 32, .agg [.int .i64 0, .sl []], [(0, false, 1), (1, false, 1)]⟩
def ty35 : TY := ⟨.struct, 2, 32, .agg [.int .i64 0, .sl []], [(0, false, 1), (1, false, 1)]⟩
def ty36 : TY := ⟨.struct, 4, 64, .agg [.int .i64 0, .sl [], .int .i64 0, .sl []], [(0, true, 2), (2, true, 2)]⟩
def ty37 : TY := ⟨.struct, 4, 64, .agg [.int .i64 0, .sl [], .int .i64 0, .sl []], [(0, true, 2), (2, true, 2)]⟩
def ty39 : TY := ⟨.other, 1, 8, .nil 1, []⟩
def ty40 : TY := ⟨.slice 30, 1, 24, .sl [], []⟩
def ty41 : TY := ⟨.other, 1, 8, .nil 1, []⟩
def ty42 : TY := ⟨.other, 1, 8, .nil 1, []⟩
def ty43 : TY := ⟨.other, 1, 8, .nil 1, []⟩
def ty44 : TY := ⟨.struct, 3, 24, .agg [.int .i64 0, .int .i64 0, .int .u8 0], [(0, false, 1), (1, false, 1), (2, false, 1)]⟩
def ty45 : TY := ⟨.struct, 3, 24, .agg [.int .i64 0, .int .i64 0, .int .u8 0], [(0, false, 1), (1, false, 1), (2, false, 1)]⟩
def ty46 : TY := ⟨.struct, 6, 48, .agg [.int .i64 0, .int .i64 0, .int .u8 0, .int .i64 0, .int .i64 0, .int .u8 0], [(0, true, 3), (3, true, 3)]⟩
def ty47 : TY := ⟨.struct, 6, 48, .agg [.int .i64 0, .int .i64 0, .int .u8 0, .int .i64 0, .int .i64 0, .int .u8 0], [(0, true, 3), (3, true, 3)]⟩
def ty48 : TY := ⟨.struct, 6, 112, .agg [.sl [], .bool false, .sl [], .sl [], .bool false, .sl []], [(0, true, 3), (3, true, 3)]⟩
def ty49 : TY := ⟨.struct, 6, 112, .agg [.sl [], .bool false, .sl [], .sl [], .bool false, .sl []], [(0, true, 3), (3, true, 3)]⟩
def ty50 : TY := ⟨.struct, 8, 128, .agg [.int .i64 0, .sl [], .int .i64 0, .sl [], .int .i64 0, .sl [], .int .i64 0, .sl []], [(0, true, 4), (4, true, 4)]⟩
def ty51 : TY := ⟨.struct, 8, 128, .agg [.int .i64 0, .sl [], .int .i64 0, .sl [], .int .i64 0, .sl [], .int .i64 0, .sl []], [(0, true, 4), (4, true, 4)]⟩
def ty53 : TY := ⟨.other, 1, 8, .nil 1, []⟩
def ty54 : TY := ⟨.other, 1, 8, .nil 1, []⟩
def ty55 : TY := ⟨.other, 1, 8, .nil 1, []⟩
def ty56 : TY := ⟨.other, 1, 8, .nil 1, []⟩
def ty57 : TY := ⟨.other, 1, 8, .nil 1, []⟩
def ty58 : TY := ⟨.other, 1, 8, .nil 1, []⟩
def ty59 : TY := ⟨.other, 1, 8, .nil 1, []⟩
def ty60 : TY := ⟨.other, 1, 8, .nil 1, []⟩
def ty62 : TY := ⟨.other, 1, 8, .nil 1, []⟩
def ty63 : TY := ⟨.other, 1, 8, .nil 1, []⟩
def ty64 : TY := ⟨.other, 1, 8, .nil 1, []⟩
def ty66 : TY := ⟨.other, 1, 8, .nil 1, []⟩
def ty67 : TY := ⟨.other, 1, 8, .nil 1, []⟩
def ty68 : TY := ⟨.other, 1, 8, .nil 1, []⟩
def ty69 : TY := ⟨.other, 1, 8, .nil 1, []⟩
def ty70 : TY := ⟨.other, 1, 8, .nil 1, []⟩
def ty71 : TY := ⟨.other, 1, 8, .nil 1, []⟩
def ty72 : TY := ⟨.other, 1, 8, .nil 1, []⟩
def ty73 : TY := ⟨.other, 1, 8, .nil 1, []⟩
def ty74 : TY := ⟨.other, 1, 8, .nil 1, []⟩
def ty75 : TY := ⟨.other, 1, 8, .nil 1, []⟩
def ty76 : TY := ⟨.other, 1, 8, .nil 1, []⟩
def ty77 : TY := ⟨.other, 1, 8, .nil 1, []⟩
def ty78 : TY := ⟨.other, 1, 8, .nil 1, []⟩
def ty79 : TY := ⟨.other, 1, 8, .nil 1, []⟩
def ty80 : TY := ⟨.other, 1, 8, .nil 1, []⟩
def ty81 : TY := ⟨.other, 1, 8, .nil 1, []⟩
def ty82 : TY := ⟨.other, 1, 8, .nil 1, []⟩
def ty83 : TY := ⟨.other, 1, 8, .nil 1, []⟩
def ty84 : TY := ⟨.other, 1, 8, .nil 1, []⟩
def ty85 : TY := ⟨.other, 1, 8, .nil 1, []⟩
def ty86 : TY := ⟨.other, 1, 8, .nil 1, []⟩
def ty87 : TY := ⟨.other, 1, 8, .nil 1, []⟩
def ty88 : TY := ⟨.other, 1, 8, .nil 1, []⟩
def ty89 : TY := ⟨.other, 1, 8, .nil 1, []⟩
def ty90 : TY := ⟨.other, 1, 8, .nil 1, []⟩
def ty91 : TY := ⟨.other, 1, 8, .nil 1, []⟩
def ty92 : TY := ⟨.other, 1, 8, .nil 1, []⟩
def ty93 : TY := ⟨.other, 1, 8, .nil 1, []⟩
def ty94 : TY := ⟨.slice 45, 1, 24, .sl [], []⟩
def ty95 : TY := ⟨.slice 29, 1, 24, .sl [], []⟩
def ty96 : TY := ⟨.slice 37, 1, 24, .sl [], []⟩
def ty98 : TY := ⟨.other, 1, 8, .nil 1, []⟩
def ty99 : TY := ⟨.other, 1, 8, .nil 1, []⟩
def ty100 : TY := ⟨.other, 1, 8, .nil 1, []⟩
def ty102 : TY := ⟨.other, 1, 8, .nil 1, []⟩
def ty103 : TY := ⟨.other, 1, 8, .nil 1, []⟩
def ty104 : TY := ⟨.other, 1, 8, .nil 1, []⟩
def ty105 : TY := ⟨.other, 1, 8, .nil 1, []⟩
def ty106 : TY := ⟨.other, 1, 8, .nil 1, []⟩
def ty107 : TY := ⟨.other, 1, 8, .nil 1, []⟩
def ty108 : TY := ⟨.other, 1, 8, .nil 1, []⟩
def ty109 : TY := ⟨.other, 1, 8, .nil 1, []⟩
def ty110 : TY := ⟨.other, 1, 8, .nil 1, []⟩
def ty111 : TY := ⟨.other, 1, 8, .nil 1, []⟩
def ty112 : TY := ⟨.other, 1, 8, .nil 1, []⟩
def ty113 : TY := ⟨.other, 1, 8, .nil 1, []⟩
def ty114 : TY := ⟨.other, 1, 8, .nil 1, []⟩
def ty116 : TY := ⟨.other, 1, 8, .nil 1, []⟩
def ty118 : TY := ⟨.other, 1, 8, .nil 1, []⟩
def ty120 : TY := ⟨.other, 1, 8, .nil 1, []⟩
def ty121 : TY := ⟨.other, 1, 8, .nil 1, []⟩
def ty122 : TY := ⟨.other, 1, 8, .nil 1, []⟩
def ty123 : TY := ⟨.other, 1, 8, .nil 1, []⟩
def ty125 : TY := ⟨.other, 1, 8, .nil 1, []⟩
def ty126 : TY := ⟨.other, 1, 8, .nil 1, []⟩
def ty127 : TY := ⟨.slice 9, 1, 24, .sl [], []⟩
def ty128 : TY := ⟨.other, 1, 8, .nil 1, []⟩
def ty129 : TY := ⟨.other, 1, 8, .nil 1, []⟩
def ty130 : TY := ⟨.other, 1, 8, .nil 1, []⟩
def ty131 : TY := ⟨.other, 1, 8, .nil 1, []⟩
def ty132 : TY := ⟨.other, 1, 8, .nil 1, []⟩
def ty133 : TY := ⟨.other, 1, 8, .nil 1, []⟩
def ty134 : TY := ⟨.other, 1, 8, .nil 1, []⟩
def ty136 : TY := ⟨.other, 1, 8, .nil 1, []⟩
def ty137 : TY := ⟨.other, 1, 8, .nil 1, []⟩
def ty138 : TY := ⟨.other, 1, 8, .nil 1, []⟩
def ty139 : TY := ⟨.other, 1, 8, .nil 1, []⟩
def ty140 : TY := ⟨.other, 1, 8, .nil 1, []⟩
def ty141 : TY := ⟨.other, 1, 8, .nil 1, []⟩
def ty142 : TY := ⟨.int .u64, 1, 8, .int .u64 0, []⟩
def ty143 : TY := ⟨.other, 1, 8, .nil 1, []⟩
def ty144 : TY := ⟨.other, 1, 8, .nil 1, []⟩
def ty145 : TY := ⟨.other, 1, 8, .nil 1, []⟩
def ty146 : TY := ⟨.other, 1, 8, .nil 1, []⟩
def ty147 : TY := ⟨.other, 1, 8, .nil 1, []⟩
def ty148 : TY := ⟨.other, 1, 8, .nil 1, []⟩
def ty149 : TY := ⟨.other, 1, 8, .nil 1, []⟩
def ty150 : TY := ⟨.other, 1, 8, .nil 1, []⟩
def ty151 : TY := ⟨.other, 1, 8, .nil 1, []⟩
def ty152 : TY := ⟨.other, 1, 8, .nil 1, []⟩
def ty153 : TY := ⟨.other, 1, 8, .nil 1, []⟩
def ty154 : TY := ⟨.other, 1, 8, .nil 1, []⟩
def ty155 : TY := ⟨.other, 1, 8, .nil 1, []⟩
def ty156 : TY := ⟨.other, 1, 8, .nil 1, []⟩
def ty157 : TY := ⟨.other, 1, 8, .nil 1, []⟩
def ty158 : TY := ⟨.other, 1, 8, .nil 1, []⟩
def ty159 : TY := ⟨.other, 1, 8, .nil 1, []⟩
def ty160 : TY := ⟨.other, 1, 8, .nil 1, []⟩
def ty161 : TY := ⟨.other, 1, 8, .nil 1, []⟩
def ty162 : TY := ⟨.other, 1, 8, .nil 1, []⟩
def ty163 : TY := ⟨.other, 1, 8, .nil 1, []⟩
def ty164 : TY := ⟨.other, 1, 8, .nil 1, []⟩
def ty165 : TY := ⟨.other, 1, 8, .nil 1, []⟩
def ty166 : TY := ⟨.other, 1, 8, .nil 1, []⟩
def ty168 : TY := ⟨.other, 1, 8, .nil 1, []⟩
def ty169 : TY := ⟨.other, 1, 8, .nil 1, []⟩
def ty170 : TY := ⟨.other, 1, 8, .nil 1, []⟩
def ty171 : TY := ⟨.other, 1, 8, .nil 1, []⟩
def ty172 : TY := ⟨.other, 1, 8, .nil 1, []⟩
def ty173 : TY := ⟨.int .u32, 1, 4, .int .u32 0, []⟩
def ty174 : TY := ⟨.other, 1, 8, .nil 1, []⟩
def ty175 : TY := ⟨.other, 1, 8, .nil 1, []⟩
def ty176 : TY := ⟨.other, 1, 8, .nil 1, []⟩
def ty177 : TY := ⟨.other, 1, 8, .nil 1, []⟩
def ty178 : TY := ⟨.other, 1, 8, .nil 1, []⟩
def ty180 : TY := ⟨.other, 1, 8, .nil 1, []⟩
def ty181 : TY := ⟨.other, 1, 16, .nil 0, []⟩
def ty182 : TY := ⟨.other, 1, 16, .nil 0, []⟩
def ty184 : TY := ⟨.other, 1, 8, .nil 1, []⟩
def ty185 : TY := ⟨.other, 1, 8, .nil 1, []⟩
def ty186 : TY := ⟨.other, 1, 8, .nil 1, []⟩
def ty187 : TY := ⟨.other, 1, 8, .nil 1, []⟩
def ty188 : TY := ⟨.other, 1, 8, .nil 1, []⟩
def ty189 : TY := ⟨.other, 1, 8, .nil 1, []⟩
def ty190 : TY := ⟨.other, 1, 8, .nil 1, []⟩
def ty191 : TY := ⟨.other, 1, 8, .nil 1, []⟩
def ty193 : TY := ⟨.other, 1, 8, .nil 1, []⟩
def ty194 : TY := ⟨.other, 1, 8, .nil 2, []⟩
def ty195 : TY := ⟨.slice 5, 1, 24, .sl [], []⟩
def ty196 : TY := ⟨.struct, 2, 32, .agg [.nil 2, .sl []], [(0, false, 1), (1, false, 1)]⟩
def ty197 : TY := ⟨.struct, 2, 32, .agg [.nil 2, .sl []], [(0, false, 1), (1, false, 1)]⟩
def ty198 : TY := ⟨.other, 1, 8, .nil 1, []⟩
def ty199 : TY := ⟨.int .u64, 1, 8, .int .u64 0, []⟩
def ty201 : TY := ⟨.other, 1, 8, .nil 1, []⟩
def ty202 : TY := ⟨.other, 1, 8, .nil 1, []⟩
def ty203 : TY := ⟨.other, 1, 8, .nil 1, []⟩
def ty204 : TY := ⟨.other, 1, 8, .nil 1, []⟩
def ty205 : TY := ⟨.other, 1, 8, .nil 1, []⟩
def ty206 : TY := ⟨.other, 1, 8, .nil 1, []⟩
def ty207 : TY := ⟨.other, 1, 8, .nil 1, []⟩
def ty208 : TY := ⟨.other, 1, 8, .nil 1, []⟩
def ty209 : TY := ⟨.other, 1, 8, .nil 1, []⟩
def ty210 : TY := ⟨.other, 1, 8, .nil 1, []⟩
def ty211 : TY := ⟨.other, 1, 8, .nil 1, []⟩
def ty212 : TY := ⟨.array 256 4, 256, 256, .agg [.bool false, .bool false, .bool false, .bool false, .bool false, .bool false, .bool false, .bool false, .bool false, .bool false, .bool false, .bool false, .bool false, .bool false, .bool false, .bool false, .bool false, .bool false, .bool false, .bool false, .bool false, .bool false, .bool false, .bool false, .bool false, .bool false, .bool false, .bool false, .bool false, .bool false, .bool false, .bool false, .bool false, .bool false, .bool false, .bool false, .bool false, .bool false, .bool false, .bool false, .bool false, .bool false, .bool false, .bool false, .bool false, .bool false, .bool false, .bool false, .bool false, .bool false, .bool false, .bool false, .bool false, .bool false, .bool false, .bool false, .bool false, .bool false, .bool false, .bool false, .bool false, .bool false, .bool false, .bool false, .bool false, .bool false, .bool false, .bool false, .bool false, .bool false, .bool false, .bool false, .bool false, .bool false, .bool false, .bool false, .bool false, .bool false, .bool false, .bool false, .bool false, .bool false, .bool false, .bool false, .bool false, .bool false, .bool false, .bool false, .bool false, .bool false, .bool false, .bool false, .bool false, .bool false, .bool false, .bool false, .bool false, .bool false, .bool false, .bool false, .bool false, .bool false, .bool false, .bool false, .bool false, .bool false, .bool false, .bool false, .bool false, .bool false, .bool false, .bool false, .bool false, .bool false, .bool false, .bool false, .bool false, .bool false, .bool false, .bool false, .bool false, .bool false, .bool false, .bool false, .bool false, .bool false, .bool false, .bool false, .bool false, .bool false, .bool false, .bool false, .bool false, .bool false, .bool false, .bool false, .bool false, .bool false, .bool false, .bool false, .bool false, .bool false, .bool false, .bool false, .bool false, .bool false, .bool false, .bool false, .bool false, .bool false, .bool false, .bool false, .bool false, .bool false, .bool false, .bool false, .bool false, .bool false, .bool false, .bool false, .bool false, .bool false, .bool false, .bool false, .bool false, .bool false, .bool false, .bool false, .bool false, .bool false, .bool false, .bool false, .bool false, .bool false, .bool false, .bool false, .bool false, .bool false, .bool false, .bool false, .bool false, .bool false, .bool false, .bool false, .bool false, .bool false, .bool false, .bool false, .bool false, .bool false, .bool false, .bool false, .bool false, .bool false, .bool false, .bool false, .bool false, .bool false, .bool false, .bool false, .bool false, .bool false, .bool false, .bool false, .bool false, .bool false, .bool false, .bool false, .bool false, .bool false, .bool false, .bool false, .bool false, .bool false, .bool false, .bool false, .bool false, .bool false, .bool false, .bool false, .bool false, .bool false, .bool false, .bool false, .bool false, .bool false, .bool false, .bool false, .bool false, .bool false, .bool false, .bool false, .bool false, .bool false, .bool false, .bool false, .bool false, .bool false, .bool false, .bool false, .bool false, .bool false, .bool false, .bool false, .bool false, .bool false, .bool false, .bool false, .bool false, .bool false, .bool false, .bool false, .bool false, .bool false, .bool false, .bool false], []⟩
def ty213 : TY := ⟨.array 256 4, 256, 256, .agg [.bool false, .bool false, .bool false, .bool false, .bool false, .bool false, .bool false, .bool false, .bool false, .bool false, .bool false, .bool false, .bool false, .bool false, .bool false, .bool false, .bool false, .bool false, .bool false, .bool false, .bool false, .bool false, .bool false, .bool false, .bool false, .bool false, .bool false, .bool false, .bool false, .bool false, .bool false, .bool false, .bool false, .bool false, .bool false, .bool false, .bool false, .bool false, .bool false, .bool false, .bool false, .bool false, .bool false, .bool false, .bool false, .bool false, .bool false, .bool false, .bool false, .bool false, .bool false, .bool false, .bool false, .bool false, .bool false, .bool false, .bool false, .bool false, .bool false, .bool false, .bool false, .bool false, .bool false, .bool false, .bool false, .bool false, .bool false, .bool false, .bool false, .bool false, .bool false, .bool false, .bool false, .bool false, .bool false, .bool false, .bool false, .bool false, .bool false, .bool false, .bool false, .bool false, .bool false, .bool false, .bool false, .bool false, .bool false, .bool false, .bool false, .bool false, .bool false, .bool false, .bool false, .bool false, .bool false, .bool false, .bool false, .bool false, .bool false, .bool false, .bool false, .bool false, .bool false, .bool false, .bool false, .bool false, .bool false, .bool false, .bool false, .bool false, .bool false, .bool false, .bool false, .bool false, .bool false, .bool false, .bool false, .bool false, .bool false, .bool false, .bool false, .bool false, .bool false, .bool false, .bool false, .bool false, .bool false, .bool false, .bool false, .bool false, .bool false, .bool false, .bool false, .bool false, .bool false, .bool false, .bool false, .bool false, .bool false, .bool false, .bool false, .bool false, .bool false, .bool false, .bool false, .bool false, .bool false, .bool false, .bool false, .bool false, .bool false, .bool false, .bool false, .bool false, .bool false, .bool false, .bool false, .bool false, .bool false, .bool false, .bool false, .bool false, .bool false, .bool false, .bool false, .bool false, .bool false, .bool false, .bool false, .bool false, .bool false, .bool false, .bool false, .bool false, .bool false, .bool false, .bool false, .bool false, .bool false, .bool false, .bool false, .bool false, .bool false, .bool false, .bool false, .bool false, .bool false, .bool false, .bool false, .bool false, .bool false, .bool false, .bool false, .bool false, .bool false, .bool false, .bool false, .bool false, .bool false, .bool false, .bool false, .bool false, .bool false, .bool false, .bool false, .bool false, .bool false, .bool false, .bool false, .bool false, .bool false, .bool false, .bool false, .bool false, .bool false, .bool false, .bool false, .bool false, .bool false, .bool false, .bool false, .bool false, .bool false, .bool false, .bool false, .bool false, .bool false, .bool false, .bool false, .bool false, .bool false, .bool false, .bool false, .bool false, .bool false, .bool false, .bool false, .bool false, .bool false, .bool false, .bool false, .bool false, .bool false, .bool false, .bool false, .bool false, .bool false, .bool false, .bool false, .bool false, .bool false, .bool false, .bool false, .bool false, .bool false, .bool false], []⟩
def ty215 : TY := ⟨.other, 1, 8, .nil 1, []⟩
def ty216 : TY := ⟨.other, 1, 8, .nil 1, []⟩
def ty217 : TY := ⟨.other, 1, 8, .nil 2, []⟩
def ty218 : TY := ⟨.other, 1, 8, .nil 1, []⟩
def ty219 : TY := ⟨.other, 1, 8, .nil 1, []⟩
def ty220 : TY := ⟨.other, 1, 8, .nil 1, []⟩
def ty222 : TY := ⟨.other, 1, 8, .nil 1, []⟩
def ty223 : TY := ⟨.other, 1, 8, .nil 2, []⟩
def ty225 : TY := ⟨.other, 1, 8, .nil 1, []⟩
def ty227 : TY := ⟨.other, 1, 8, .nil 1, []⟩
def ty228 : TY := ⟨.other, 1, 8, .nil 1, []⟩
def ty229 : TY := ⟨.other, 1, 8, .nil 1, []⟩
def ty230 : TY := ⟨.other, 1, 8, .nil 1, []⟩
def ty231 : TY := ⟨.int .i64, 1, 8, .int .i64 0, []⟩
def ty233 : TY := ⟨.other, 1, 8, .nil 1, []⟩
def ty234 : TY := ⟨.other, 1, 8, .nil 2, []⟩
def ty235 : TY := ⟨.other, 1, 8, .nil 1, []⟩
def ty236 : TY := ⟨.other, 1, 8, .nil 1, []⟩
def ty237 : TY := ⟨.other, 1, 8, .nil 1, []⟩
def ty239 : TY := ⟨.other, 1, 8, .nil 1, []⟩
def ty240 : TY := ⟨.other, 1, 8, .nil 1, []⟩
def ty241 : TY := ⟨.other, 1, 8, .nil 1, []⟩
def ty242 : TY := ⟨.other, 1, 8, .nil 1, []⟩
def ty243 : TY := ⟨.other, 1, 8, .nil 2, []⟩
def ty244 : TY := ⟨.other, 1, 8, .nil 1, []⟩
def ty245 : TY := ⟨.other, 1, 8, .nil 1, []⟩
def ty246 : TY := ⟨.other, 1, 8, .nil 1, []⟩
def ty248 : TY := ⟨.other, 1, 8, .nil 1, []⟩
def ty249 : TY := ⟨.other, 1, 8, .nil 1, []⟩
def ty250 : TY := ⟨.struct, 3, 48, .agg [.str [], .str [], .nil 0], [(0, false, 1), (1, false, 1), (2, false, 1)]⟩
def ty251 : TY := ⟨.struct, 3, 48, .agg [.str [], .str [], .nil 0], [(0, false, 1), (1, false, 1), (2, false, 1)]⟩
def ty252 : TY := ⟨.other, 1, 8, .nil 1, []⟩
def ty253 : TY := ⟨.other, 1, 8, .nil 1, []⟩
def ty254 : TY := ⟨.array 24 5, 24, 24, .agg [.int .u8 0, .int .u8 0, .int .u8 0, .int .u8 0, .int .u8 0, .int .u8 0, .int .u8 0, .int .u8 0, .int .u8 0, .int .u8 0, .int .u8 0, .int .u8 0, .int .u8 0, .int .u8 0, .int .u8 0, .int .u8 0, .int .u8 0, .int .u8 0, .int .u8 0, .int .u8 0, .int .u8 0, .int .u8 0, .int .u8 0, .int .u8 0], []⟩
def ty255 : TY := ⟨.other, 1, 8, .nil 1, []⟩
def ty256 : TY := ⟨.other, 1, 8, .nil 1, []⟩
def ty258 : TY := ⟨.other, 1, 8, .nil 1, []⟩
def ty259 : TY := ⟨.other, 1, 8, .nil 1, []⟩
def ty260 : TY := ⟨.other, 1, 8, .nil 2, []⟩
def ty261 : TY := ⟨.struct, 1, 16, .agg [.str []], [(0, false, 1)]⟩
def ty262 : TY := ⟨.struct, 1, 16, .agg [.str []], [(0, false, 1)]⟩
def ty263 : TY := ⟨.array 256 5, 256, 256, .agg [.int .u8 0, .int .u8 0, .int .u8 0, .int .u8 0, .int .u8 0, .int .u8 0, .int .u8 0, .int .u8 0, .int .u8 0, .int .u8 0, .int .u8 0, .int .u8 0, .int .u8 0, .int .u8 0, .int .u8 0, .int .u8 0, .int .u8 0, .int .u8 0, .int .u8 0, .int .u8 0, .int .u8 0, .int .u8 0, .int .u8 0, .int .u8 0, .int .u8 0, .int .u8 0, .int .u8 0, .int .u8 0, .int .u8 0, .int .u8 0, .int .u8 0, .int .u8 0, .int .u8 0, .int .u8 0, .int .u8 0, .int .u8 0, .int .u8 0, .int .u8 0, .int .u8 0, .int .u8 0, .int .u8 0, .int .u8 0, .int .u8 0, .int .u8 0, .int .u8 0, .int .u8 0, .int .u8 0, .int .u8 0, .int .u8 0, .int .u8 0, .int .u8 0, .int .u8 0, .int .u8 0, .int .u8 0, .int .u8 0, .int .u8 0, .int .u8 0, .int .u8 0, .int .u8 0, .int .u8 0, .int .u8 0, .int .u8 0, .int .u8 0, .int .u8 0, .int .u8 0, .int .u8 0, .int .u8 0, .int .u8 0, .int .u8 0, .int .u8 0, .int .u8 0, .int .u8 0, .int .u8 0, .int .u8 0, .int .u8 0, .int .u8 0, .int .u8 0, .int .u8 0, .int .u8 0, .int .u8 0, .int .u8 0, .int .u8 0, .int .u8 0, .int .u8 0, .int .u8 0, .int .u8 0, .int .u8 0, .int .u8 0, .int .u8 0, .int .u8 0, .int .u8 0, .int .u8 0, .int .u8 0, .int .u8 0, .int .u8 0, .int .u8 0, .int .u8 0, .int .u8 0, .int .u8 0, .int .u8 0, .int .u8 0, .int .u8 0, .int .u8 0, .int .u8 0, .int .u8 0, .int .u8 0, .int .u8 0, .int .u8 0, .int .u8 0, .int .u8 0, .int .u8 0, .int .u8 0, .int .u8 0, .int .u8 0, .int .u8 0, .int .u8 0, .int .u8 0, .int .u8 0, .int .u8 0, .int .u8 0, .int .u8 0, .int .u8 0, .int .u8 0, .int .u8 0, .int .u8 0, .int .u8 0, .int .u8 0, .int .u8 0, .int .u8 0, .int .u8 0, .int .u8 0, .int .u8 0, .int .u8 0, .int .u8 0, .int .u8 0, .int .u8 0, .int .u8 0, .int .u8 0, .int .u8 0, .int .u8 0, .int .u8 0, .int .u8 0, .int .u8 0, .int .u8 0, .int .u8 0, .int .u8 0, .int .u8 0, .int .u8 0, .int .u8 0, .int .u8 0, .int .u8 0, .int .u8 0, .int .u8 0, .int .u8 0, .int .u8 0, .int .u8 0, .int .u8 0, .int .u8 0, .int .u8 0, .int .u8 0, .int .u8 0, .int .u8 0, .int .u8 0, .int .u8 0, .int .u8 0, .int .u8 0, .int .u8 0, .int .u8 0, .int .u8 0, .int .u8 0, .int .u8 0, .int .u8 0, .int .u8 0, .int .u8 0, .int .u8 0, .int .u8 0, .int .u8 0, .int .u8 0, .int .u8 0, .int .u8 0, .int .u8 0, .int .u8 0, .int .u8 0, .int .u8 0, .int .u8 0, .int .u8 0, .int .u8 0, .int .u8 0, .int .u8 0, .int .u8 0, .int .u8 0, .int .u8 0, .int .u8 0, .int .u8 0, .int .u8 0, .int .u8 0, .int .u8 0, .int .u8 0, .int .u8 0, .int .u8 0, .int .u8 0, .int .u8 0, .int .u8 0, .int .u8 0, .int .u8 0, .int .u8 0, .int .u8 0, .int .u8 0, .int .u8 0, .int .u8 0, .int .u8 0, .int .u8 0, .int .u8 0, .int .u8 0, .int .u8 0, .int .u8 0, .int .u8 0, .int .u8 0, .int .u8 0, .int .u8 0, .int .u8 0, .int .u8 0, .int .u8 0, .int .u8 0, .int .u8 0, .int .u8 0, .int .u8 0, .int .u8 0, .int .u8 0, .int .u8 0, .int .u8 0, .int .u8 0, .int .u8 0, .int .u8 0, .int .u8 0, .int .u8 0, .int .u8 0, .int .u8 0, .int .u8 0, .int .u8 0, .int .u8 0, .int .u8 0, .int .u8 0, .int .u8 0, .int .u8 0, .int .u8 0, .int .u8 0, .int .u8 0, .int .u8 0, .int .u8 0, .int .u8 0, .int .u8 0, .int .u8 0, .int .u8 0, .int .u8 0, .int .u8 0], []⟩
def ty264 : TY := ⟨.struct, 2, 2, .agg [.int .u8 0, .int .u8 0], [(0, false, 1), (1, false, 1)]⟩
def ty265 : TY := ⟨.struct, 2, 2, .agg [.int .u8 0, .int .u8 0], [(0, false, 1), (1, false, 1)]⟩
def ty266 : TY := ⟨.array 16 265, 32, 32, .agg [.int .u8 0, .int .u8 0, .int .u8 0, .int .u8 0, .int .u8 0, .int .u8 0, .int .u8 0, .int .u8 0, .int .u8 0, .int .u8 0, .int .u8 0, .int .u8 0, .int .u8 0, .int .u8 0, .int .u8 0, .int .u8 0, .int .u8 0, .int .u8 0, .int .u8 0, .int .u8 0, .int .u8 0, .int .u8 0, .int .u8 0, .int .u8 0, .int .u8 0, .int .u8 0, .int .u8 0, .int .u8 0, .int .u8 0, .int .u8 0, .int .u8 0, .int .u8 0], []⟩
def ty267 : TY := ⟨.other, 1, 8, .nil 1, []⟩
def ty268 : TY := ⟨.other, 1, 8, .nil 1, []⟩
def ty269 : TY := ⟨.array 20 142, 20, 160, .agg [.int .u64 0, .int .u64 0, .int .u64 0, .int .u64 0, .int .u64 0, .int .u64 0, .int .u64 0, .int .u64 0, .int .u64 0, .int .u64 0, .int .u64 0, .int .u64 0, .int .u64 0, .int .u64 0, .int .u64 0, .int .u64 0, .int .u64 0, .int .u64 0, .int .u64 0, .int .u64 0], []⟩
def ty270 : TY := ⟨.array 65 5, 65, 65, .agg [.int .u8 0, .int .u8 0, .int .u8 0, .int .u8 0, .int .u8 0, .int .u8 0, .int .u8 0, .int .u8 0, .int .u8 0, .int .u8 0, .int .u8 0, .int .u8 0, .int .u8 0, .int .u8 0, .int .u8 0, .int .u8 0, .int .u8 0, .int .u8 0, .int .u8 0, .int .u8 0, .int .u8 0, .int .u8 0, .int .u8 0, .int .u8 0, .int .u8 0, .int .u8 0, .int .u8 0, .int .u8 0, .int .u8 0, .int .u8 0, .int .u8 0, .int .u8 0, .int .u8 0, .int .u8 0, .int .u8 0, .int .u8 0, .int .u8 0, .int .u8 0, .int .u8 0, .int .u8 0, .int .u8 0, .int .u8 0, .int .u8 0, .int .u8 0, .int .u8 0, .int .u8 0, .int .u8 0, .int .u8 0, .int .u8 0, .int .u8 0, .int .u8 0, .int .u8 0, .int .u8 0, .int .u8 0, .int .u8 0, .int .u8 0, .int .u8 0, .int .u8 0, .int .u8 0, .int .u8 0, .int .u8 0, .int .u8 0, .int .u8 0, .int .u8 0, .int .u8 0], []⟩
def ty271 : TY := ⟨.other, 1, 8, .nil 1, []⟩
def ty272 : TY := ⟨.other, 1, 8, .nil 1, []⟩
def ty273 : TY := ⟨.array 32 5, 32, 32, .agg [.int .u8 0, .int .u8 0, .int .u8 0, .int .u8 0, .int .u8 0, .int .u8 0, .int .u8 0, .int .u8 0, .int .u8 0, .int .u8 0, .int .u8 0, .int .u8 0, .int .u8 0, .int .u8 0, .int .u8 0, .int .u8 0, .int .u8 0, .int .u8 0, .int .u8 0, .int .u8 0, .int .u8 0, .int .u8 0, .int .u8 0, .int .u8 0, .int .u8 0, .int .u8 0, .int .u8 0, .int .u8 0, .int .u8 0, .int .u8 0, .int .u8 0, .int .u8 0], []⟩
def ty274 : TY := ⟨.array 64 5, 64, 64, .agg [.int .u8 0, .int .u8 0, .int .u8 0, .int .u8 0, .int .u8 0, .int .u8 0, .int .u8 0, .int .u8 0, .int .u8 0, .int .u8 0, .int .u8 0, .int .u8 0, .int .u8 0, .int .u8 0, .int .u8 0, .int .u8 0, .int .u8 0, .int .u8 0, .int .u8 0, .int .u8 0, .int .u8 0, .int .u8 0, .int .u8 0, .int .u8 0, .int .u8 0, .int .u8 0, .int .u8 0, .int .u8 0, .int .u8 0, .int .u8 0, .int .u8 0, .int .u8 0, .int .u8 0, .int .u8 0, .int .u8 0, .int .u8 0, .int .u8 0, .int .u8 0, .int .u8 0, .int .u8 0, .int .u8 0, .int .u8 0, .int .u8 0, .int .u8 0, .int .u8 0, .int .u8 0, .int .u8 0, .int .u8 0, .int .u8 0, .int .u8 0, .int .u8 0, .int .u8 0, .int .u8 0, .int .u8 0, .int .u8 0, .int .u8 0, .int .u8 0, .int .u8 0, .int .u8 0, .int .u8 0, .int .u8 0, .int .u8 0, .int .u8 0, .int .u8 0], []⟩
def ty275 : TY := ⟨.struct, 4, 40, .agg [.nil 2, .nil 2, .nil 2, .str []], [(0, false, 1), (1, false, 1), (2, false, 1), (3, false, 1)]⟩
def ty276 : TY := ⟨.struct, 4, 40, .agg [.nil 2, .nil 2, .nil 2, .str []], [(0, false, 1), (1, false, 1), (2, false, 1), (3, false, 1)]⟩
def ty277 : TY := ⟨.array 0 16, 0, 0, .agg [], []⟩
def ty278 : TY := ⟨.struct, 0, 0, .agg [], [(0, true, 0)]⟩
def ty279 : TY := ⟨.struct, 0, 0, .agg [], [(0, true, 0)]⟩
def ty280 : TY := ⟨.int .u8, 1, 1, .int .u8 0, []⟩
def ty281 : TY := ⟨.int .u8, 1, 1, .int .u8 0, []⟩
def ty282 : TY := ⟨.other, 1, 8, .nil 1, []⟩
def ty283 : TY := ⟨.int .i32, 1, 4, .int .i32 0, []⟩
def ty284 : TY := ⟨.int .i32, 1, 4, .int .i32 0, []⟩
def ty285 : TY := ⟨.struct, 11, 48, .agg [.int .u64 0, .int .u64 0, .int .u32 0, .int .u8 0, .int .u8 0, .int .u8 0, .int .u8 0, .nil 1, .nil 2, .int .i32 0, .int .i32 0], [(0, false, 1), (1, false, 1), (2, false, 1), (3, false, 1), (4, false, 1), (5, false, 1), (6, false, 1), (7, false, 1), (8, false, 1), (9, false, 1), (10, false, 1)]⟩
def ty286 : TY := ⟨.struct, 11, 48, .agg [.int .u64 0, .int .u64 0, .int .u32 0, .int .u8 0, .int .u8 0, .int .u8 0, .int .u8 0, .nil 1, .nil 2, .int .i32 0, .int .i32 0], [(0, false, 1), (1, false, 1), (2, false, 1), (3, false, 1), (4, false, 1), (5, false, 1), (6, false, 1), (7, false, 1), (8, false, 1), (9, false, 1), (10, false, 1)]⟩
def tr0 : Tr := .node 8 (.node 4 (.node 2 (.node 1 (.leaf none) (.leaf (some ty1))) (.node 3 (.leaf (some ty2)) (.leaf (some ty3)))) (.node 6 (.node 5 (.leaf (some ty4)) (.leaf (some ty5))) (.node 7 (.leaf (some ty6)) (.leaf (some ty7))))) (.node 12 (.node 10 (.node 9 (.leaf (some ty8)) (.leaf (some ty9))) (.node 11 (.leaf (some ty10)) (.leaf (some ty11)))) (.node 14 (.node 13 (.leaf (some ty12)) (.leaf (some ty13))) (.node 15 (.leaf (some ty14)) (.leaf (some ty15)))))
def tr1 : Tr := .node 24 (.node 20 (.node 18 (.node 17 (.leaf (some ty16)) (.leaf (some ty17))) (.node 19 (.leaf (some ty18)) (.leaf (some ty19)))) (.node 22 (.node 21 (.leaf (some ty20)) (.leaf (some ty21))) (.node 23 (.leaf (some ty22)) (.leaf (some ty23))))) (.node 28 (.node 26 (.node 25 (.leaf (some ty24)) (.leaf (some ty25))) (.node 27 (.leaf (some ty26)) (.leaf (some ty27)))) (.node 30 (.node 29 (.leaf (some ty28)) (.leaf (some ty29))) (.node 31 (.leaf (some ty30)) (.leaf none))))
def tr2 : Tr := .node 40 (.node 36 (.node 34 (.node 33 (.leaf (some ty32)) (.leaf (some ty33))) (.node 35 (.leaf (some ty34)) (.leaf (some ty35)))) (.node 38 (.node 37 (.leaf (some ty36)) (.leaf (some ty37))) (.node 39 (.leaf none) (.leaf (some ty39))))) (.node 44 (.node 42 (.node 41 (.leaf (some ty40)) (.leaf (some ty41))) (.node 43 (.leaf (some ty42)) (.leaf (some ty43)))) (.node 46 (.node 45 (.leaf (some ty44)) (.leaf (some ty45))) (.node 47 (.leaf (some ty46)) (.leaf (some ty47)))))
def tr3 : Tr := .node 56 (.node 52 (.node 50 (.node 49 (.leaf (some ty48)) (.leaf (some ty49))) (.node 51 (.leaf (some ty50)) (.leaf (some ty51)))) (.node 54 (.node 53 (.leaf none) (.leaf (some ty53))) (.node 55 (.leaf (some ty54)) (.leaf (some ty55))))) (.node 60 (.node 58 (.node 57 (.leaf (some ty56)) (.leaf (some ty57))) (.node 59 (.leaf (some ty58)) (.leaf (some ty59)))) (.node 62 (.node 61 (.leaf (some ty60)) (.leaf none)) (.node 63 (.leaf (some ty62)) (.leaf (some ty63)))))
def tr4 : Tr := .node 72 (.node 68 (.node 66 (.node 65 (.leaf (some ty64)) (.leaf none)) (.node 67 (.leaf (some ty66)) (.leaf (some ty67)))) (.node 70 (.node 69 (.leaf (some ty68)) (.leaf (some ty69))) (.node 71 (.leaf (some ty70)) (.leaf (some ty71))))) (.node 76 (.node 74 (.node 73 (.leaf (some ty72)) (.leaf (some ty73))) (.node 75 (.leaf (some ty74)) (.leaf (some ty75)))) (.node 78 (.node 77 (.leaf (some ty76)) (.leaf (some ty77))) (.node 79 (.leaf (some ty78)) (.leaf (some ty79)))))
def tr5 : Tr := .node 88 (.node 84 (.node 82 (.node 81 (.leaf (some ty80)) (.leaf (some ty81))) (.node 83 (.leaf (some ty82)) (.leaf (some ty83)))) (.node 86 (.node 85 (.leaf (some ty84)) (.leaf (some ty85))) (.node 87 (.leaf (some ty86)) (.leaf (some ty87))))) (.node 92 (.node 90 (.node 89 (.leaf (some ty88)) (.leaf (some ty89))) (.node 91 (.leaf (some ty90)) (.leaf (some ty91)))) (.node 94 (.node 93 (.leaf (some ty92)) (.leaf (some ty93))) (.node 95 (.leaf (some ty94)) (.leaf (some ty95)))))
def tr6 : Tr := .node 104 (.node 100 (.node 98 (.node 97 (.leaf (some ty96)) (.leaf none)) (.node 99 (.leaf (some ty98)) (.leaf (some ty99)))) (.node 102 (.node 101 (.leaf (some ty100)) (.leaf none)) (.node 103 (.leaf (some ty102)) (.leaf (some ty103))))) (.node 108 (.node 106 (.node 105 (.leaf (some ty104)) (.leaf (some ty105))) (.node 107 (.leaf (some ty106)) (.leaf (some ty107)))) (.node 110 (.node 109 (.leaf (some ty108)) (.leaf (some ty109))) (.node 111 (.leaf (some ty110)) (.leaf (some ty111)))))
def tr7 : Tr := .node 120 (.node 116 (.node 114 (.node 113 (.leaf (some ty112)) (.leaf (some ty113))) (.node 115 (.leaf (some ty114)) (.leaf none))) (.node 118 (.node 117 (.leaf (some ty116)) (.leaf none)) (.node 119 (.leaf (some ty118)) (.leaf none)))) (.node 124 (.node 122 (.node 121 (.leaf (some ty120)) (.leaf (some ty121))) (.node 123 (.leaf (some ty122)) (.leaf (some ty123)))) (.node 126 (.node 125 (.leaf none) (.leaf (some ty125))) (.node 127 (.leaf (some ty126)) (.leaf (some ty127)))))
def tr8 : Tr := .node 136 (.node 132 (.node 130 (.node 129 (.leaf (some ty128)) (.leaf (some ty129))) (.node 131 (.leaf (some ty130)) (.leaf (some ty131)))) (.node 134 (.node 133 (.leaf (some ty132)) (.leaf (some ty133))) (.node 135 (.leaf (some ty134)) (.leaf none)))) (.node 140 (.node 138 (.node 137 (.leaf (some ty136)) (.leaf (some ty137))) (.node 139 (.leaf (some ty138)) (.leaf (some ty139)))) (.node 142 (.node 141 (.leaf (some ty140)) (.leaf (some ty141))) (.node 143 (.leaf (some ty142)) (.leaf (some ty143)))))
def tr9 : Tr := .node 152 (.node 148 (.node 146 (.node 145 (.leaf (some ty144)) (.leaf (some ty145))) (.node 147 (.leaf (some ty146)) (.leaf (some ty147)))) (.node 150 (.node 149 (.leaf (some ty148)) (.leaf (some ty149))) (.node 151 (.leaf (some ty150)) (.leaf (some ty151))))) (.node 156 (.node 154 (.node 153 (.leaf (some ty152)) (.leaf (some ty153))) (.node 155 (.leaf (some ty154)) (.leaf (some ty155)))) (.node 158 (.node 157 (.leaf (some ty156)) (.leaf (some ty157))) (.node 159 (.leaf (some ty158)) (.leaf (some ty159)))))
def tr10 : Tr := .node 168 (.node 164 (.node 162 (.node 161 (.leaf (some ty160)) (.leaf (some ty161))) (.node 163 (.leaf (some ty162)) (.leaf (some ty163)))) (.node 166 (.node 165 (.leaf (some ty164)) (.leaf (some ty165))) (.node 167 (.leaf (some ty166)) (.leaf none)))) (.node 172 (.node 170 (.node 169 (.leaf (some ty168)) (.leaf (some ty169))) (.node 171 (.leaf (some ty170)) (.leaf (some ty171)))) (.node 174 (.node 173 (.leaf (some ty172)) (.leaf (some ty173))) (.node 175 (.leaf (some ty174)) (.leaf (some ty175)))))
def tr11 : Tr := .node 184 (.node 180 (.node 178 (.node 177 (.leaf (some ty176)) (.leaf (some ty177))) (.node 179 (.leaf (some ty178)) (.leaf none))) (.node 182 (.node 181 (.leaf (some ty180)) (.leaf (some ty181))) (.node 183 (.leaf (some ty182)) (.leaf none)))) (.node 188 (.node 186 (.node 185 (.leaf (some ty184)) (.leaf (some ty185))) (.node 187 (.leaf (some ty186)) (.leaf (some ty187)))) (.node 190 (.node 189 (.leaf (some ty188)) (.leaf (some ty189))) (.node 191 (.leaf (some ty190)) (.leaf (some ty191)))))
def tr12 : Tr := .node 200 (.node 196 (.node 194 (.node 193 (.leaf none) (.leaf (some ty193))) (.node 195 (.leaf (some ty194)) (.leaf (some ty195)))) (.node 198 (.node 197 (.leaf (some ty196)) (.leaf (some ty197))) (.node 199 (.leaf (some ty198)) (.leaf (some ty199))))) (.node 204 (.node 202 (.node 201 (.leaf none) (.leaf (some ty201))) (.node 203 (.leaf (some ty202)) (.leaf (some ty203)))) (.node 206 (.node 205 (.leaf (some ty204)) (.leaf (some ty205))) (.node 207 (.leaf (some ty206)) (.leaf (some ty207)))))
def tr13 : Tr := .node 216 (.node 212 (.node 210 (.node 209 (.leaf (some ty208)) (.leaf (some ty209))) (.node 211 (.leaf (some ty210)) (.leaf (some ty211)))) (.node 214 (.node 213 (.leaf (some ty212)) (.leaf (some ty213))) (.node 215 (.leaf none) (.leaf (some ty215))))) (.node 220 (.node 218 (.node 217 (.leaf (some ty216)) (.leaf (some ty217))) (.node 219 (.leaf (some ty218)) (.leaf (some ty219)))) (.node 222 (.node 221 (.leaf (some ty220)) (.leaf none)) (.node 223 (.leaf (some ty222)) (.leaf (some ty223)))))
def tr14 : Tr := .node 232 (.node 228 (.node 226 (.node 225 (.leaf none) (.leaf (some ty225))) (.node 227 (.leaf none) (.leaf (some ty227)))) (.node 230 (.node 229 (.leaf (some ty228)) (.leaf (some ty229))) (.node 231 (.leaf (some ty230)) (.leaf (some ty231))))) (.node 236 (.node 234 (.node 233 (.leaf none) (.leaf (some ty233))) (.node 235 (.leaf (some ty234)) (.leaf (some ty235)))) (.node 238 (.node 237 (.leaf (some ty236)) (.leaf (some ty237))) (.node 239 (.leaf none) (.leaf (some ty239)))))
def tr15 : Tr := .node 248 (.node 244 (.node 242 (.node 241 (.leaf (some ty240)) (.leaf (some ty241))) (.node 243 (.leaf (some ty242)) (.leaf (some ty243)))) (.node 246 (.node 245 (.leaf (some ty244)) (.leaf (some ty245))) (.node 247 (.leaf (some ty246)) (.leaf none)))) (.node 252 (.node 250 (.node 249 (.leaf (some ty248)) (.leaf (some ty249))) (.node 251 (.leaf (some ty250)) (.leaf (some ty251)))) (.node 254 (.node 253 (.leaf (some ty252)) (.leaf (some ty253))) (.node 255 (.leaf (some ty254)) (.leaf (some ty255)))))
def tr16 : Tr := .node 264 (.node 260 (.node 258 (.node 257 (.leaf (some ty256)) (.leaf none)) (.node 259 (.leaf (some ty258)) (.leaf (some ty259)))) (.node 262 (.node 261 (.leaf (some ty260)) (.leaf (some ty261))) (.node 263 (.leaf (some ty262)) (.leaf (some ty263))))) (.node 268 (.node 266 (.node 265 (.leaf (some ty264)) (.leaf (some ty265))) (.node 267 (.leaf (some ty266)) (.leaf (some ty267)))) (.node 270 (.node 269 (.leaf (some ty268)) (.leaf (some ty269))) (.node 271 (.leaf (some ty270)) (.leaf (some ty271)))))
def tr17 : Tr := .node 280 (.node 276 (.node 274 (.node 273 (.leaf (some ty272)) (.leaf (some ty273))) (.node 275 (.leaf (some ty274)) (.leaf (some ty275)))) (.node 278 (.node 277 (.leaf (some ty276)) (.leaf (some ty277))) (.node 279 (.leaf (some ty278)) (.leaf (some ty279))))) (.node 284 (.node 282 (.node 281 (.leaf (some ty280)) (.leaf (some ty281))) (.node 283 (.leaf (some ty282)) (.leaf (some ty283)))) (.node 286 (.node 285 (.leaf (some ty284)) (.leaf (some ty285))) (.node 287 (.leaf (some ty286)) (.leaf none))))
def trAll : Tr := (.node 144 (.node 64 (.node 32 (.node 16 tr0 tr1) (.node 48 tr2 tr3)) (.node 96 (.node 80 tr4 tr5) (.node 112 tr6 (.node 128 tr7 tr8)))) (.node 208 (.node 176 (.node 160 tr9 tr10) (.node 192 tr11 tr12)) (.node 240 (.node 224 tr13 tr14) (.node 256 tr15 (.node 272 tr16 tr17)))))
noncomputable def TT (t : TypeId) : Option TY := trAll.get t
theorem TT_rows : (List.range 287).map TT = (List.range 287).map (tyOf Tryz.prog) := by kernel_rfl
theorem TT_ok : TabOk Tryz.prog TT := fun t ty h => by
  rcases Nat.lt_or_ge t 287 with hl | hl
  · have := congrArg (fun l => l[t]?) TT_rows
    simp only [List.getElem?_map, List.getElem?_range hl, Option.map_some, Option.some.injEq] at this
    rw [← this]; exact h
  · have : TT t = none := Tr.get_big hl (by kernel_rfl)
    rw [this] at h; cases h
end Go.Proofs.Fl
namespace Go.Proofs.Fl
open Go.RowKit
def Rec (w : World) (l : Nat) (fn : FuncId) (tmps : Array Value) (ps : Array Tmp) (assign body : Code) : Prop :=
  ∃ D, w.heap[l]? = some (.loop { state := .ready, pending := none, fn, tmps, params := ps, assign, body, defers := D })
structure IterJ (X : Cx) (l : Nat) (ys : List (List IV)) (J : (Nat → Prop) → Nat → Heap → World → Prop) : Prop where
  inv : ∀ own k H w w', J own k H w → BelowO own w w' → X.I w'
  step : ∀ own k H H' w w', J own k H w → BelowO own w w' → HeapHas w' H' → HExtO own H H' → J own k H' w'
  sub : ∀ own own' k H w, J own k H w → (∀ b, own' b → own b) → J own' k H w
  round : ∀ own k H w args (hk : k < ys.length), J own k H w → HeapHas w H → (∀ b, w.heap.size ≤ b → own b) → VRL H args ys[k] →
    YieldAt (FW none) 0 X.P l args.toArray w (fun e w' => e = .returned (.bool true) ∧ ∃ H', HeapHas w' H' ∧ HLe H H' ∧ w.heap.size ≤ w'.heap.size ∧ w'.os = w.os ∧ w'.tape = w.tape ∧ w'.output = w.output ∧
      (∀ b, own b → b < w.heap.size → w'.heap[b]? = w.heap[b]? ∧ (H b = none → H' b = none)) ∧ J (fun b => own b ∧ (b < w.heap.size ∨ w'.heap.size ≤ b)) (k + 1) H' w')
def yieldV (l : Nat) : Value := .func (.yield l) #[] #[]
def IterC (X : Cx) (f : FuncId) (zs : List IV) (ys : List (List IV)) : Prop :=
  (∃ fn, X.P.funcs[f]? = some fn ∧ (fn.name == "runtime.NumGoroutine") = false ∧ fn.body.isNone = false) ∧
  ∀ (l : Nat) (J : (Nat → Prop) → Nat → Heap → World → Prop) (own : Nat → Prop) (H : Heap) (w : World) (bs : List Nat), IterJ X l ys J → J own 0 H w → HeapHas w H → (∀ b, w.heap.size ≤ b → own b) → BRs own w H bs zs → bs.Pairwise (· ≠ ·) →
    CallsIn (FW none) 0 X.P f (yieldV l :: bs.map fun b => Value.pointer (some ⟨b, 0, none⟩)).toArray w (fun e w' => ∃ v own' H', e = .returned v ∧ HeapHas w' H' ∧ J own' ys.length H' w')
theorem Sim.stand {E : Env} {H H' : Heap} {β : Nat → Nat × Nat} {tm : Nat → SV} {bx : Nat → Option Bx} {tmps : Array Value} {w w' : World} {own : Nat → Prop} (h : Sim E H β tm bx tmps w) (hb : BelowO own w w') (hh : HeapHas w' H') (he : HExtO own H H') (hsub : ∀ b, own b → E.own b)
    (hbx : ∀ g b, bx g = some b → b.alive = true → ¬ own (β g).1) (hrw : ∀ g s R, bx g = some (.bld s) → RowAt w (β g).1 R → ¬ own R) (hm : ∀ D, ({ target := .collected D, args := #[] } : Deferred) ∈ E.mrk → ¬ own D) : Sim E H' β tm bx tmps w' where
  has := hh
  below := h.below.trans (hb.mono hsub)
  lo k hk := h.lo k (Nat.le_trans hb.size hk)
  ext := h.ext.step he hsub
  slot t := (h.slot t).mono he.1 (fun g b hg => ⟨b, hg, shape.refl b, rfl⟩)
  box g b hg := by
    by_cases ha : b.alive = true
    · refine (h.box g b hg).keep (hb.block _ (hbx g b hg ha)) he.1 (fun hn => ?_) (fun s R eb hR => ?_)
      · cases hx : H' (β g).1 with
        | none => rfl
        | some arr =>
          rcases he.2 _ _ hx with h1 | h1
          · rw [hn] at h1; cases h1
          · exact absurd h1 (hbx g b hg ha)
      · subst eb
        have hno := hrw g s R hg hR
        refine ⟨hb.block _ hno, fun hn => ?_⟩
        cases hx : H' R with
        | none => rfl
        | some arr =>
          rcases he.2 _ _ hx with h1 | h1
          · rw [hn] at h1; cases h1
          · exact absurd h1 hno
    · cases b <;> first | trivial | simp [Bx.alive] at ha
  inj := h.inj
  pin := h.pin
  marks := ⟨h.marks.1, fun d hd => by
    obtain ⟨D, e, ho, hD⟩ := h.marks.2 d hd
    exact ⟨D, e, ho, (hb.block D (hm D (e ▸ hd))).trans hD⟩⟩
  hid g s g' b R h1 h2 ha hR := h.hid g s g' b R h1 h2 ha (hR.same (hb.block _ (hbx g _ h1 rfl)))
theorem Sim.rebase {E : Env} {H : Heap} {β : Nat → Nat × Nat} {tm : Nat → SV} {bx : Nat → Option Bx} {tmps : Array Value} {w : World} (h : Sim E H β tm bx tmps w) {own : Nat → Prop} {pin : Nat → Option (Nat × Nat)} {M : List Deferred} (hbx : ∀ g b, bx g = some b → b.alive = true → own (β g).1) (hrw : ∀ g s R, bx g = some (.bld s) → RowAt w (β g).1 R → own R)
    (hlo : ∀ k, w.heap.size ≤ k → own k) (hpin : ∀ g k, pin g = some k → β g = k ∧ bx g ≠ none ∧ g < pinId + 8 ∧ pinId ≤ g) (hm : MarksOk own M w) : Sim ⟨own, w, H, pin, M⟩ H β tm bx tmps w where
  has := h.has
  below := BelowO.refl _ _
  lo := hlo
  ext := HExtO.refl _ _
  slot := h.slot
  box g b hg := by
    by_cases ha : b.alive = true
    · have := h.box g b hg
      have ho := hbx g b hg ha
      cases b with
      | var x => exact ⟨ho, this.2⟩
      | arr => exact ⟨ho, this.2⟩
      | bld s => exact ⟨ho, this.2.1, this.2.2.1, fun R hR => ⟨hrw g s R hg hR, (this.2.2.2 R hR).2⟩⟩
      | dead => trivial
    · cases b <;> first | trivial | simp [Bx.alive] at ha
  inj := h.inj
  pin := hpin
  marks := hm
  hid := h.hid
def okP (bx : Nat → Option Bx) : SV → Prop
  | .unk => True
  | .und => True
  | .iv _ => True
  | .nilS => True
  | .ptr g _ => bx g ≠ none
  | _ => False
theorem SR.okP {H H' : Heap} {β : Nat → Nat × Nat} {bx bx' : Nat → Option Bx} {v : Value} (hh : HLe H H') : ∀ {s : SV}, okP bx' s → SR H β bx v s → SR H' β bx' v s
  | .unk, _, _ => trivial
  | .und, _, h => h
  | .iv _, _, h => VR.mono hh h
  | .nilS, _, h => h
  | .ptr _ _, ho, h => ⟨ho, h.2⟩
def putsL (tm : Nat → SV) : List Nat → List IV → Nat → SV
  | p :: ps, y :: ys => putsL (upd tm p (.iv y)) ps ys
  | _, _ => tm
theorem Sim.puts {E : Env} {H : Heap} {β : Nat → Nat × Nat} {bx : Nat → Option Bx} {w : World} {nt : Nat} : ∀ {ps : List Nat} {ys : List IV} {vs : List Value} {tm : Nat → SV} {tmps : Array Value}, Sim E H β tm bx tmps w → tmps.size = nt → (∀ p ∈ ps, p < nt) → VRL H vs ys →
    Sim E H β (putsL tm ps ys) bx ((ps.zip vs).foldl (fun tmps p => tmps.setIfInBounds p.1 p.2) tmps) w ∧ ((ps.zip vs).foldl (fun tmps p => tmps.setIfInBounds p.1 p.2) tmps).size = nt
  | [], _, _, _, _, h, hs, _, _ => ⟨by simpa [putsL] using h, by simpa using hs⟩
  | p :: ps, [], _, _, _, h, hs, _, .nil => ⟨by simpa [putsL] using h, by simpa using hs⟩
  | p :: ps, y :: ys, _, tm, tmps, h, hs, hp, .cons v _ vs _ hv t => by
    simp only [putsL, List.zip_cons_cons, List.foldl_cons]
    exact Sim.puts (h.put (d := p) (by rw [hs]; exact hp p (by simp)) (r := .iv y) hv) (by rw [Array.size_setIfInBounds]; exact hs) (fun q hq => hp q (by simp [hq])) t
def Cx.any (X : Cx) : Cx := { X with ro := fun _ => True, r0 := trivial }
def cloB (bx : Nat → Option Bx) : List Nat → List IV → Prop
  | [], [] => True
  | g :: gs, z :: zs => bx g = some (.var z) ∧ cloB bx gs zs
  | _, _ => False
theorem cloB_brs {E : Env} {H : Heap} {β : Nat → Nat × Nat} {tm : Nat → SV} {bx : Nat → Option Bx} {tmps : Array Value} {w : World} (h : Sim E H β tm bx tmps w) {own : Nat → Prop} : ∀ {gs : List Nat} {zs : List IV}, cloB bx gs zs → (∀ g ∈ gs, own (β g).1) → BRs own w H (gs.map fun g => (β g).1) zs
  | [], [], _, _ => trivial
  | [], _ :: _, h, _ => h.elim
  | _ :: _, [], h, _ => h.elim
  | g :: gs, z :: zs, hc, ho => by
    refine ⟨?_, cloB_brs h hc.2 (fun g hg => ho g (by simp [hg]))⟩
    have := h.box g _ hc.1
    exact ⟨ho g (by simp), this.2⟩
theorem cloB_get {bx : Nat → Option Bx} : ∀ {gs : List Nat} {zs : List IV}, cloB bx gs zs → ∀ g ∈ gs, ∃ z, bx g = some (.var z)
  | [], _, _, g, hg => by cases hg
  | _ :: _, [], h, _, _ => h.elim
  | g :: gs, z :: zs, hc, g', hg => by
    rcases List.mem_cons.1 hg with rfl | hg
    · exact ⟨z, hc.1⟩
    · exact cloB_get hc.2 g' hg
def roundK (X : Cx) (nt : Nat) (body : Code) (bx' : Nat → Option Bx) : Exit → AS → Prop
  | .normal, σ => CW X.any nt body σ fun e σ' => e = .normal ∧ ∀ id b, bx' id = some b → σ'.bx id = some b
  | _, _ => False
structure RJ (X : Cx) (E : Env) (nt : Nat) (β : Nat → Nat × Nat) (tm : Nat → SV) (inv : Nat → Nat → Option Bx) (l : Nat) (fn : FuncId) (tmps : Array Value) (ps : Array Tmp) (assign body : Code) (own : Nat → Prop) (k : Nat) (H : Heap) (w : World) : Prop where
  sim : Sim E H β tm (inv k) tmps w
  rec' : Rec w l fn tmps ps assign body
  sub : ∀ b, own b → E.own b
  nl : ¬ own l
  el : E.own l
  bxs : ∀ g b, inv k g = some b → ¬ own (β g).1
  rws : ∀ g s R, inv k g = some (.bld s) → RowAt w (β g).1 R → ¬ own R
  mks : ∀ D, ({ target := .collected D, args := #[] } : Deferred) ∈ E.mrk → ¬ own D
theorem RJ.iter {X : Cx} {E : Env} {nt : Nat} {β : Nat → Nat × Nat} {tm : Nat → SV} {inv : Nat → Nat → Option Bx} {l : Nat} {fn : FuncId} {tmps : Array Value} {ps : Array Tmp} {assign body : Code} {ys : List (List IV)} {nx : Nat}
    (hI : ∀ w, BelowO E.own E.w0 w → X.I w) (hnt : tmps.size = nt) (hps : ∀ p ∈ ps.toList, p < nt) (hys : ∀ y ∈ ys, y.length = ps.size)
    (htm : ∀ k t, okP (inv k) (tm t)) (hal : ∀ k g b, inv k g = some b → b.alive = true ∧ pinId ≤ g ∧ g < pinId + 8) (hdom : ∀ k g, inv k g ≠ none → inv (k + 1) g ≠ none) (hdom' : ∀ k g, inv (k + 1) g ≠ none → inv k g ≠ none)
    (hround : ∀ k (hk : k < ys.length), CW X.any nt assign ⟨putsL tm ps.toList ys[k], inv k, nx⟩ (roundK X nt body (inv (k + 1)))) : IterJ X l ys (RJ X E nt β tm inv l fn tmps ps assign body) where
  inv own k H w w' h hb := hI _ (h.sim.below.trans (hb.mono h.sub))
  step own k H H' w w' h hb hh he := by
    refine ⟨h.sim.stand hb hh he h.sub (fun g b hg _ => h.bxs g b hg) h.rws h.mks, ?_, h.sub, h.nl, h.el, h.bxs, fun g s R hg hR => h.rws g s R hg (hR.same (hb.block _ (h.bxs g _ hg))), h.mks⟩
    obtain ⟨D, hD⟩ := h.rec'
    exact ⟨D, (hb.block l h.nl).trans hD⟩
  sub own own' k H w h hs := ⟨h.sim, h.rec', fun b hb => h.sub b (hs b hb), fun e => h.nl (hs _ e), h.el, fun g b hg e => h.bxs g b hg (hs _ e), fun g s R hg hR e => h.rws g s R hg hR (hs _ e), fun D hD e => h.mks D hD (hs _ e)⟩
  round own k H w args hk h hh hlo hargs := by
    obtain ⟨D, hD⟩ := h.rec'
    have hlen := hargs.length
    have hlt : l < w.heap.size := (Array.getElem?_eq_some_iff.1 hD).1
    have hsz : args.toArray.size = ps.size := by
      simp only [List.size_toArray, hlen]; exact hys _ (List.getElem_mem hk)
    refine ⟨fn, _, assign, body, run_yield hD hsz, ?_⟩
    refine roundIn_of_wpIn trivial ?_
    -- the blocks that the round may write
    let ow : Nat → Prop := fun b => E.own b ∧ ¬ (own b ∧ b < w.heap.size) ∧ b ≠ l ∧ ¬ ({ target := .collected b, args := #[] } : Deferred) ∈ E.mrk
    let pn : Nat → Option (Nat × Nat) := fun g => match inv k g with | some _ => some (β g) | none => none
    have mklt : ∀ D, ({ target := .collected D, args := #[] } : Deferred) ∈ E.mrk → w.heap[D]? = some (.deferred (some [])) := fun D hD => by
      obtain ⟨D', e, _, hb⟩ := h.sim.marks.2 _ hD
      cases e
      exact hb
    have olo : ∀ b, w.heap.size ≤ b → ow b := fun b hb => ⟨h.sim.lo b hb, fun ⟨_, h2⟩ => by omega, by omega, fun hm => by
      have := (Array.getElem?_eq_some_iff.1 (mklt b hm)).1
      omega⟩
    have obx : ∀ g b, inv k g = some b → b.alive = true → ow (β g).1 := fun g b hg ha => by
      obtain ⟨arr, e', hc⟩ := (h.sim.box g b hg).cells ha
      exact ⟨(h.sim.box g b hg).lo ha, fun ⟨h1, _⟩ => h.bxs g b hg h1, fun e => (by rw [e, hD] at hc; cases hc), fun hm => (by rw [mklt _ hm] at hc; cases hc)⟩
    have opn : ∀ g q, pn g = some q → β g = q ∧ inv k g ≠ none ∧ g < pinId + 8 ∧ pinId ≤ g := fun g q hq => by
      have hq' : (match inv k g with | some _ => some (β g) | none => none) = some q := hq
      cases hg : inv k g with
      | none => rw [hg] at hq'; cases hq'
      | some b =>
        rw [hg] at hq'
        have := hal k g b hg
        exact ⟨by simpa using hq', by simp, this.2.2, this.2.1⟩
    have orw : ∀ g s R, inv k g = some (.bld s) → RowAt w (β g).1 R → ow R := fun g s R hg hR => by
      have hb := h.sim.box g _ hg
      obtain ⟨_, _, arr, fz, hx⟩ := bld_row hb.2.2.1 hR
      exact ⟨(hb.2.2.2 R hR).1, fun ⟨h1, _⟩ => h.rws g s R hg hR h1, fun e => (by rw [e, hD] at hx; cases hx), fun hm => (by rw [mklt _ hm] at hx; cases hx)⟩
    have S1 := (h.sim.rebase (own := ow) (pin := pn) (M := []) obx orw olo opn (MarksOk.nil _ _))
    obtain ⟨S2, hs2⟩ := S1.puts (ps := ps.toList) (ys := ys[k]) (vs := args) hnt hps hargs
    have hI1 : ∀ w', BelowO ow w w' → X.I w' := fun w' hb => hI _ (h.sim.below.trans (hb.mono fun b hb => hb.1))
    have etm : (ps.zip args.toArray).foldl (fun tmps (t, a) => tmps.setIfInBounds t a) tmps = (ps.toList.zip args).foldl (fun tmps p => tmps.setIfInBounds p.1 p.2) tmps := by
      rw [← Array.foldl_toList, Array.toList_zip]
    have r1 := hround k hk ⟨some l, trivial⟩ ⟨ow, w, H, pn, []⟩ (Exit.then (fun a₁ w₁ => ∃ w₂, (Instr.beginRound l).run X.P w₁ = .ok () w₂ ∧ body.wpIn ((FW none).inRound l) 0 X.P (roundPost X.P l (fun e w' => e = .returned (.bool true) ∧ ∃ H', HeapHas w' H' ∧ HLe H H' ∧ w.heap.size ≤ w'.heap.size ∧ w'.os = w.os ∧ w'.tape = w.tape ∧ w'.output = w.output ∧
      (∀ b, own b → b < w.heap.size → w'.heap[b]? = w.heap[b]? ∧ (H b = none → H' b = none)) ∧ RJ X E nt β tm inv l fn tmps ps assign body (fun b => own b ∧ (b < w.heap.size ∨ w'.heap.size ≤ b)) (k + 1) H' w')) a₁ w₂) (fun _ _ _ => False)) hI1 ?_ [] H β
      { tmps := (ps.zip args.toArray).foldl (fun tmps (t, a) => tmps.setIfInBounds t a) tmps, defers := [] } w ⟨by rw [etm]; exact S2, rfl, by rw [etm]; exact hs2⟩
    · exact r1
    intro e σ' M1 H1 β1 a1 w1 hk1 hS1
    cases e with
    | normal => ?_
    | _ => exact hk1.elim
    have hw1 : w1.heap[l]? = w.heap[l]? := hS1.sim.below.block l (fun ho => ho.2.2.1 rfl)
    have hD1 := hw1.trans hD
    refine ⟨_, run_beginRound hD1 rfl, ?_⟩
    -- the body
    have T1 : Sim ⟨ow, w1, H1, pn, M1⟩ H1 β1 σ'.tm σ'.bx a1.tmps w1 := hS1.sim.rebase (fun g b hg ha => (hS1.sim.box g b hg).lo ha) (fun g s R hg hR => ((hS1.sim.box g _ hg).2.2.2 R hR).1) hS1.sim.lo hS1.sim.pin hS1.sim.marks
    let w2 := w1.putObj l (.loop { state := .busy, pending := none, fn, tmps, params := ps, assign, body, defers := D })
    have T2 : Sim ⟨fun b => ow b ∨ b = l, w1, H1, pn, M1⟩ H1 β1 σ'.tm σ'.bx a1.tmps w1 := hS1.sim.rebase (fun g b hg ha => .inl ((hS1.sim.box g b hg).lo ha)) (fun g s R hg hR => .inl ((hS1.sim.box g _ hg).2.2.2 R hR).1) (fun k hk => .inl (hS1.sim.lo k hk)) hS1.sim.pin
      ⟨hS1.sim.marks.1, fun d hd => by obtain ⟨D', e, ho, hb⟩ := hS1.sim.marks.2 d hd; exact ⟨D', e, .inl ho, hb⟩⟩
    have T3 : Sim ⟨fun b => ow b ∨ b = l, w1, H1, pn, M1⟩ H1 β1 σ'.tm σ'.bx a1.tmps w2 := T2.poke _ hD1 rfl (.inr rfl) (fun d hd e => by
      obtain ⟨D', e', ho, hb⟩ := hS1.sim.marks.2 d hd
      rw [e] at e'; cases e'
      rw [hD1] at hb; cases hb)
    have hne1 : ∀ g b, σ'.bx g = some b → b.alive = true → (β1 g).1 ≠ l := fun g b hg ha e => by
      obtain ⟨arr, e', hc⟩ := (hS1.sim.box g b hg).cells ha
      rw [e, hD1] at hc; cases hc
    have T4 : Sim ⟨ow, w2, H1, pn, M1⟩ H1 β1 σ'.tm σ'.bx a1.tmps w2 := T3.rebase (fun g b hg ha => (hS1.sim.box g b hg).lo ha) (fun g s R hg hR => ((hS1.sim.box g _ hg).2.2.2 R (hR.same (World.putObj_heap_other (hne1 g _ hg rfl)))).1) (fun k hk => hS1.sim.lo k (by simpa [w2] using hk)) T3.pin
      ⟨T3.marks.1, fun d hd => by
        obtain ⟨D', e, ho, hb⟩ := T3.marks.2 d hd
        refine ⟨D', e, ho.resolve_right (fun e' => ?_), hb⟩
        obtain ⟨D2, e2, ho2, hb2⟩ := hS1.sim.marks.2 d hd
        rw [e] at e2; cases e2
        rw [e', hD1] at hb2; cases hb2⟩
    have hI2 : ∀ w', BelowO ow w2 w' → X.I w' := fun w' hb => by
      refine hI _ (h.sim.below.trans ?_)
      have b1 : BelowO E.own w w1 := hS1.sim.below.mono (fun b hb => hb.1)
      have b2 : BelowO E.own w1 w2 := ⟨rfl, rfl, rfl, by simp [w2], fun b hb => World.putObj_heap_other (fun e => hb (by rw [e]; exact h.el))⟩
      exact b1.trans (b2.trans (hb.mono (fun b hb => hb.1)))
    refine hk1 ⟨some l, trivial⟩ ⟨ow, w2, H1, pn, []⟩ _ hI2 ?_ M1 H1 β1 a1 w2 ⟨T4, hS1.defers, hS1.size⟩
    intro e3 σ3 M3 H3 β3 a3 w3 hk3 hS3
    obtain ⟨rfl, hk3⟩ := hk3
    have hD3 : w3.heap[l]? = some (.loop { state := .busy, pending := none, fn, tmps, params := ps, assign, body, defers := D }) := by
      rw [hS3.sim.below.block l (fun ho => ho.2.2.1 rfl)]
      exact World.putObj_heap_same (Array.getElem?_eq_some_iff.1 hD1).1
    refine ⟨_, _, run_endRound none hD3, rfl, H3, ?_⟩
    have nl3 : ∀ b arr, H3 b = some arr → b ≠ l := fun b arr hb e => by
      obtain ⟨t, fr, ht⟩ := hS3.sim.has b arr hb
      rw [e, hD3] at ht; cases ht
    have hle : HLe H H3 := hS1.sim.ext.1.trans hS3.sim.ext.1
    have hsz2 : w2.heap.size = w1.heap.size := by simp [w2]
    have hsz3 : w.heap.size ≤ w3.heap.size := Nat.le_trans hS1.sim.below.size (by have : w2.heap.size ≤ w3.heap.size := hS3.sim.below.size; omega)
    have hout : ∀ b, ¬ ow b → b ≠ l → w3.heap[b]? = w.heap[b]? := fun b hb hbl => by
      rw [hS3.sim.below.block b hb, show w2.heap[b]? = w1.heap[b]? from World.putObj_heap_other hbl, hS1.sim.below.block b hb]
    have hext : ∀ b arr, H3 b = some arr → H b = some arr ∨ ow b := fun b arr hb => by
      rcases hS3.sim.ext.2 b arr hb with h1 | h1
      · exact hS1.sim.ext.2 b arr h1
      · exact .inr h1
    have hβ : ∀ g b, inv k g = some b → β3 g = β g := fun g b hg => (hS3.sim.pin g (β g) (by show (match inv k g with | some _ => some (β g) | none => none) = _; rw [hg])).1
    have hinv : ∀ g b, inv (k + 1) g = some b → ∃ b0, inv k g = some b0 := fun g b hg => by
      cases hx : inv k g with
      | none => exact absurd hx (hdom' k g (by rw [hg]; simp))
      | some b0 => exact ⟨b0, rfl⟩
    have hb4 : BelowO E.own w (w3.putObj l (.loop { state := .ready, pending := none, fn, tmps, params := ps, assign, body, defers := D })) := by
      have b1 : BelowO E.own w w1 := hS1.sim.below.mono (fun b hb => hb.1)
      have b2 : BelowO E.own w1 w2 := ⟨rfl, rfl, rfl, by simp [w2], fun b hb => World.putObj_heap_other (fun e => hb (by rw [e]; exact h.el))⟩
      have b3 : BelowO E.own w2 w3 := hS3.sim.below.mono (fun b hb => hb.1)
      have b4 : BelowO E.own w3 (w3.putObj l (.loop { state := .ready, pending := none, fn, tmps, params := ps, assign, body, defers := D })) := ⟨rfl, rfl, rfl, by simp, fun b hb => World.putObj_heap_other (fun e => hb (by rw [e]; exact h.el))⟩
      exact b1.trans (b2.trans (b3.trans b4))
    refine ⟨fun b arr hb => ?_, hle, by simpa using hsz3, hb4.os, hb4.tape, hb4.output, fun b hb hbw => ⟨?_, fun hn => ?_⟩, ?_⟩
    · obtain ⟨t, fr, ht⟩ := hS3.sim.has b arr hb
      exact ⟨t, fr, (World.putObj_heap_other (nl3 b arr hb)).trans ht⟩
    · have hbl : b ≠ l := fun e => h.nl (by rw [← e]; exact hb)
      exact (World.putObj_heap_other hbl).trans (hout b (fun ho => ho.2.1 ⟨hb, hbw⟩) hbl)
    · cases hx : H3 b with
      | none => rfl
      | some arr =>
        rcases hext b arr hx with h1 | h1
        · rw [hn] at h1; cases h1
        · exact absurd ⟨hb, hbw⟩ h1.2.1
    · refine ⟨?_, ⟨D, World.putObj_heap_same (Array.getElem?_eq_some_iff.1 hD3).1⟩, fun b hb => h.sub b hb.1, fun hb => h.nl hb.1, h.el, fun g b hg hb => ?_, fun g s R hg hR hb => ?_, fun D' hD' hb => h.mks D' hD' hb.1⟩
      · refine ⟨fun b arr hb => ?_, h.sim.below.trans hb4, fun b hb => h.sim.lo b (Nat.le_trans hsz3 (by simpa using hb)), h.sim.ext.step (own' := ow) ⟨hle, hext⟩ (fun b hb => hb.1), fun t => (h.sim.slot t).okP hle (htm (k + 1) t), fun g b hg => ?_, fun g g' b b' hg hg' ha ha' e => ?_, fun g q hq => ?_, ⟨h.sim.marks.1, fun d hd => ?_⟩, fun g s g' b R hg hg' ha hR => ?_⟩
        · obtain ⟨t, fr, ht⟩ := hS3.sim.has b arr hb
          exact ⟨t, fr, (World.putObj_heap_other (nl3 b arr hb)).trans ht⟩
        · obtain ⟨b0, hb0⟩ := hinv g b hg
          have ha := (hal (k + 1) g b hg).1
          have hbr := hS3.sim.box g b (hk3 g b hg)
          have hcell := hbr.cells ha
          rw [hβ g b0 hb0] at hbr hcell
          refine (hbr.own_mono (fun b hb => hb.1)).keep (World.putObj_heap_other fun e => ?_) (HLe.refl _) id (fun s R eb hR => ⟨World.putObj_heap_other fun e => ?_, id⟩)
          · obtain ⟨arr, e', hc⟩ := hcell
            rw [e, hD3] at hc; cases hc
          · subst eb
            obtain ⟨_, _, arr, fz, hx⟩ := bld_row hbr.2.2.1 hR
            rw [e, hD3] at hx; cases hx
        · obtain ⟨b0, hb0⟩ := hinv g b hg
          obtain ⟨b0', hb0'⟩ := hinv g' b' hg'
          rw [← hβ g b0 hb0, ← hβ g' b0' hb0'] at e
          exact hS3.sim.inj g g' b b' (hk3 g b hg) (hk3 g' b' hg') ha ha' e
        · obtain ⟨p1, p2, p3⟩ := h.sim.pin g q hq
          exact ⟨p1, hdom k g p2, p3⟩
        · obtain ⟨D', e, ho, hb⟩ := h.sim.marks.2 d hd
          have hDl : D' ≠ l := fun e' => by rw [e', hD] at hb; cases hb
          refine ⟨D', e, ho, (World.putObj_heap_other hDl).trans ((hout D' (fun ho' => ho'.2.2.2 (e ▸ hd)) hDl).trans hb)⟩
        · obtain ⟨b0, hb0⟩ := hinv g _ hg
          obtain ⟨b0', hb0'⟩ := hinv g' b hg'
          have hbr := hS3.sim.box g _ (hk3 g _ hg)
          rw [← hβ g b0 hb0] at hR
          rw [← hβ g' b0' hb0']
          refine hS3.sim.hid g s g' b R (hk3 g _ hg) (hk3 g' b hg') ha (hR.same (World.putObj_heap_other fun e => ?_))
          obtain ⟨arr, e', hc⟩ := hbr.cells rfl
          rw [e, hD3] at hc; cases hc
      · obtain ⟨b0, hb0⟩ := hinv g b hg
        exact h.bxs g b0 hb0 hb.1
      · obtain ⟨b0, hb0⟩ := hinv g _ hg
        have hbr := hS3.sim.box g _ (hk3 g _ hg)
        rw [← hβ g b0 hb0] at hR
        have hR3 : RowAt w3 (β3 g).1 R := hR.same (World.putObj_heap_other fun e => by
          obtain ⟨arr, e', hc⟩ := hbr.cells rfl
          rw [e, hD3] at hc; cases hc)
        have hlt := (bld_row hbr.2.2.1 hR3).1
        have how := (hbr.2.2.2 R hR3).1
        rcases hb.2 with h1 | h1
        · exact how.2.1 ⟨hb.1, h1⟩
        · have h1 : w3.heap.size ≤ R := by simpa using h1
          omega
theorem CW.range {X : Cx} {nt : Nat} {σ : AS} {K : Exit → AS → Prop} (hro : ∀ r, X.ro r → r = none) {g : Operand} {ps : Array Tmp} {assign body : Code} {f : FuncId} {gs : List Nat} {zs : List IV} {ys : List (List IV)} (hg : evS σ.tm g = .clo f gs) (hz : cloB σ.bx gs zs) (hgs : gs.Pairwise (· ≠ ·))
    (hit : IterC X f zs ys) (tm : Nat → SV) (inv : Nat → Nat → Option Bx) {nx : Nat} (hps : ∀ p ∈ ps.toList, p < nt) (hys : ∀ y ∈ ys, y.length = ps.size)
    (h0 : ∀ t, tm t = .unk ∨ σ.tm t = tm t) (htm : ∀ k t, okP (inv k) (tm t)) (hb0 : ∀ g b, inv 0 g = some b → σ.bx g = some b) (hdj : ∀ id ∈ gs, inv 0 id = none)
    (hal : ∀ k g b, inv k g = some b → b.alive = true ∧ pinId ≤ g ∧ g < pinId + 8) (hdom : ∀ k g, inv k g ≠ none ↔ inv (k + 1) g ≠ none) (hpinned : ∀ i, i < 8 → σ.bx (pinId + i) ≠ none → inv 0 (pinId + i) ≠ none)
    (hround : ∀ k (hk : k < ys.length), CW X.any nt assign ⟨putsL tm ps.toList ys[k], inv k, nx⟩ (roundK X nt body (inv (k + 1)))) (hend : K .normal ⟨tm, inv ys.length, nx⟩) : CW X nt (.rangeFunc g ps assign body) σ K := by
  intro ro E Q hI hQ M H β a w hS
  have er := hro ro.1 ro.2
  rw [er]
  refine wpIn_rangeFunc fun fn _ => ?_
  obtain ⟨⟨fn', hf1, hf2, hf3⟩, hcall⟩ := hit
  let w1 : World := (w.alloc (.deferred (some []))).alloc (.loop { state := .ready, pending := none, fn, tmps := a.tmps, params := ps, assign, body, defers := w.heap.size })
  have hv := ev_ok hS.sim rfl g
  rw [hg] at hv
  obtain ⟨hv1, hv2⟩ := hv
  let bs := gs.map fun g => (β g).1
  have hbel : Below w.heap.size w w1 := ((Below.refl _ _).alloc (Nat.le_refl _) _).alloc (by simp) _
  have hw1l : w1.heap[w.heap.size + 1]? = some (.loop { state := .ready, pending := none, fn, tmps := a.tmps, params := ps, assign, body, defers := w.heap.size }) := by
    have := World.alloc_heap_new (w.alloc (.deferred (some []))) (.loop { state := .ready, pending := none, fn, tmps := a.tmps, params := ps, assign, body, defers := w.heap.size })
    rwa [World.size_alloc] at this
  have hw1D : w1.heap[w.heap.size]? = some (.deferred (some [])) :=
    (Below.heap_alloc (w.alloc (.deferred (some []))) _ w.heap.size (by simp)).trans (World.alloc_heap_new w _)
  have hsz1 : w1.heap.size = w.heap.size + 2 := by simp [w1]
  have G1 := hS.sim.grow hbel (fun b arr hb => by
    obtain ⟨t, fr, ht⟩ := hS.sim.has b arr hb
    exact ⟨t, fr, (hbel.block b (hS.sim.has.lt hb)).trans ht⟩) (HExt.refl _ _)
  let M' : List Deferred := { target := .collected w.heap.size, args := #[] } :: M
  have G2 : Sim (E.mks M') H β tm (inv 0) a.tmps w1 := by
    refine ⟨G1.has, G1.below, G1.lo, G1.ext, fun t => ?_, fun g b hb => G1.box g b (hb0 g b hb), fun g g' b b' h1 h2 => G1.inj g g' b b' (hb0 g b h1) (hb0 g' b' h2), fun g q hq => ?_, ?_, ?_⟩
    · rcases h0 t with e | e
      · rw [e]; trivial
      · have := G1.slot t
        rw [e] at this
        exact this.okP (HLe.refl _) (htm 0 t)
    · obtain ⟨p1, p2, p3, p4⟩ := G1.pin g q hq
      have hh := hpinned (g - pinId) (by omega)
      rw [show pinId + (g - pinId) = g by omega] at hh
      exact ⟨p1, hh p2, p3, p4⟩
    rotate_left
    · exact fun g s g' b R h1 h2 ha hR => G1.hid g s g' b R (hb0 g _ h1) (hb0 g' b h2) ha hR
    · refine ⟨List.pairwise_cons.2 ⟨fun d hd e => ?_, G1.marks.1⟩, fun d hd => ?_⟩
      · obtain ⟨D, e', _, hb⟩ := hS.sim.marks.2 d hd
        rw [← e] at e'; cases e'
        have := (Array.getElem?_eq_some_iff.1 hb).1
        omega
      · rcases List.mem_cons.1 hd with rfl | hd
        · exact ⟨_, rfl, hS.sim.lo _ (Nat.le_refl _), hw1D⟩
        · exact G1.marks.2 d hd
  refine ⟨w.heap.size + 1, [{ target := .collected w.heap.size, args := #[] }], w1, { target := .fn (.func f) (bs.map fun b => Value.pointer (some ⟨b, 0, none⟩)).toArray, args := #[yieldV (w.heap.size + 1)] }, w1, f, (yieldV (w.heap.size + 1) :: bs.map fun b => Value.pointer (some ⟨b, 0, none⟩)).toArray, w1, ?_, ?_, fun _ _ => trivial, ?_, fun e => (by cases e), ?_⟩
  · exact run_enterLoop_outer fn a.tmps ps assign body
  · simp only [resolve, hv2, Deferred.ofValue, Sem.run_pure]
    simp [Act.eval, yieldV, bs]
  · simp only [invoke, callFunc, Sem.run_bind, run_program, Result.andThen_ok, hf1, hf2, hf3, Bool.false_eq_true, if_false, Sem.run_pure]
    congr 2
    apply Array.ext'
    simp
  · refine (hcall (w.heap.size + 1) (RJ X (E.mks M') nt β tm inv (w.heap.size + 1) fn a.tmps ps assign body) (fun b => b ∈ bs ∨ w1.heap.size ≤ b) H w1 bs
      (RJ.iter hI hS.size hps hys htm hal (fun k g => (hdom k g).1) (fun k g => (hdom k g).2) hround) ?_ G2.has (fun b hb => .inr hb) ?_ ?_).mono ?_
    · have hbs : ∀ b ∈ bs, b < w.heap.size ∧ E.own b := fun b hb => by
        obtain ⟨g', hg', rfl⟩ := List.mem_map.1 hb
        obtain ⟨z, hz'⟩ := cloB_get hz g' hg'
        exact ⟨(hS.sim.box g' _ hz').lt rfl, (hS.sim.box g' _ hz').lo rfl⟩
      refine ⟨G2, ⟨_, hw1l⟩, fun b hb => hb.elim (fun h => (hbs b h).2) (fun h => G1.lo b h), fun hb => hb.elim (fun h => by have := (hbs _ h).1; omega) (fun h => by omega), hS.sim.lo _ (by omega), fun g' b hg' hb => ?_, fun g' s R hg' hR hb => ?_, fun D hD hb => ?_⟩
      · have hbx := hb0 g' b hg'
        have ha := (hal 0 g' b hg').1
        rcases hb with hb | hb
        · obtain ⟨g2, hg2, e⟩ := List.mem_map.1 hb
          obtain ⟨z, hz'⟩ := cloB_get hz g2 hg2
          have := hS.sim.inj g2 g' _ b hz' hbx rfl ha e
          subst this
          rw [hdj g2 hg2] at hg'; cases hg'
        · have := (G1.box g' b hbx).lt ha
          omega
      · have hbx := hb0 g' _ hg'
        rcases hb with hb | hb
        · obtain ⟨g2, hg2, e⟩ := List.mem_map.1 hb
          obtain ⟨z, hz'⟩ := cloB_get hz g2 hg2
          exact G1.hid g' s g2 _ R hbx hz' rfl hR e
        · have := (bld_row (G1.box g' _ hbx).2.2.1 hR).1
          omega
      · obtain ⟨D', e, _, hx⟩ := G2.marks.2 _ hD
        cases e
        have hlt := (Array.getElem?_eq_some_iff.1 hx).1
        rcases hb with hb | hb
        · obtain ⟨g2, hg2, e⟩ := List.mem_map.1 hb
          obtain ⟨z, hz'⟩ := cloB_get hz g2 hg2
          obtain ⟨arr, e', hc⟩ := (G1.box g2 _ hz').cells rfl
          rw [e, hx] at hc; cases hc
        · omega
    · exact cloB_brs G1 hz (fun g' hg' => .inl (List.mem_map.2 ⟨g', hg', rfl⟩))
    · refine List.pairwise_map.2 (hgs.imp_of_mem fun {x y} hx hy hne e => hne ?_)
      obtain ⟨z1, hz1⟩ := cloB_get hz x hx
      obtain ⟨z2, hz2⟩ := cloB_get hz y hy
      exact hS.sim.inj x y _ _ hz1 hz2 rfl rfl e
    · rintro e w3 ⟨v, own', H3, rfl, hh3, hJ⟩
      obtain ⟨D3, hD3⟩ := hJ.rec'
      refine ⟨none, _, run_endLoop hD3 (by simp), ?_⟩
      refine hQ .normal ⟨tm, inv ys.length, nx⟩ M' H3 β _ _ hend ⟨hJ.sim.poke _ hD3 rfl hJ.el (fun d hd e => ?_), ?_, hS.size⟩
      · obtain ⟨D', e', _, hb⟩ := hJ.sim.marks.2 d hd
        rw [e] at e'; cases e'
        rw [hD3] at hb; cases hb
      · show _ ++ a.defers = _
        rw [hS.defers]; rfl
end Go.Proofs.Fl
namespace Go.Proofs.Fl
open Go.RowKit
structure Keep where
  I : World → Prop
  bel : ∀ n w w', I w → w.heap.size ≤ n → Below n w w' → I w'
  ro : Option Nat → Prop
  r0 : ro none
def Keep.top (J : Keep) : Keep := ⟨J.I, J.bel, fun r => r = none, rfl⟩
def Keep.any (J : Keep) : Keep := ⟨J.I, J.bel, fun _ => True, trivial⟩
noncomputable def cx (J : Keep) : Cx := ⟨Tryz.prog, J.I, TT, TT_ok, by kernel_rfl, J.bel, fun f => Nat.beq f 211 || Nat.beq f 212, fun f => Nat.beq f 192 || Nat.beq f 151, J.ro, J.r0⟩
abbrev C (J : Keep) : FuncId → List IV → IV → Prop := PureC Tryz.prog J.I
def regOk (nt : Nat) (all : Array Oper) (draw : Bool) : Bool := dstsOk nt all.toList && (!draw || flowOk all (ancs all.toList))
def W (J : Keep) (nt : Nat) (c : Code) (σ : AS) (K : Exit → AS → Prop) : Prop := CW (cx J) nt c σ K
def wK (J : Keep) (nt : Nat) (y : Code) (K : Exit → AS → Prop) : Exit → AS → Prop
  | .normal, σ => W J nt y σ K
  | e, σ => K e σ
section
variable {J : Keep} {nt : Nat} {σ : AS} {K : Exit → AS → Prop}
theorem fn_ok {f : FuncId} {fn : Func} {c : Code} (hf : Tryz.prog.funcs[f]? = some fn) (hb : fn.body = some c) (hn : (fn.name == "runtime.NumGoroutine") = false) {xs : List IV} {r : IV} (hx : Nat.ble xs.length fn.ntmps = true)
    (h : W J fn.ntmps c ⟨argS xs, fun _ => none, 0⟩ (retK TT fn.results.toList r)) : C J f xs r :=
  pure_of (X := cx J) hf hb hn (Nat.le_of_ble_eq_true hx) h
theorem fm_ok {f : FuncId} {fn : Func} {c : Code} (hf : Tryz.prog.funcs[f]? = some fn) (hb : fn.body = some c) (hn : (fn.name == "runtime.NumGoroutine") = false) {e : TypeId} {sz off n : Nat} {es es' xs : List IV} {r : IV} (hx : Nat.ble (xs.length + 1) fn.ntmps = true)
    (h : W J fn.ntmps c ⟨argM off n xs, tbB [(pinId, .arr e sz es false)], 0⟩ (retM TT fn.results.toList (.arr e sz es' false) r)) : MutC Tryz.prog J.I f e sz off n es xs es' r :=
  mut_of (X := cx J) hf hb hn (Nat.le_of_ble_eq_true hx) h
theorem W.R {id : Nat} {all : Array Oper} {draw : Bool} (h0 : regOk nt all draw = true) (h : regP (cx J) all draw σ (K .normal)) : W J nt (.region id all draw) σ K := by
  simp only [regOk, Bool.and_eq_true, Bool.or_eq_true] at h0
  exact CW.region h0.1 (fun e => h0.2.resolve_left (by subst e; simp)) h
theorem W.S {x y : Code} (h : W J nt x σ (wK J nt y K)) : W J nt (.seq x y) σ K := CW.seq (CW.mono h fun e σ k => by cases e <;> exact k)
theorem W.RS {id : Nat} {all : Array Oper} {draw : Bool} {y : Code} (h0 : regOk nt all draw = true) (h : regP (cx J) all draw σ fun σ' => W J nt y σ' K) : W J nt (.seq (.region id all draw) y) σ K :=
  W.S (W.R h0 h)
theorem W.skip (h : K .normal σ) : W J nt .skip σ K := CW.skip h
theorem W.ret (h : K .ret σ) : W J nt .ret σ K := CW.ret h
theorem W.exit {id : Nat} (h : K (.exit id) σ) : W J nt (.exit id) σ K := CW.exit h
theorem W.cond {c : Operand} {x y : Code} {t : Bool} (hc : evS σ.tm c = .iv (.bool t)) (h1 : t = true → W J nt x σ K) (h2 : t = false → W J nt y σ K) : W J nt (.cond c x y) σ K := CW.cond hc h1 h2
theorem W.block {id : Nat} {c : Code} (h : W J nt c σ (blockK id K)) : W J nt (.block id c) σ K := CW.block h
theorem W.weak {c : Code} {σ' : AS} (hw : Wk σ σ') (h : W J nt c σ' K) : W J nt c σ K := CW.weak hw h
theorem W.loop {G : Type} (inv : G → AS) (μ : G → Nat) {c : Code} (g0 : G) (h0 : Wk σ (inv g0)) (h : ∀ g, W J nt c (inv g) (loopK inv μ g K)) : W J nt (.loop c) σ K := CW.loop inv μ g0 h0 h
theorem W.join {G : Type} (inv : G → AS) {x y : Code} (h1 : W J nt x σ (joinK inv K)) (h2 : ∀ g, W J nt y (inv g) K) : W J nt (.seq x y) σ K := CW.join inv h1 h2
theorem W.condT {c : Operand} {x y : Code} (hc : evS σ.tm c = .iv (.bool true)) (h : W J nt x σ K) : W J nt (.cond c x y) σ K := W.cond hc (fun _ => h) (fun e => by cases e)
theorem W.condF {c : Operand} {x y : Code} (hc : evS σ.tm c = .iv (.bool false)) (h : W J nt y σ K) : W J nt (.cond c x y) σ K := W.cond hc (fun e => by cases e) (fun _ => h)
end
attribute [irreducible] W
theorem w64 {a : Int} (h : -9223372036854775808 ≤ a ∧ a ≤ 9223372036854775807) : IntKind.wrap .i64 a = a := by
  show (let m := a % (18446744073709551616 : Int); if true && decide (m ≥ (9223372036854775808 : Int)) then m - (18446744073709551616 : Int) else m) = a
  by_cases h0 : a % (18446744073709551616 : Int) ≥ 9223372036854775808
  · simp [h0]; omega
  · simp [h0]; omega
theorem w32 {a : Int} (h : 0 ≤ a ∧ a ≤ 4294967295) : IntKind.wrap .u32 a = a := by
  show (let m := a % (4294967296 : Int); if false && decide (m ≥ (2147483648 : Int)) then m - (4294967296 : Int) else m) = a
  simp; omega
theorem wu64 {a : Int} (h : 0 ≤ a ∧ a ≤ 18446744073709551615) : IntKind.wrap .u64 a = a := by
  show (let m := a % (18446744073709551616 : Int); if false && decide (m ≥ (9223372036854775808 : Int)) then m - (18446744073709551616 : Int) else m) = a
  simp; omega
end Go.Proofs.Fl
namespace Go.Proofs.Fl
open Go.RowKit
def makK (rs : List ResultVar) (f' : FuncId) (zs : List IV) : Exit → AS → Prop
  | .ret, σ => match rs with
    | [.tmp t] => match σ.tm t with
      | .clo f gs => f = f' ∧ cloB σ.bx gs zs ∧ gs.Pairwise (· ≠ ·)
      | _ => False
    | _ => False
  | _, _ => False
theorem make_of {X : Cx} {f f' : FuncId} {fn : Func} {c : Code} (hf : X.P.funcs[f]? = some fn) (hb : fn.body = some c) (hn : (fn.name == "runtime.NumGoroutine") = false) {xs zs : List IV} (hx : xs.length ≤ fn.ntmps)
    (h : CW X fn.ntmps c ⟨argS xs, fun _ => none, 0⟩ (makK fn.results.toList f' zs)) : MakC X.P X.I f xs f' zs := by
  refine ⟨⟨fn, hf, hn, by rw [hb]; rfl⟩, fun H w args hI hH hargs => ?_⟩
  have hlen := hargs.length
  refine (callsIn_wide (n := 0)).1 (callsIn_of_wp_marks hf hb trivial ?_)
  refine h ⟨none, X.r0⟩ ⟨fun k => w.heap.size ≤ k, w, H, fun _ => none, []⟩ _ (fun w' hw' => X.bel _ _ _ hI (Nat.le_refl _) hw'.below) (fun e σ' M H' β a0 w0 k hS0 => ?_) [] H (fun _ => (0, 0)) _ w ⟨⟨hH, BelowO.refl _ _, fun _ hk => hk, HExtO.refl _ _, fun t => ?_, fun g b hg => (by cases hg), fun g g' b b' hg => (by cases hg), fun p k hk => (by cases hk), MarksOk.nil _ _, fun g s g' b R hg => (by cases hg)⟩, rfl, ?_⟩
  · cases e with
    | ret =>
      simp only [makK] at k
      split at k
      · rename_i t hrs
        split at k
        · rename_i f1 gs ht
          obtain ⟨rfl, hc, hp⟩ := k
          show LeavesInM (FW none) 0 X.P fn a0.tmps (fun e w' => ∃ (bs : List Nat) (H' : Heap), e = .returned (cloV f1 bs) ∧ HeapHas w' H' ∧ HExt w.heap.size H H' ∧ Below w.heap.size w w' ∧ bs.Pairwise (· ≠ ·) ∧ BRs (fun k => w.heap.size ≤ k) w' H' bs zs) a0.defers .returning w0
          rw [hS0.defers]
          refine leavesM M hS0 fun a' w' hS _ => ?_
          have hv := hS.sim.slot t
          rw [ht] at hv
          obtain ⟨_, hv⟩ := hv
          have hr : fn.results = #[.tmp t] := Array.ext' hrs
          refine ⟨_, results_tmp hr a'.tmps X.P w', gs.map fun g => (β g).1, H', ?_, hS.sim.has, hS.sim.ext, hS.sim.below.below, ?_, ?_⟩
          · rw [hv, cloV, List.map_map]; rfl
          · refine List.pairwise_map.2 (hp.imp_of_mem fun {x y} hx hy hne e => hne ?_)
            obtain ⟨z1, hz1⟩ := cloB_get hc x hx
            obtain ⟨z2, hz2⟩ := cloB_get hc y hy
            exact hS.sim.inj x y _ _ hz1 hz2 rfl rfl e
          · exact cloB_brs hS.sim hc (fun g hg => by obtain ⟨z, hz⟩ := cloB_get hc g hg; exact (hS.sim.box g _ hz).lo rfl)
        · exact k.elim
      · exact k.elim
    | _ => exact k.elim
  · show SR _ _ _ _ (argS xs t)
    rw [argS_get]
    cases hx' : xs[t]? with
    | some x =>
      have hlt : t < args.length := by rw [hlen]; exact (List.getElem?_eq_some_iff.1 hx').1
      obtain ⟨v, h1, h2⟩ := hargs.get t x hx'
      have : (args.toArray ++ Array.replicate (fn.ntmps - args.toArray.size) undef).getD t undef = v := by
        simp [Array.getElem?_append, hlt]
        exact (List.getElem?_eq_some_iff.1 h1).2
      rw [this]; exact h2
    | none =>
      have hge : ¬ t < args.length := by
        intro hlt
        rw [hlen] at hlt
        simp [hlt] at hx'
      show _ = undef
      simp [Array.getElem?_append, hge, Array.getElem?_replicate]
      split <;> rfl
  · show (args.toArray ++ Array.replicate (fn.ntmps - args.toArray.size) undef).size = fn.ntmps
    simp; omega
section
variable (X : Cx) (nt l : Nat) (J : (Nat → Prop) → Nat → Heap → World → Prop)
def YS (own : Nat → Prop) (H : Heap) (β : Nat → Nat × Nat) (a : Act) (w : World) (σ : AS) (k : Nat) : Prop :=
  (∃ M, St ⟨own, w, H, fun _ => none, M⟩ nt H β σ.tm σ.bx a w) ∧ J own k H w
def WY (c : Code) (σ : AS) (k : Nat) (K : Exit → AS → Nat → Prop) : Prop :=
  ∀ Q : Exit → Act → World → Prop, (∀ e σ' k' own H β a w, K e σ' k' → YS nt J own H β a w σ' k' → Q e a w) → ∀ own H β a w, YS nt J own H β a w σ k → c.wpIn (FW none) 0 X.P Q a w
def thenY (y : Code) (K : Exit → AS → Nat → Prop) : Exit → AS → Nat → Prop
  | .normal, σ, k => WY X nt J y σ k K
  | e, σ, k => K e σ k
def blockY (id : Nat) (K : Exit → AS → Nat → Prop) : Exit → AS → Nat → Prop
  | .exit i, σ, k => bif Nat.beq i id then K .normal σ k else K (.exit i) σ k
  | e, σ, k => K e σ k
def loopY {G : Type} (inv : G → AS) (κ : G → Nat) (μ : G → Nat) (g : G) (K : Exit → AS → Nat → Prop) : Exit → AS → Nat → Prop
  | .normal, σ, k => ∃ g', Wk σ (inv g') ∧ k = κ g' ∧ μ g' < μ g
  | e, σ, k => K e σ k
end
section
variable {X : Cx} {nt l : Nat} {ys : List (List IV)} {J : (Nat → Prop) → Nat → Heap → World → Prop} {σ : AS} {k : Nat} {K : Exit → AS → Nat → Prop}
theorem WY.lift (hJ : IterJ X l ys J) {c : Code} (h : CW X nt c σ (fun e σ' => K e σ' k)) : WY X nt J c σ k K := by
  rintro Q hQ own H β a w ⟨⟨M, hS⟩, hj⟩
  refine h ⟨none, X.r0⟩ ⟨own, w, H, fun _ => none, []⟩ Q (fun w' hb => hJ.inv _ _ _ _ _ hj hb) (fun e σ' M' H' β' a' w' hk hS' => hQ e σ' k own H' β' a' w' hk ⟨⟨M', ?_, hS'.defers, hS'.size⟩, hJ.step own k H H' w w' hj hS'.sim.below hS'.sim.has hS'.sim.ext⟩) M H β a w hS
  exact hS'.sim.rebase (fun g b hg ha => (hS'.sim.box g b hg).lo ha) (fun g s R hg hR => ((hS'.sim.box g _ hg).2.2.2 R hR).1) hS'.sim.lo hS'.sim.pin hS'.sim.marks
theorem WY.skip (h : K .normal σ k) : WY X nt J .skip σ k K := fun _ hQ own H β a w hS => wpIn_skip (hQ _ _ _ own H β a w h hS)
theorem WY.ret (h : K .ret σ k) : WY X nt J .ret σ k K := fun _ hQ own H β a w hS => wpIn_ret (hQ _ _ _ own H β a w h hS)
theorem WY.exit {id : Nat} (h : K (.exit id) σ k) : WY X nt J (.exit id) σ k K := fun _ hQ own H β a w hS => wpIn_exit (hQ _ _ _ own H β a w h hS)
theorem WY.S {x y : Code} (h : WY X nt J x σ k (thenY X nt J y K)) : WY X nt J (.seq x y) σ k K := fun Q hQ own H β a w hS =>
  wpIn_seq (h _ (fun e σ' k' own H β a w hk hS => by
    cases e with
    | normal => exact hk Q hQ own H β a w hS
    | _ => exact hQ _ _ _ own H β a w hk hS) own H β a w hS)
theorem WY.cond {c : Operand} {x y : Code} {t : Bool} (hc : evS σ.tm c = .iv (.bool t)) (h1 : t = true → WY X nt J x σ k K) (h2 : t = false → WY X nt J y σ k K) : WY X nt J (.cond c x y) σ k K := fun Q hQ own H β a w hS => by
  obtain ⟨⟨M, hs⟩, hj⟩ := hS
  have hv := ev_ok hs.sim rfl c
  rw [hc] at hv
  exact wpIn_cond_split (VR.asBool hv) (fun e => h1 e Q hQ own H β a w ⟨⟨M, hs⟩, hj⟩) (fun e => h2 e Q hQ own H β a w ⟨⟨M, hs⟩, hj⟩)
theorem WY.block {id : Nat} {c : Code} (h : WY X nt J c σ k (blockY id K)) : WY X nt J (.block id c) σ k K := fun Q hQ own H β a w hS =>
  wpIn_block (h _ (fun e σ' k' own H β a w hk hS => by
    cases e with
    | exit i =>
      simp only [blockY] at hk
      simp only [Exit.inBlock]
      by_cases hi : i = id
      · subst hi
        rw [Nat.beq_refl] at hk
        simp only [if_true]
        exact hQ _ _ _ own H β a w hk hS
      · have hb : Nat.beq i id = false := by
          cases hb : Nat.beq i id
          · rfl
          · exact absurd (Nat.eq_of_beq_eq_true hb) hi
        rw [hb] at hk
        simp only [hi, if_false]
        exact hQ _ _ _ own H β a w hk hS
    | _ => exact hQ _ _ _ own H β a w hk hS) own H β a w hS)
theorem YS.weak {own : Nat → Prop} {H : Heap} {β : Nat → Nat × Nat} {a : Act} {w : World} {σ' : AS} (h : YS nt J own H β a w σ k) (hw : Wk σ σ') : ∃ β', YS nt J own H β' a w σ' k := by
  obtain ⟨⟨M, hs⟩, hj⟩ := h
  obtain ⟨β', hs'⟩ := hs.weak hw
  exact ⟨β', ⟨M, hs'⟩, hj⟩
theorem WY.loop {G : Type} (inv : G → AS) (κ : G → Nat) (μ : G → Nat) {c : Code} (g0 : G) (h0 : Wk σ (inv g0)) (hk0 : k = κ g0) (h : ∀ g, WY X nt J c (inv g) (κ g) (loopY inv κ μ g K)) : WY X nt J (.loop c) σ k K := fun Q hQ own H β a w hS => by
  let I : G → Act → World → Prop := fun g a w => ∃ own H β, YS nt J own H β a w (inv g) (κ g)
  let M : Act → World → Nat := fun a w => leastN fun n => ∃ g, μ g = n ∧ I g a w
  obtain ⟨β0, hS0⟩ := hS.weak h0
  refine wpIn_loop (fun a w => ∃ g, I g a w) M ⟨g0, own, H, β0, hk0 ▸ hS0⟩ fun a w ⟨g1, hJ1⟩ => ?_
  obtain ⟨⟨g, e, hJ⟩, _⟩ := leastN_spec (p := fun n => ∃ g, μ g = n ∧ I g a w) ⟨g1, rfl, hJ1⟩
  obtain ⟨own1, H1, β1, hS1⟩ := hJ
  refine h g _ (fun e' σ' k' own H β a' w' hk hS => ?_) own1 H1 β1 a w hS1
  cases e' with
  | normal =>
    obtain ⟨g', hw, rfl, hlt⟩ := hk
    obtain ⟨β', hS'⟩ := hS.weak hw
    have hJ' : I g' a' w' := ⟨own, H, β', hS'⟩
    have := (leastN_spec (p := fun n => ∃ g, μ g = n ∧ I g a' w') ⟨g', rfl, hJ'⟩).2
    refine ⟨⟨g', hJ'⟩, ?_⟩
    show leastN _ < leastN _
    rw [← e]
    exact Nat.lt_of_le_of_lt this hlt
  | _ => exact hQ _ _ _ own H β a' w' hk hS
theorem list_on {P : Program} {I : World → Prop} {T : TypeId → Option TY} {Φ : Ctr} {E : Env} {Q : Exit → Act → World → Prop} {ro : Option Nat} (hT : TabOk P T) (hΦ : CtrOk P I Φ) (hIE : ∀ w, BelowO E.own E.w0 w → I w) {all : Array Oper} {rest : List Oper} {K : (Nat → SV) → (Nat → Option Bx) → List Lg → Prop} (hK : ∀ H β tm bx log a w, K tm bx log → St E nt H β tm bx a w → wpListIn (FW ro) 0 P all Q rest a w) :
    ∀ {os : List Oper} {g : Nat} {tm : Nat → SV} {bx : Nat → Option Bx} {log : List Lg} {H : Heap} {β : Nat → Nat × Nat} {a : Act} {w : World}, dstsOk nt os = true → St E nt H β tm bx a w → opsP T Φ all os g tm bx log K → wpListIn (FW ro) 0 P all Q (os ++ rest) a w := by
  intro os
  induction os with
  | nil => intro g tm bx log H β a w _ h ho; exact hK _ _ _ _ _ _ _ ho h
  | cons o os ih =>
    intro g tm bx log H β a w hd h ho
    have hd' : dstsOk nt os = true := by
      simp only [dstsOk, List.all_cons, Bool.and_eq_true] at hd; exact hd.2
    have key : ∃ l : Lg, Fact T Φ all o g tm bx l ∧ opsP T Φ all os (g + 1) (putS tm o.dst l.r) (wrAll (fzAll bx l.e.fz) l.e.wr) (l :: log) K := by
      unfold opsP at ho
      split at ho
      · rename_i hy
        obtain ⟨r, e, h1, h2⟩ := opP_elim ho
        exact ⟨⟨r, e⟩, .inl ⟨hy, h1⟩, h2⟩
      · rename_i hy
        exact ⟨⟨.und, {}⟩, .inr ⟨hy, rfl, rfl⟩, ho⟩
      · exact ho.elim
    obtain ⟨l, hf, h'⟩ := key
    show wpListIn (FW ro) 0 P all Q (o :: (os ++ rest)) a w
    unfold wpListIn
    exact fact_step hT hΦ hIE (dstsOk_spec hd (by simp)) h hf fun H β a w hS => ih hd' hS h'
theorem Sim.rounded {own : Nat → Prop} {M : List Deferred} {H H' : Heap} {β : Nat → Nat × Nat} {tm : Nat → SV} {bx : Nat → Option Bx} {tmps : Array Value} {w w' w0 : World} {H0 : Heap} {pin : Nat → Option (Nat × Nat)} (h : Sim ⟨own, w0, H0, pin, M⟩ H β tm bx tmps w) (hh : HeapHas w' H') (hle : HLe H H') (hs : w.heap.size ≤ w'.heap.size)
    (ho : ∀ b, own b → b < w.heap.size → w'.heap[b]? = w.heap[b]? ∧ (H b = none → H' b = none)) : Sim ⟨fun b => own b ∧ (b < w.heap.size ∨ w'.heap.size ≤ b), w', H', fun _ => none, M⟩ H' β tm bx tmps w' where
  has := hh
  below := BelowO.refl _ _
  lo k hk := ⟨h.lo k (Nat.le_trans hs hk), .inr hk⟩
  ext := HExtO.refl _ _
  slot t := (h.slot t).mono hle (fun g b hg => ⟨b, hg, shape.refl b, rfl⟩)
  box g b hg := by
    by_cases ha : b.alive = true
    · have hb := h.box g b hg
      have hlt := hb.lt ha
      have hl := hb.lo ha
      obtain ⟨e1, e2⟩ := ho _ hl hlt
      have hk := hb.keep e1 hle e2 (fun s R eb hR => by
        subst eb
        exact ho R (hb.2.2.2 R hR).1 (bld_row hb.2.2.1 hR).1)
      cases b with
      | var x => exact ⟨⟨hl, .inl hlt⟩, hk.2⟩
      | arr => exact ⟨⟨hl, .inl hlt⟩, hk.2⟩
      | bld s =>
        refine ⟨⟨hl, .inl hlt⟩, hk.2.1, hk.2.2.1, fun R hR => ?_⟩
        have hR' := hR.same e1
        exact ⟨⟨(hb.2.2.2 R hR').1, .inl (bld_row hb.2.2.1 hR').1⟩, (hk.2.2.2 R hR).2⟩
      | dead => trivial
    · cases b <;> first | trivial | simp [Bx.alive] at ha
  inj := h.inj
  pin g k hk := by cases hk
  marks := ⟨h.marks.1, fun d hd => by
    obtain ⟨D, e, h1, h2⟩ := h.marks.2 d hd
    have hlt := (Array.getElem?_eq_some_iff.1 h2).1
    exact ⟨D, e, ⟨h1, .inl hlt⟩, (ho D h1 hlt).1.trans h2⟩⟩
  hid g s g' b R h1 h2 ha hR := h.hid g s g' b R h1 h2 ha (hR.same (ho _ ((h.box g _ h1).lo rfl) ((h.box g _ h1).lt rfl)).1)
theorem WY.yield (hJ : IterJ X l ys J) (n : Nat) {id : Nat} {all : Array Oper} {o : Oper} {fo : Operand} {args : Array Operand} {ats : Array TypeId} (ho : all.toList[n]? = some o) (hd : dstsOk nt all.toList = true) (hg : o.guard = none) (hop : o.op = .call { callee := .value fo, args := args, argTypes := ats })
    (h : opsP X.T X.C all (all.toList.take n) σ.nx σ.tm σ.bx [] fun tm bx _ => match evS tm fo, toIs bx (evS tm) args.toList with
      | .yld l', some (y, fs) => l' = l ∧ ys[k]? = some y ∧ opsP X.T X.C all (all.toList.drop (n + 1)) (σ.nx + n + 1) (putS tm o.dst (.iv (.bool true))) (fzAll bx fs) [] fun tm bx _ => K .normal ⟨tm, bx, σ.nx + all.size⟩ (k + 1)
      | _, _ => False) : WY X nt J (.region id all false) σ k K := by
  rintro Q hQ own H β a w ⟨⟨M, hS⟩, hj⟩
  refine wpIn_region_list ?_
  have hsplit : all.toList = all.toList.take n ++ o :: all.toList.drop (n + 1) := by
    have hlt := (List.getElem?_eq_some_iff.1 ho).1
    have he := (List.getElem?_eq_some_iff.1 ho).2
    have h1 := List.take_append_drop n all.toList
    rw [List.drop_eq_getElem_cons hlt, he] at h1
    exact h1.symm
  have hd1 : dstsOk nt (all.toList.take n) = true := by
    unfold dstsOk at hd ⊢
    rw [List.all_eq_true] at hd ⊢
    exact fun x hx => hd x (List.mem_of_mem_take hx)
  have hd2 : dstsOk nt (all.toList.drop (n + 1)) = true := by
    unfold dstsOk at hd ⊢
    rw [List.all_eq_true] at hd ⊢
    exact fun x hx => hd x (List.mem_of_mem_drop hx)
  have hdo : ∀ d, o.dst = some d → d < nt := dstsOk_spec hd (List.mem_of_getElem? ho)
  rw [hsplit]
  refine list_on (E := ⟨own, w, H, fun _ => none, M⟩) X.hT X.ok (fun w' hb => hJ.inv _ _ _ _ _ hj hb) (fun H1 β1 tm bx log a1 w1 hk hS1 => ?_) hd1 hS h
  split at hk
  · rename_i l' y fs hfo hargs
    obtain ⟨rfl, hy, hk⟩ := hk
    have hkl := (List.getElem?_eq_some_iff.1 hy).1
    have hv := ev_ok hS1.sim rfl fo
    rw [hfo] at hv
    have hfv : a1.eval fo = .func (.yield l') #[] #[] := hv
    obtain ⟨H2, hle, S2, V2⟩ := toIs_ok (a := a1) rfl hS1.sim hargs
    have hj2 := hJ.step own k H H2 w w1 hj S2.below S2.has S2.ext
    obtain ⟨fn, tmps, assign, body, hyr, hR⟩ := hJ.round own k H2 w1 (args.toList.map a1.eval) hkl hj2 S2.has S2.lo (by rw [(List.getElem?_eq_some_iff.1 hy).2]; exact V2)
    have hrun : (execOp a1.eval o).run X.P w1 = .ok (.round l' fn tmps assign body) w1 := by
      have ea : (args.toList.map a1.eval).toArray = args.map a1.eval := by apply Array.ext'; simp
      rw [ea] at hyr
      simp only [execOp, hop, resolve, hfv, Deferred.ofValue, Sem.run_bind, Sem.run_pure, Result.andThen_ok, invoke]
      simpa using hyr
    unfold wpListIn
    simp only [Region.wanted, hg, if_true]
    refine ⟨fun _ _ => trivial, ?_⟩
    rw [show (FW none).round = none from rfl, Oper.semAt_none, hrun]
    refine ⟨fun e => (by cases e), hR.mono ?_⟩
    rintro e w2 ⟨rfl, H3, h1, h2, h3, h4, h5, h6, h7, hj3⟩
    have T : St ⟨fun b => own b ∧ (b < w1.heap.size ∨ w2.heap.size ≤ b), w2, H3, fun _ => none, M⟩ nt H3 β1 (putS tm o.dst (.iv (.bool true))) (fzAll bx fs) (a1.put o.dst (.bool true)) w2 :=
      St.put ⟨S2.rounded h1 h2 h3 h7, hS1.defers, hS1.size⟩ hdo (r := .iv (.bool true)) (.bool true)
    have := list_on (rest := []) (Q := Q) (ro := none) (E := ⟨fun b => own b ∧ (b < w1.heap.size ∨ w2.heap.size ≤ b), w2, H3, fun _ => none, M⟩) X.hT X.ok (fun w' hb => hJ.inv _ _ _ _ _ hj3 hb) (all := all) (K := fun tm bx _ => K .normal ⟨tm, bx, σ.nx + all.size⟩ (k + 1)) (fun H4 β4 tm bx log a4 w4 hk4 hS4 => ?_) hd2 T hk
    · rw [List.append_nil] at this; exact this
    · refine hQ .normal _ (k + 1) (fun b => own b ∧ (b < w1.heap.size ∨ w2.heap.size ≤ b)) H4 β4 a4 w4 hk4 ⟨⟨M, ?_, hS4.defers, hS4.size⟩, hJ.step _ _ _ _ _ _ hj3 hS4.sim.below hS4.sim.has hS4.sim.ext⟩
      exact hS4.sim.rebase (fun g b hg ha => (hS4.sim.box g b hg).lo ha) (fun g s R hg hR => ((hS4.sim.box g _ hg).2.2.2 R hR).1) hS4.sim.lo hS4.sim.pin hS4.sim.marks
  · exact hk.elim
end
def argP : Nat → List IV → Nat → SV
  | _, [], _ => .und
  | i, _ :: _, 0 => .ptr i 0
  | i, _ :: zs, t + 1 => argP (i + 1) zs t
def argY (l : Nat) (zs : List IV) : Nat → SV
  | 0 => .yld l
  | t + 1 => argP 0 zs t
def bxL : Nat → List IV → List (Nat × Bx)
  | _, [] => []
  | i, z :: zs => (i, .var z) :: bxL (i + 1) zs
def endY (n : Nat) : Exit → AS → Nat → Prop
  | .normal, _, k => k = n
  | .ret, _, k => k = n
  | _, _, _ => False
theorem BRs_len {own : Nat → Prop} {w : World} {H : Heap} : ∀ {bs : List Nat} {zs : List IV}, BRs own w H bs zs → bs.length = zs.length
  | [], [], _ => rfl
  | [], _ :: _, h => h.elim
  | _ :: _, [], h => h.elim
  | _ :: _, _ :: _, h => by simp [BRs_len h.2]
theorem BRs_get {own : Nat → Prop} {w : World} {H : Heap} : ∀ {bs : List Nat} {zs : List IV}, BRs own w H bs zs → ∀ (i : Nat) (z : IV), zs[i]? = some z → ∃ b, bs[i]? = some b ∧ BR own w H (b, 0) (.var z)
  | [], [], _, i, z, h => by simp at h
  | [], _ :: _, h, _, _, _ => h.elim
  | _ :: _, [], h, _, _, _ => h.elim
  | b :: bs, z' :: zs, h, 0, z, hz => by simp at hz; subst hz; exact ⟨b, rfl, h.1⟩
  | b :: bs, z' :: zs, h, i + 1, z, hz => by simp at hz; simpa using BRs_get h.2 i z hz
theorem bxL_mem : ∀ {i : Nat} {zs : List IV} {g : Nat} {b : Bx}, (g, b) ∈ bxL i zs → ∃ j z, g = i + j ∧ zs[j]? = some z ∧ b = .var z
  | _, [], _, _, h => by simp [bxL] at h
  | i, z :: zs, g, b, h => by
    simp only [bxL, List.mem_cons, Prod.mk.injEq] at h
    rcases h with ⟨rfl, rfl⟩ | h
    · exact ⟨0, z, rfl, rfl, rfl⟩
    · obtain ⟨j, z', e, h1, h2⟩ := bxL_mem h
      exact ⟨j + 1, z', by omega, by simpa using h1, h2⟩
theorem bxL_some : ∀ {i : Nat} {zs : List IV} {j : Nat}, j < zs.length → tbB (bxL i zs) (i + j) ≠ none
  | _, [], _, h => by simp at h
  | i, z :: zs, 0, _ => by simp [bxL, tbB, Nat.beq_refl]
  | i, z :: zs, j + 1, h => by
    have h' := bxL_some (i := i + 1) (zs := zs) (j := j) (by simpa using h)
    have hb : Nat.beq (i + (j + 1)) i = false := by
      cases hb : Nat.beq (i + (j + 1)) i
      · rfl
      · have := Nat.eq_of_beq_eq_true hb; omega
    simp only [bxL, tbB, hb, cond_false]
    rw [show i + (j + 1) = i + 1 + j by omega]; exact h'
theorem argP_get : ∀ {i : Nat} {zs : List IV} {t : Nat}, argP i zs t = if t < zs.length then .ptr (i + t) 0 else .und
  | i, [], t => by simp [argP]
  | i, z :: zs, 0 => by simp [argP]
  | i, z :: zs, t + 1 => by rw [argP, argP_get]; simp [Nat.add_comm, Nat.add_left_comm]
theorem iter_of {X : Cx} {f : FuncId} {fn : Func} {c : Code} (hf : X.P.funcs[f]? = some fn) (hb : fn.body = some c) (hn : (fn.name == "runtime.NumGoroutine") = false) (hres : fn.results = #[]) {zs : List IV} {ys : List (List IV)} (hx : zs.length + 1 ≤ fn.ntmps)
    (h : ∀ l J, IterJ X l ys J → WY X fn.ntmps J c ⟨argY l zs, tbB (bxL 0 zs), 10⟩ 0 (endY ys.length)) : IterC X f zs ys := by
  refine ⟨⟨fn, hf, hn, by rw [hb]; rfl⟩, fun l J own H w bs hJ hj hH hlo hbs hp => ?_⟩
  have hlen := BRs_len hbs
  refine callsIn_of_wp_marks hf hb trivial ?_
  refine h l J hJ _ (fun e σ' k' own' H' β' a' w' hk hY => ?_) own H (fun g => (bs.getD g 0, 0)) _ w ⟨⟨[], ⟨hH, BelowO.refl _ _, hlo, HExtO.refl _ _, fun t => ?_, fun g b hg => ?_, fun g g' b b' hg hg' _ _ e => ?_, fun p k hk => (by cases hk), MarksOk.nil _ _, fun g s g' b R hg => (by obtain ⟨j, z, _, _, e⟩ := bxL_mem (tbB_mem hg); cases e)⟩, rfl, ?_⟩, hj⟩
  · obtain ⟨⟨M, hS⟩, hj'⟩ := hY
    have hfin : k' = ys.length → LeavesInM (FW none) 0 X.P fn a'.tmps (fun e w' => ∃ v own' H', e = .returned v ∧ HeapHas w' H' ∧ J own' ys.length H' w') a'.defers .returning w' := fun hk => by
      subst hk
      rw [hS.defers]
      have goM : ∀ (M : List Deferred) (w' : World), MarksOk own' M w' → HeapHas w' H' → J own' ys.length H' w' → LeavesInM (FW none) 0 X.P fn a'.tmps (fun e w' => ∃ v own' H', e = .returned v ∧ HeapHas w' H' ∧ J own' ys.length H' w') M .returning w' := by
        intro M
        induction M with
        | nil =>
          intro w' _ hh hj
          exact ⟨_, results_none hres _ _ _, _, own', H', rfl, hh, hj⟩
        | cons d M ih =>
          intro w' hm hh hj
          obtain ⟨D, e, ho, hb⟩ := hm.2 d (by simp)
          obtain ⟨hp1, hp2⟩ := List.pairwise_cons.1 hm.1
          refine ⟨by simp, .inl ⟨D, w'.putObj D (.deferred none), by rw [e], run_takeDeferred hb, ih _ ⟨hp2, fun d' hd' => ?_⟩ ?_ ?_⟩⟩
          · obtain ⟨D', e', ho', hb'⟩ := hm.2 d' (List.mem_cons_of_mem _ hd')
            exact ⟨D', e', ho', (World.putObj_heap_other (fun e2 => hp1 d' hd' (by rw [e, e', e2]))).trans hb'⟩
          · intro b arr hba
            obtain ⟨t, fr, ht⟩ := hh b arr hba
            exact ⟨t, fr, (World.putObj_heap_other (fun e2 => by rw [e2, hb] at ht; cases ht)).trans ht⟩
          · refine hJ.step own' _ H' H' w' _ hj ⟨rfl, rfl, rfl, by simp, fun k hk => World.putObj_heap_other (fun e2 => hk (by rw [e2]; exact ho))⟩ ?_ (HExtO.refl _ _)
            intro b arr hba
            obtain ⟨t, fr, ht⟩ := hh b arr hba
            exact ⟨t, fr, (World.putObj_heap_other (fun e2 => by rw [e2, hb] at ht; cases ht)).trans ht⟩
      exact goM M w' hS.sim.marks hS.sim.has hj'
    cases e with
    | normal => exact hfin hk
    | ret => exact hfin hk
    | _ => exact hk.elim
  · cases t with
    | zero => simp [argY, SR, yieldV, Array.getElem?_append]
    | succ t =>
      show SR _ _ _ _ (argP 0 zs t)
      rw [argP_get]
      by_cases ht : t < zs.length
      · rw [if_pos ht]
        have htb : t < bs.length := by omega
        refine ⟨bxL_some ht, ?_⟩
        simp [Array.getElem?_append, htb]
      · rw [if_neg ht]
        have htb : ¬ t < bs.length := by omega
        show _ = undef
        simp [Array.getElem?_append, htb, Array.getElem?_replicate]
        split <;> rfl
  · obtain ⟨j, z, rfl, hz, rfl⟩ := bxL_mem (tbB_mem hg)
    obtain ⟨b, e1, e2⟩ := BRs_get hbs j z hz
    simp only [Nat.zero_add]
    rw [show (bs.getD j 0, 0) = (b, 0) by simp [e1]]
    exact e2
  · obtain ⟨j, z, rfl, hz, rfl⟩ := bxL_mem (tbB_mem hg)
    obtain ⟨j', z', rfl, hz', rfl⟩ := bxL_mem (tbB_mem hg')
    obtain ⟨b1, e1, _⟩ := BRs_get hbs j z hz
    obtain ⟨b2, e2, _⟩ := BRs_get hbs j' z' hz'
    simp [e1, e2] at e
    simp only [Nat.zero_add]
    apply Classical.byContradiction
    intro hne
    have l1 := (List.getElem?_eq_some_iff.1 e1).1
    have l2 := (List.getElem?_eq_some_iff.1 e2).1
    have v1 := (List.getElem?_eq_some_iff.1 e1).2
    have v2 := (List.getElem?_eq_some_iff.1 e2).2
    have hpg := List.pairwise_iff_getElem.1 hp
    rcases Nat.lt_or_gt_of_ne hne with hlt | hlt
    · exact hpg j j' l1 l2 hlt (by rw [v1, v2, e])
    · exact hpg j' j l2 l1 hlt (by rw [v1, v2, e])
  · show ((yieldV l :: bs.map fun b => Value.pointer (some ⟨b, 0, none⟩)).toArray ++ Array.replicate (fn.ntmps - (yieldV l :: bs.map fun b => Value.pointer (some ⟨b, 0, none⟩)).toArray.size) undef).size = fn.ntmps
    simp; omega
attribute [irreducible] WY
end Go.Proofs.Fl
namespace Go.Proofs.Fl
open Go.RowKit
abbrev MK (J : Keep) : FuncId → List IV → FuncId → List IV → Prop := MakC Tryz.prog J.I
abbrev IT (J : Keep) : FuncId → List IV → List (List IV) → Prop := IterC (cx J.top)
def roundW (J : Keep) (nt : Nat) (body : Code) (m : List (Nat × Bx)) : Exit → AS → Prop
  | .normal, σ => W J.any nt body σ fun e σ' => e = .normal ∧ boxesW σ'.bx [] m
  | _, _ => False
def slotsE (tm : Nat → SV) : List (Nat × SV) → Prop
  | [] => True
  | p :: l => tm p.1 = p.2 ∧ slotsE tm l
theorem slotsE_mem {tm : Nat → SV} : ∀ {l : List (Nat × SV)}, slotsE tm l → ∀ p ∈ l, tm p.1 = p.2
  | [], _, p, h => by simp at h
  | q :: l, hs, p, h => by
    rcases List.mem_cons.1 h with rfl | h
    · exact hs.1
    · exact slotsE_mem hs.2 p h
def okL (ids : List Nat) : SV → Bool
  | .unk | .und | .iv _ | .nilS => true
  | .ptr g _ => ids.any (Nat.beq g)
  | _ => false
theorem tbB_dom {m : List (Nat × Bx)} {g : Nat} : tbB m g ≠ none ↔ g ∈ m.map (·.1) := by
  induction m with
  | nil => simp [tbB]
  | cons p m ih =>
    simp only [tbB, List.map_cons, List.mem_cons]
    cases hb : Nat.beq g p.1 with
    | true => simp [Nat.eq_of_beq_eq_true hb]
    | false =>
      have hne := Nat.ne_of_beq_eq_false hb
      simp only [cond_false, ih]
      exact ⟨.inr, fun h => h.resolve_left hne⟩
def freeB (bx : Nat → Option Bx) (ids : List Nat) (i : Nat) : Bool := (bx (pinId + i)).isNone || ids.any (Nat.beq (pinId + i))
def freeAll (bx : Nat → Option Bx) (ids : List Nat) : Bool := freeB bx ids 0 && (freeB bx ids 1 && (freeB bx ids 2 && (freeB bx ids 3 && (freeB bx ids 4 && (freeB bx ids 5 && (freeB bx ids 6 && freeB bx ids 7))))))
theorem freeAll_get {bx : Nat → Option Bx} {ids : List Nat} (h : freeAll bx ids = true) : ∀ i, i < 8 → freeB bx ids i = true := by
  simp only [freeAll, Bool.and_eq_true] at h
  obtain ⟨h0, h1, h2, h3, h4, h5, h6, h7⟩ := h
  intro i hi
  match i, hi with
  | 0, _ => exact h0
  | 1, _ => exact h1
  | 2, _ => exact h2
  | 3, _ => exact h3
  | 4, _ => exact h4
  | 5, _ => exact h5
  | 6, _ => exact h6
  | 7, _ => exact h7
  | n + 8, hn => exact absurd hn (by omega)
section
variable {J : Keep} {nt : Nat} {σ : AS} {K : Exit → AS → Prop}
theorem mk_ok {f f' : FuncId} {fn : Func} {c : Code} (hf : Tryz.prog.funcs[f]? = some fn) (hb : fn.body = some c) (hn : (fn.name == "runtime.NumGoroutine") = false) {xs zs : List IV} (hx : Nat.ble xs.length fn.ntmps = true)
    (h : W J fn.ntmps c ⟨argS xs, fun _ => none, 0⟩ (makK fn.results.toList f' zs)) : MK J f xs f' zs := by
  unfold W at h
  exact make_of (X := cx J) hf hb hn (Nat.le_of_ble_eq_true hx) h
theorem it_ok {f : FuncId} {fn : Func} {c : Code} (hf : Tryz.prog.funcs[f]? = some fn) (hb : fn.body = some c) (hn : (fn.name == "runtime.NumGoroutine") = false) (hres : fn.results = #[]) {zs : List IV} {ys : List (List IV)} (hx : Nat.ble (zs.length + 1) fn.ntmps = true)
    (h : ∀ l F, IterJ (cx J.top) l ys F → WY (cx J.top) fn.ntmps F c ⟨argY l zs, tbB (bxL 0 zs), 10⟩ 0 (endY ys.length)) : IT J f zs ys :=
  iter_of (X := cx J.top) hf hb hn hres (Nat.le_of_ble_eq_true hx) h
theorem W.range {g : Operand} {ps : Array Tmp} {assign body : Code} {f : FuncId} {gs : List Nat} {zs : List IV} {ys : List (List IV)} (hit : IT J f zs ys) (ids : List Nat) (l : List (Nat × SV)) (m : Nat → List (Nat × Bx)) (nx : Nat) (hg : evS σ.tm g = .clo f gs) (hz : cloB σ.bx gs zs) (hgs : gs.Pairwise (· ≠ ·))
    (hps : ps.toList.all (fun p => Nat.blt p nt) = true) (hys : ∀ y ∈ ys, y.length = ps.size) (hids : ∀ k, (m k).map (·.1) = ids) (hal : ∀ k, ∀ p ∈ m k, p.2.alive = true) (hpin : ids.all (fun g => Nat.ble pinId g && Nat.blt g (pinId + 8)) = true)
    (hl : slotsE σ.tm l) (hlo : l.all (fun p => okL ids p.2) = true) (hb : boxesW σ.bx [] (m 0)) (hdj : gs.all (fun g => !ids.any (Nat.beq g)) = true) (hfree : freeAll σ.bx ids = true)
    (hround : ∀ k (hk : k < ys.length), W J.any nt assign ⟨putsL (tbS l) ps.toList ys[k], tbB (m k), nx⟩ (roundW J nt body (m (k + 1)))) (hend : K .normal (mkA l (m ys.length) nx)) : W J.top nt (.rangeFunc g ps assign body) σ K := by
  unfold W
  have hmem : ∀ {g : Nat}, ids.any (Nat.beq g) = true ↔ g ∈ ids := fun {g} => any_beq
  have hdom : ∀ k g, tbB (m k) g ≠ none ↔ g ∈ ids := fun k g => by rw [tbB_dom, hids k]
  refine CW.range (X := cx J.top) (fun r h => h) hg hz hgs hit (tbS l) (fun k => tbB (m k)) (nx := nx) (fun p hp => ?_) hys (fun t => ?_) (fun k t => ?_) (fun g b hgb => ?_) (fun id hid => ?_) (fun k g b hgb => ?_) (fun k g => ?_) (fun i hi hne => ?_) (fun k hk => ?_) hend
  · have := List.all_eq_true.1 hps p hp
    rwa [Nat.blt_eq] at this
  · rcases tbS_mem (l := l) (t := t) with h | h
    · exact .inl h
    · exact .inr (slotsE_mem hl _ h)
  · rcases tbS_mem (l := l) (t := t) with h | h
    · rw [h]; trivial
    · have := List.all_eq_true.1 hlo _ h
      simp only at this
      cases hs : tbS l t <;> rw [hs] at this <;> simp only [okL] at this <;> first | trivial | cases this | skip
      rename_i g off
      exact (hdom k g).2 (hmem.1 this)
  · have := boxesW_mem hb _ (tbB_mem hgb)
    exact this
  · cases hx : tbB (m 0) id with
    | none => rfl
    | some b =>
      have h1 := (hdom 0 id).1 (by rw [hx]; simp)
      have h2 := List.all_eq_true.1 hdj id hid
      rw [hmem.2 h1] at h2; cases h2
  · have h1 := (hdom k g).1 (by rw [hgb]; simp)
    have h2 := List.all_eq_true.1 hpin g h1
    simp only [Bool.and_eq_true, Nat.ble_eq, Nat.blt_eq] at h2
    exact ⟨hal k _ (tbB_mem hgb), h2.1, h2.2⟩
  · rw [hdom, hdom]
  · have h1 := freeAll_get hfree i hi
    simp only [freeB, Bool.or_eq_true, Option.isNone_iff_eq_none] at h1
    exact (hdom 0 _).2 (hmem.1 (h1.resolve_left hne))
  · have hr := hround k hk
    unfold W at hr
    refine CW.mono (X := cx J.any) hr fun e σ' hk => ?_
    cases e with
    | normal =>
      have hk' : W J.any nt body σ' _ := hk
      unfold W at hk'
      refine CW.mono (X := cx J.any) hk' fun e σ'' h => ⟨h.1, fun id b hib => ?_⟩
      exact boxesW_mem h.2 _ (tbB_mem hib)
    | _ => exact hk
end
section
variable {X : Cx} {nt l : Nat} {ys : List (List IV)} {F : (Nat → Prop) → Nat → Heap → World → Prop} {σ : AS} {k : Nat} {K : Exit → AS → Nat → Prop}
theorem WY.R (hJ : IterJ X l ys F) {id : Nat} {all : Array Oper} {draw : Bool} (h0 : regOk nt all draw = true) (h : regP X all draw σ fun σ' => K .normal σ' k) : WY X nt F (.region id all draw) σ k K := by
  simp only [regOk, Bool.and_eq_true, Bool.or_eq_true] at h0
  exact WY.lift hJ (CW.region h0.1 (fun e => h0.2.resolve_left (by subst e; simp)) h)
theorem WY.RS (hJ : IterJ X l ys F) {id : Nat} {all : Array Oper} {draw : Bool} {y : Code} (h0 : regOk nt all draw = true) (h : regP X all draw σ fun σ' => WY X nt F y σ' k K) : WY X nt F (.seq (.region id all draw) y) σ k K :=
  WY.S (WY.R hJ h0 h)
theorem WY.yieldS (hJ : IterJ X l ys F) (n : Nat) {id : Nat} {all : Array Oper} {o : Oper} {fo : Operand} {args : Array Operand} {ats : Array TypeId} {y : Code} (ho : all.toList[n]? = some o) (hd : dstsOk nt all.toList = true) (hg : o.guard = none) (hop : o.op = .call { callee := .value fo, args := args, argTypes := ats })
    (h : opsP X.T X.C all (all.toList.take n) σ.nx σ.tm σ.bx [] fun tm bx _ => match evS tm fo, toIs bx (evS tm) args.toList with
      | .yld l', some (y', fs) => l' = l ∧ ys[k]? = some y' ∧ opsP X.T X.C all (all.toList.drop (n + 1)) (σ.nx + n + 1) (putS tm o.dst (.iv (.bool true))) (fzAll bx fs) [] fun tm bx _ => WY X nt F y ⟨tm, bx, σ.nx + all.size⟩ (k + 1) K
      | _, _ => False) : WY X nt F (.seq (.region id all false) y) σ k K :=
  WY.S (WY.yield hJ n ho hd hg hop h)
theorem WY.condT {c : Operand} {x y : Code} (hc : evS σ.tm c = .iv (.bool true)) (h : WY X nt F x σ k K) : WY X nt F (.cond c x y) σ k K := WY.cond hc (fun _ => h) (fun e => by cases e)
theorem WY.condF {c : Operand} {x y : Code} (hc : evS σ.tm c = .iv (.bool false)) (h : WY X nt F y σ k K) : WY X nt F (.cond c x y) σ k K := WY.cond hc (fun e => by cases e) (fun _ => h)
end
end Go.Proofs.Fl
namespace Go.Proofs.Fl
open Go.RowKit
structure BldF (b : Nat) (w w' : World) : Prop where
  os : w'.os = w.os
  tape : w'.tape = w.tape
  output : w'.output = w.output
  size : w.heap.size ≤ w'.heap.size
  block : ∀ k, k < w.heap.size → k ≠ b → ¬ RowAt w b k → w'.heap[k]? = w.heap[k]?
  row : ∀ R, RowAt w' b R → RowAt w b R ∨ w.heap.size ≤ R
def BldC (P : Program) (f : FuncId) (s : List UInt8) (xs : List IV) (s' : List UInt8) (r : IV) : Prop :=
  (∃ fn, P.funcs[f]? = some fn ∧ (fn.name == "runtime.NumGoroutine") = false ∧ fn.body.isNone = false) ∧
  ∀ (H : Heap) (w : World) (b : Nat) (args : List Value), VRL H args xs → Lib.IsBuilderF bldT byteT 0 b (Lib.byteCells s) w →
    Calls P f (Value.pointer (some ⟨b, 0, none⟩) :: args).toArray w fun e w' => ∃ v, e = .returned v ∧ (∀ H, VR H v r) ∧ Lib.IsBuilderF bldT byteT 0 b (Lib.byteCells s') w' ∧ BldF b w w'
theorem Sim.build {E : Env} {H : Heap} {β : Nat → Nat × Nat} {tm : Nat → SV} {bx : Nat → Option Bx} {tmps : Array Value} {w : World} (h : Sim E H β tm bx tmps w) {g : Nat} {s s' : List UInt8} (hg : bx g = some (.bld s)) (hone : ∀ g' s', bx g' = some (.bld s') → g' = g) {w' : World}
    (hf : BldF (β g).1 w w') (hb : Lib.IsBuilderF bldT byteT 0 (β g).1 (Lib.byteCells s') w') : Sim E H β tm (upd bx g (some (.bld s'))) tmps w' := by
  obtain ⟨b1, b2, b3, b4⟩ := h.box g _ hg
  have hlt : (β g).1 < w.heap.size := (h.box g _ hg).lt rfl
  have hother : ∀ {g' b}, upd bx g (some (.bld s')) g' = some b → g' ≠ g → bx g' = some b := fun {g' b} e hne => by rwa [upd_other _ _ _ hne] at e
  have halive : ∀ {g' b}, upd bx g (some (.bld s')) g' = some b → b.alive = true → ∃ b0, bx g' = some b0 ∧ b0.alive = true := fun {g' b} e ha => by
    by_cases hne : g' = g
    · subst hne; exact ⟨_, hg, rfl⟩
    · exact ⟨b, hother e hne, ha⟩
  have hkeep : ∀ {g' b}, bx g' = some b → g' ≠ g → b.alive = true → w'.heap[(β g').1]? = w.heap[(β g').1]? := fun {g' b} e hne ha =>
    hf.block _ ((h.box g' b e).lt ha) (fun e' => hne (h.inj g' g b _ e hg ha rfl e')) (fun hR => h.hid g s g' b _ hg e ha hR rfl)
  refine ⟨fun b arr e => ?_, h.below.trans ⟨hf.os, hf.tape, hf.output, hf.size, fun k hk => ?_⟩, fun k hk => h.lo k (Nat.le_trans hf.size hk), h.ext, fun t => (h.slot t).mono (HLe.refl _) (fun g' b1 hg' => ?_), fun g' c1 hg' => ?_, fun g1 g2 c1 c2 e1 e2 a1 a2 he => ?_, fun p' k' hk' => ⟨(h.pin p' k' hk').1, upd_ne_none (h.pin p' k' hk').2.1, (h.pin p' k' hk').2.2⟩, ?_, fun g1 s1 g2 c2 R e1 e2 ha2 hR => ?_⟩
  · obtain ⟨t, fr, ht⟩ := h.has b arr e
    refine ⟨t, fr, (hf.block b (h.has.lt e) (fun e' => ?_) (fun hR => ?_)).trans ht⟩
    · rw [e', b2] at e; cases e
    · rw [(b4 b hR).2] at e; cases e
  · rcases Nat.lt_or_ge k w.heap.size with h1 | h1
    · exact hf.block k h1 (fun e => hk (by rw [e]; exact b1)) (fun hR => hk (b4 k hR).1)
    · exact absurd (h.lo k h1) hk
  · by_cases hne : g' = g
    · subst hne
      rw [hg] at hg'; simp at hg'; subst hg'
      exact ⟨.bld s', by show upd bx g' _ g' = _; rw [upd_same], trivial, rfl⟩
    · exact ⟨b1, by show upd bx g _ g' = _; rw [upd_other _ _ _ hne]; exact hg', shape.refl _, rfl⟩
  · by_cases hne : g' = g
    · subst hne
      have e' : Bx.bld s' = c1 := by
        have : upd bx g' (some (.bld s')) g' = some c1 := hg'
        rw [upd_same] at this; simpa using this
      subst e'
      refine ⟨b1, b2, hb, fun R hR => ?_⟩
      rcases hf.row R hR with h1 | h1
      · exact b4 R h1
      · refine ⟨h.lo R h1, ?_⟩
        cases hx : H R with
        | none => rfl
        | some arr => have := h.has.lt hx; omega
    · have e' := hother hg' hne
      by_cases hal : c1.alive = true
      · exact (h.box g' c1 e').keep (hkeep e' hne hal) (HLe.refl _) id (fun s R eb _ => absurd (hone g' s (by rw [← eb]; exact e')) hne)
      · cases c1 <;> first | trivial | simp [Bx.alive] at hal
  · obtain ⟨d1, f1, f1'⟩ := halive e1 a1
    obtain ⟨d2, f2, f2'⟩ := halive e2 a2
    exact h.inj g1 g2 d1 d2 f1 f2 f1' f2' he
  · refine h.marks.keep fun D hD => hf.block D (Array.getElem?_eq_some_iff.1 hD).1 (fun e => ?_) (fun hR => ?_)
    · obtain ⟨arr, e', hc⟩ := (h.box g _ hg).cells rfl
      rw [← e, hD] at hc; cases hc
    · obtain ⟨_, _, arr, fz, hc⟩ := bld_row b3 hR
      rw [hD] at hc; cases hc
  · by_cases hne : g1 = g
    · subst hne
      obtain ⟨d2, f2, f2'⟩ := halive e2 ha2
      rcases hf.row R hR with h1 | h1
      · exact h.hid g1 s g2 d2 R hg f2 f2' h1
      · have := (h.box g2 _ f2).lt f2'; omega
    · exact absurd (hone g1 s1 (hother e1 hne)) hne
theorem run_zeroV {P : Program} {t : TypeId} {i : TypeInfo} {z : Value} (h : P.info? t = some i) (hz : i.zero = some z) (w : World) : (zeroValue t).run P w = .ok z w := by simp [zeroValue, typeInfo, h, hz]
section
variable {X : Cx} {nt : Nat} {σ : AS} {K : Exit → AS → Prop}
theorem CW.build (n : Nat) {id : Nat} {all : Array Oper} {o : Oper} {fo p : Operand} {args : List Operand} {ats : Array TypeId} (ho : all.toList[n]? = some o) (hd : dstsOk nt all.toList = true) (hg : o.guard = none) (hop : o.op = .call { callee := .value fo, args := (p :: args).toArray, argTypes := ats })
    (h : opsP X.T X.C all (all.toList.take n) σ.nx σ.tm σ.bx [] fun tm bx _ => match evS tm fo, evS tm p, toIs bx (evS tm) args with
      | .iv (.fn f), .ptr g 0, some (xs, []) => ∃ s s' r, bx g = some (.bld s) ∧ (∀ g' s', bx g' = some (.bld s') → g' = g) ∧ BldC X.P f s xs s' r ∧
          opsP X.T X.C all (all.toList.drop (n + 1)) (σ.nx + n + 1) (putS tm o.dst (.iv r)) (upd bx g (some (.bld s'))) [] fun tm bx _ => K .normal ⟨tm, bx, σ.nx + all.size⟩
      | _, _, _ => False) : CW X nt (.region id all false) σ K := by
  intro ro E Q hI hQ M H β a w hS
  refine wpIn_region_list ?_
  have hsplit : all.toList = all.toList.take n ++ o :: all.toList.drop (n + 1) := by
    have hlt := (List.getElem?_eq_some_iff.1 ho).1
    have he := (List.getElem?_eq_some_iff.1 ho).2
    have h1 := List.take_append_drop n all.toList
    rw [List.drop_eq_getElem_cons hlt, he] at h1
    exact h1.symm
  have hd1 : dstsOk nt (all.toList.take n) = true := by
    unfold dstsOk at hd ⊢
    rw [List.all_eq_true] at hd ⊢
    exact fun x hx => hd x (List.mem_of_mem_take hx)
  have hd2 : dstsOk nt (all.toList.drop (n + 1)) = true := by
    unfold dstsOk at hd ⊢
    rw [List.all_eq_true] at hd ⊢
    exact fun x hx => hd x (List.mem_of_mem_drop hx)
  have hdo : ∀ d, o.dst = some d → d < nt := dstsOk_spec hd (List.mem_of_getElem? ho)
  rw [hsplit]
  refine list_on (E := E.mks M) X.hT X.ok hI (fun H1 β1 tm bx log a1 w1 hk hS1 => ?_) hd1 hS h
  split at hk
  · rename_i f g xs hfo hp hargs
    obtain ⟨s, s', r, hbg, hone, ⟨⟨fn, hf1, hf2, hf3⟩, hc⟩, hk⟩ := hk
    have hv := ev_ok hS1.sim rfl fo
    rw [hfo] at hv
    have e1 := VR.asFn hv
    have hvp := ev_ok hS1.sim rfl p
    rw [hp] at hvp
    obtain ⟨_, hpv⟩ := hvp
    obtain ⟨H2, hle, S2, V2⟩ := toIs_ok (a := a1) rfl hS1.sim hargs
    have hcall := hc H2 w1 (β1 g).1 (args.map a1.eval) V2 (S2.box g _ hbg).2.2.1
    rw [← hpv] at hcall
    have hrun : (execOp a1.eval o).run X.P w1 = .ok (.enter f (a1.eval p :: args.map a1.eval).toArray) w1 := by
      simp only [execOp, hop, resolve, e1, Deferred.ofValue, Sem.run_bind, Sem.run_pure, Result.andThen_ok, invoke, callFunc, run_program, hf1, hf2, hf3, Bool.false_eq_true, if_false]
      congr 2
      apply Array.ext'
      simp
    unfold wpListIn
    simp only [Region.wanted, hg, if_true]
    refine op_in (fun c hc => by rw [hop] at hc; cases hc) ?_
    unfold Oper.wp
    rw [hrun]
    refine hcall.mono ?_
    rintro e w2 ⟨v, rfl, hvr, hb2, hf2⟩
    have T : St (E.mks M) nt H2 β1 (putS tm o.dst (.iv r)) (upd bx g (some (.bld s'))) (a1.put o.dst v) w2 := St.put ⟨S2.build hbg hone hf2 hb2, hS1.defers, hS1.size⟩ hdo (r := .iv r) (hvr H2)
    have := list_on (rest := []) (Q := Q) (ro := ro.1) (E := E.mks M) X.hT X.ok hI (all := all) (K := fun tm bx _ => K .normal ⟨tm, bx, σ.nx + all.size⟩) (fun H4 β4 tm bx log a4 w4 hk4 hS4 => hQ .normal _ M H4 β4 a4 w4 hk4 hS4) hd2 T hk
    rw [List.append_nil] at this; exact this
  · exact hk.elim
theorem CW.newBld {id : Nat} {o : Oper} {d : Nat} (hd : d < nt) (hdst : o.dst = some d) (hg : o.guard = none) (hop : o.op = .alloc bldT) {i : TypeInfo} (hinfo : X.P.info? bldT = some i) (hz : i.zero = some (.agg #[.pointer none, .slice none 0 0]))
    (hb : σ.bx σ.nx = none) (h : K .normal ⟨upd σ.tm d (.ptr σ.nx 0), upd σ.bx σ.nx (some (.bld [])), σ.nx + 1⟩) : CW X nt (.region id #[o] false) σ K := by
  intro ro E Q hI hQ M H β a w hS
  refine wpIn_region_list ?_
  show wpListIn (FW ro.1) 0 X.P #[o] Q [o] a w
  unfold wpListIn
  simp only [Region.wanted, hg, if_true]
  refine op_in (fun c hc => by rw [hop] at hc; cases hc) ?_
  have hS1 := hS.sim.newBlock hb (b := .bld []) (cap := 0) (arr := #[.pointer none, .slice none 0 0]) (e := bldT) (fun w' hw hn hlo => ⟨hlo, hn, .inl ⟨Nat.zero_le _, _, hw, ⟨rfl, .inl ⟨rfl, rfl⟩⟩, by simp [Value.ownBlock]⟩, fun R hR => by
      obtain ⟨p, n, cap, T, fr, e⟩ := hR
      rw [hw] at e; simp at e⟩) (fun s R w' _ hw hR => by
      obtain ⟨p, n, cap, T, fr, e⟩ := hR
      rw [hw] at e; simp at e)
  have hT := St.put (H := H) (a := a) ⟨hS1, hS.defers, hS.size⟩ (dst := o.dst) (fun d' hd' => by rw [hdst] at hd'; cases hd'; exact hd) (r := .ptr σ.nx 0) (v := .pointer (some ⟨w.heap.size, 0, none⟩)) ⟨by rw [upd_same]; simp, by rw [upd_same]⟩
  have hrun : (execOp a.eval o).run X.P w = .ok (.value (.pointer (some ⟨w.heap.size, 0, none⟩))) (w.alloc (.cells #[.pointer none, .slice none 0 0] bldT)) := by
    simp only [execOp, hop, Instr.alloc, Sem.run_bind, run_zeroV hinfo hz, Result.andThen_ok, newVar, newRow, run_newObj, Sem.run_pure]; rfl
  unfold Oper.wp
  rw [hrun]
  show wpListIn (FW ro.1) 0 X.P #[o] Q [] (a.put o.dst _) _
  unfold wpListIn
  rw [hdst] at hT ⊢
  exact hQ .normal _ M H _ _ _ h hT
end
end Go.Proofs.Fl
namespace Go.Proofs.Fl
open Go.RowKit Go.Shelf
section
variable {P : Program} (w : World)
theorem run_append_bytes (base : Nat) (t u ty e : TypeId) (i : TypeInfo) (ht : P.underlying t = some (.slice e)) (hu : P.underlying u = some .string) (hi : P.info? e = some i) (hz : i.zero = some (.int .u8 0))
    (hsize : i.size = 1) (hby : i.bytes = 1)
    (v : Value) (n : Nat) (xs : List Value) (hown : w.ownsRowF base e 1 v n xs) (s : ByteArray)
    (h63 : n + s.size ≤ maxLen) (hbytes : n + s.size ≤ 140737488355328) (hbase : base ≤ w.heap.size) :
    ∃ v' w', (Builtin.append_ #[t, u] ty #[v, .string s]).run P w = .ok v' w' ∧ w'.ownsRowF base e 1 v' (n + s.size) (xs ++ Lib.strCells s) ∧ w.grownBy w' v.ownBlock ∧ (∀ R, v'.ownBlock = some R → v.ownBlock = some R ∨ w.heap.size ≤ R) := by
  rcases hown.2 with ⟨rfl, rfl⟩ | ⟨g, cap, cur, fz, rfl, hbg, hg, hfz, hnc, hcm, hcs, htake⟩
  · obtain ⟨v', w', h1, h2, h3, h4⟩ := Lib.run_append_own_stringF (P := P) w w.heap.size t u ty e i ht hu hi hz hsize hby (.slice none 0 0) 0 xs ⟨hown.1, .inl ⟨rfl, rfl⟩⟩ s h63 hbytes (Nat.le_refl _)
    refine ⟨v', w', h1, ⟨h2.1, ?_⟩, h3, fun R hR => ?_⟩
    · rcases h2.2 with h | ⟨g, cap, cur, fz, e1, e2, e3⟩
      · exact .inl h
      · exact .inr ⟨g, cap, cur, fz, e1, by omega, e3⟩
    · rcases h2.2 with ⟨rfl, _⟩ | ⟨g, cap, cur, fz, rfl, e2, _⟩
      · cases hR
      · cases hR; exact .inr e2
  · have hxl : xs.length = n := by simpa using hown.1
    have hlen : (xs ++ Lib.strCells s).length = (n + s.size) * 1 := by rw [List.length_append, hxl, Lib.strCells_length, Nat.mul_one]
    by_cases hroom : n + s.size ≤ cap
    · have hcs' : cur.size = cap := by simpa using hcs
      have hr := Lib.run_append_room_stringF (P := P) w t u ty e i ht hu hi hsize g n cap cur fz hg (by simpa using hfz) s hroom (by omega)
      refine ⟨_, _, hr, ⟨hlen, .inr ⟨g, cap, _, fz, rfl, hbg, setRow_heap w g cur _ e _ hg, by omega, hroom, hcm, ?_, ?_⟩⟩, ⟨rfl, rfl, rfl, by simp, fun k _ hk => setRow_other w g k _ (fun e => hk (by simp [Value.ownBlock, e]))⟩, fun R hR => .inl hR⟩
      · simp only [List.size_toArray, List.length_append, List.length_take, List.length_drop, Array.length_toList, Lib.strCells_length]
        omega
      · have ht' : cur.toList.take n = xs := by simpa using htake
        rw [ht', ← hlen]
        exact List.take_left
    · have holds : ∀ j u, xs[j]? = some u → w.cell? ((⟨g, 0, none⟩ : Addr).add j) = some u := hown.cells (g := g) rfl
      have hsmall : n + s.size ≤ 9223372036854775807 := by simp only [maxLen] at h63; omega
      have hr := Lib.run_append_grow_string (P := P) w t u ty e i (.int .u8 0) ht hu hi hz ⟨g, 0, none⟩ n cap xs (by rw [hsize]; simpa using hxl) holds s (by omega) (by omega) (by rw [hby]; exact growslice_fits (by omega) (by omega))
      have hge := grownCap_ge w (n + s.size) cap e
      have hcm2 : grownCap w (n + s.size) cap e ≤ maxLen := grownCap_le_maxLen w (n + s.size) cap e h63
      refine ⟨_, _, hr, ⟨hlen, .inr ⟨w.heap.size, _, _, (0, 0), rfl, hbase, heap_alloc_new w.drew _, Nat.zero_le _, hge, hcm2, ?_, ?_⟩⟩, ⟨rfl, rfl, rfl, by simp, fun k hk _ => heap_alloc_old w.drew _ hk⟩, fun R hR => ?_⟩
      · have hz1 : (Value.int IntKind.u8 0).cells.size = 1 := rfl
        simp only [Array.size_append, List.size_toArray, size_zeroCells, hz1, hxl, Lib.strCells_length]
        omega
      · simp only [Array.toList_append, List.append_assoc]
        rw [← List.append_assoc, ← hlen]
        exact List.take_left
      · have hR : some w.heap.size = some R := hR
        cases hR; exact .inr (Nat.le_refl _)
theorem wpList_append_bytes {w : World} {ops : Array Oper} {rest : List Oper} {o : Oper} {a : Act} {Q : Exit → Act → World → Prop} (hgd : o.guard = none) (sl x : Operand) (t u : TypeId)
    (ho : o.op = .call { callee := .builtin .append, args := #[sl, x], argTypes := #[t, u] })
    (base : Nat) (e : TypeId) (i : TypeInfo) (ht : P.underlying t = some (.slice e)) (hu : P.underlying u = some .string) (hi : P.info? e = some i) (hz : i.zero = some (.int .u8 0))
    (hsize : i.size = 1) (hby : i.bytes = 1)
    (v : Value) (n : Nat) (xs : List Value) (hs : a.eval sl = v) (hown : w.ownsRowF base e 1 v n xs) (s : ByteArray) (hx : a.eval x = .string s)
    (h63 : n + s.size ≤ maxLen) (hbytes : n + s.size ≤ 140737488355328) (hbase : base ≤ w.heap.size)
    (h : ∀ v' w', w'.ownsRowF base e 1 v' (n + s.size) (xs ++ Lib.strCells s) → w.grownBy w' v.ownBlock → (∀ R, v'.ownBlock = some R → v.ownBlock = some R ∨ w.heap.size ≤ R) → wpList P ops Q rest (a.put o.dst v') w') : wpList P ops Q (o :: rest) a w := by
  refine wpList_plain hgd fun K hK => ?_
  obtain ⟨v', w', hr, h2, h3, h4⟩ := run_append_bytes (P := P) w base t u o.type e i ht hu hi hz hsize hby v n xs hown s h63 hbytes hbase
  unfold Oper.wp execOp
  simp only [ho, resolve, invoke, builtin, Sem.run_bind, Sem.run_pure, Result.andThen_ok, List.map_toArray, List.map_cons, List.map_nil, hs, hx, hr]
  exact hK _ _ (h v' w' h2 h3 h4)
end
theorem BldF.refl (b : Nat) (w : World) : BldF b w w := ⟨rfl, rfl, rfl, Nat.le_refl _, fun _ _ _ _ => rfl, fun _ h => .inl h⟩
theorem rowAt_own {w : World} {b R : Nat} {p v : Value} {T : TypeId} {fr : Nat × Nat} (hb : w.heap[b]? = some (.cells #[p, v] T fr)) (hR : RowAt w b R) : v.ownBlock = some R := by
  obtain ⟨p', n, cap, T', fr', e⟩ := hR
  rw [hb] at e; simp at e
  rw [e.1.2]; rfl
theorem rowAt_of {w : World} {b R n cap : Nat} {p : Value} {T : TypeId} {fr : Nat × Nat} (hb : w.heap[b]? = some (.cells #[p, .slice (some ⟨R, 0, none⟩) n cap] T fr)) : RowAt w b R := ⟨_, _, _, _, _, hb⟩
variable {P : Program} {ρ : Ren}
theorem copyCheck_b (L : Lays.n240 P ρ) (X : Builder.X72 P ρ) (B b : Nat) (bs : List Value) (w : World) (h : Lib.IsBuilderF (ρ.t 72) (ρ.t 5) B b bs w) :
    Calls P (ρ.f 240) #[.pointer (some ⟨b, 0, none⟩)] w fun e w' => e = .returned (.tuple #[]) ∧ Lib.BuilderAtF (ρ.t 72) (ρ.t 5) B b (.pointer (some ⟨b, 0, none⟩)) bs w' ∧ BldF b w w' ∧ w'.heap.size = w.heap.size := by
  rcases h with h | h
  · have hh := h
    obtain ⟨hB, v, hbk, hown, hne⟩ := hh
    refine (Any.Builder_copyCheck_fresh L X b w h.cell0 h.shape h.frozen0).mono ?_
    rintro e w' ⟨rfl, rfl⟩
    have hb2 : (w.setCell ⟨b, 0, none⟩ (.pointer (some ⟨b, 0, none⟩))).heap[b]? = some (.cells #[.pointer (some ⟨b, 0, none⟩), v] (ρ.t 72) (0, 0)) := by simp [World.setCell, Array.getElem?_modify, hbk]
    refine ⟨rfl, h.used _, ⟨rfl, rfl, rfl, by simp [World.setCell], fun k _ hk _ => Below.heap_setCell _ _ _ _ hk, fun R hR => ?_⟩, by simp [World.setCell]⟩
    have := rowAt_own hb2 hR
    rcases hown.2 with ⟨rfl, _⟩ | ⟨g, cap, cur, fz, rfl, _⟩
    · cases this
    · cases this; exact .inl (rowAt_of hbk)
  · refine (Any.Builder_copyCheck_used L X b w h.cell0).mono ?_
    rintro e w' ⟨rfl, rfl⟩
    exact ⟨rfl, h, BldF.refl _ _, rfl⟩
set_option maxHeartbeats 2000000 in
set_option maxRecDepth 100000 in
theorem writeString_b (L : Lays.n166 P ρ) (X : Builder.Extra P ρ) (B b : Nat) (bs : List Value) (s : ByteArray) (w : World) (h : Lib.IsBuilderF (ρ.t 72) (ρ.t 5) B b bs w) (hlen : bs.length + s.size ≤ 140737488355328) (hBw : B ≤ w.heap.size) :
    Calls P (ρ.f 166) #[.pointer (some ⟨b, 0, none⟩), .string s] w fun e w' => e = .returned (.tuple #[.int .i64 s.size, .nilIface]) ∧ Lib.BuilderAtF (ρ.t 72) (ρ.t 5) B b (.pointer (some ⟨b, 0, none⟩)) (bs ++ Lib.strCells s) w' ∧ BldF b w w' := by
  obtain ⟨i0, hi, hz0, hz1, hz2⟩ := info_parts X.infoByte
  have mixed := L.mixed
  have t72 := L.t72; have a72 := L.a72; have z72 := L.z72; have v72 := L.v72; have u72 := run_underlying L.t72
  have t70 := L.t70; have a70 := L.a70; have z70 := L.z70; have v70 := L.v70; have u70 := run_underlying L.t70
  have t37 := L.t37; have a37 := L.a37; have z37 := L.z37; have v37 := L.v37; have u37 := run_underlying L.t37
  have t3 := L.t3; have a3 := L.a3; have z3 := L.z3; have v3 := L.v3; have u3 := run_underlying L.t3
  have t9 := L.t9; have a9 := L.a9; have z9 := L.z9; have v9 := L.v9; have u9 := run_underlying L.t9
  have t4 := L.t4; have a4 := L.a4; have z4 := L.z4; have v4 := L.v4; have u4 := run_underlying L.t4
  have t164 := L.t164; have a164 := L.a164; have z164 := L.z164; have v164 := L.v164; have u164 := run_underlying L.t164
  have t5 := X.t5; have a5 := X.a5; have z5 := X.z5; have v5 := X.v5; have u5 := run_underlying X.t5
  have e240 : ∀ args w, (callFunc (ρ.f 240) args).run P w = .ok (.enter (ρ.f 240) args) w := enters_of L.f240 (by kernel_rfl) rfl
  obtain ⟨p0, v0, hb0, hown0, _⟩ : ∃ p v, w.heap[b]? = some (.cells #[p, v] (ρ.t 72) (0, 0)) ∧ w.ownsRowF B (ρ.t 5) 1 v bs.length bs ∧ v.ownBlock ≠ some b := by
    rcases h with ⟨_, v, h1, h2⟩ | ⟨_, v, h1, h2⟩
    · exact ⟨_, v, h1, h2⟩
    · exact ⟨_, v, h1, h2⟩
  go_enter L.f166, Body.n166_ntmps ρ
  go_wp2_with (go_at_fn (ρ.f 240); refine (copyCheck_b { L with } X.toX72 B b bs _ h).mono ?_)
  rintro e w1 ⟨rfl, h1, hf1, hs1⟩
  obtain ⟨hB, v, hbk, hown, hne⟩ := h1
  have c0 : w1.cell? ⟨b, 0, none⟩ = some (.pointer (some ⟨b, 0, none⟩)) := by rw [Lib.cell_of_heap hbk]; rfl
  have c1 : w1.cell? ⟨b, 1, none⟩ = some v := by rw [Lib.cell_of_heap hbk]; rfl
  go_wp2_with (at_builtin; refine wpList_append_bytes rfl _ _ (ρ.t 37) (ρ.t 9) rfl B (ρ.t 5) i0 L.t37 L.t9 hi hz0 hz1 hz2 _ _ _ rfl hown s rfl ?c3 ?c4 ?c5 ?_)
  case c3 => unfold maxLen; omega
  case c4 => omega
  case c5 => rw [hs1]; exact hBw
  intro v' w2 hown' hgrow hrow'
  have hlt : b < w1.heap.size := by
    rcases Nat.lt_or_ge b w1.heap.size with h' | h'
    · exact h'
    · simp [Array.getElem?_eq_none h'] at hbk
  have hb2 : w2.heap[b]? = some (.cells #[.pointer (some ⟨b, 0, none⟩), v] (ρ.t 72) (0, 0)) := by
    rw [hgrow.block b hlt (fun e => hne e.symm)]
    exact hbk
  have d0 : w2.cell? ⟨b, 0, none⟩ = some (.pointer (some ⟨b, 0, none⟩)) := by rw [Lib.cell_of_heap hb2]; rfl
  have d1 : w2.cell? ⟨b, 1, none⟩ = some v := by rw [Lib.cell_of_heap hb2]; rfl
  have f1 : w2.frozen? ⟨b, 1, none⟩ = false := Lib.frozen_of_heap hb2 1
  obtain ⟨ao, n', cap, rfl⟩ : ∃ ao n' cap, v' = .slice ao n' cap := by
    rcases hown'.2 with ⟨hv, _⟩ | ⟨g, cap, cur, fz, hv, _⟩
    · exact ⟨_, _, _, hv⟩
    · exact ⟨_, _, _, hv⟩
  have hrw : ∀ R, v.ownBlock = some R → RowAt w1 b R := fun R hR => by
    rcases hown.2 with ⟨rfl, _⟩ | ⟨g, cap, cur, fz, rfl, _⟩
    · cases hR
    · cases hR; exact rowAt_of hbk
  go_wp2
  go_ret2
  refine ⟨rfl, Lib.BuilderAtF.put (T := (ρ.t 72)) (e := (ρ.t 5)) hB hb2 (bs' := bs ++ Lib.strCells s) (by simpa [Lib.strCells_length] using hown') X.neB5, ?_⟩
  have hb3 : (w2.setCell ⟨b, 1, none⟩ (.slice ao n' cap)).heap[b]? = some (.cells #[.pointer (some ⟨b, 0, none⟩), .slice ao n' cap] (ρ.t 72) (0, 0)) := by simp [World.setCell, Array.getElem?_modify, hb2]
  refine ⟨?_, ?_, ?_, ?_, fun k hk hkb hkr => ?_, fun R hR => ?_⟩
  · exact hgrow.os.trans hf1.os
  · exact hgrow.tape.trans hf1.tape
  · exact hgrow.output.trans hf1.output
  · have := hgrow.size; simp [World.setCell]; omega
  · refine (Below.heap_setCell _ _ _ _ hkb).trans ((hgrow.block k (by omega) (fun e => ?_)).trans (hf1.block k hk hkb hkr))
    exact hkr (((hf1.row k (hrw k e.symm))).resolve_right (by omega))
  · rcases hrow' R (rowAt_own hb3 hR) with h2 | h2
    · exact hf1.row R (hrw R h2)
    · exact .inr (by omega)
set_option maxHeartbeats 1000000 in
set_option maxRecDepth 100000 in
theorem string_b (L : Lays.n169 P ρ) (X : Builder.Extra P ρ) (B b : Nat) (l : List UInt8) (w : World) (h : Lib.IsBuilderF (ρ.t 72) (ρ.t 5) B b (Lib.byteCells l) w) (h0 : l ≠ []) :
    Calls P (ρ.f 169) #[.pointer (some ⟨b, 0, none⟩)] w fun e w' => e = .returned (.string ⟨l.toArray⟩) ∧ Lib.IsBuilderF (ρ.t 72) (ρ.t 5) B b (Lib.byteCells l) w' ∧ BldF b w w' := by
  obtain ⟨p, hp, hAt⟩ : ∃ p, (p = .pointer none ∨ p = .pointer (some ⟨b, 0, none⟩)) ∧ Lib.BuilderAtF (ρ.t 72) (ρ.t 5) B b p (Lib.byteCells l) w := by
    rcases h with h | h
    · exact ⟨_, .inl rfl, h⟩
    · exact ⟨_, .inr rfl, h⟩
  obtain ⟨hB, v, hbk, hown, hne⟩ := hAt
  have hl0 : l.length ≠ 0 := by simpa using h0
  rw [Lib.byteCells_length] at hown
  obtain ⟨g, cap, cur, fz, rfl, hbg, hg, hfz, hnc, hcm, hcs, htake⟩ : ∃ g cap cur fz, v = .slice (some ⟨g, 0, none⟩) l.length cap ∧ B ≤ g ∧ w.heap[g]? = some (.cells cur (ρ.t 5) fz) ∧ fz.2 ≤ l.length * 1 ∧ l.length ≤ cap ∧ cap ≤ maxLen ∧ cur.size = cap * 1 ∧ cur.toList.take (l.length * 1) = Lib.byteCells l := by
    rcases hown.2 with ⟨_, hz⟩ | ⟨g, cap, cur, fz, hv, r⟩
    · exact absurd hz hl0
    · exact ⟨g, cap, cur, fz, hv, r⟩
  have c1 : w.drew.cell? ⟨b, 1, none⟩ = some (.slice (some ⟨g, 0, none⟩) l.length cap) := by
    have : w.drew.heap[b]? = some (.cells #[p, .slice (some ⟨g, 0, none⟩) l.length cap] (ρ.t 72) (0, 0)) := hbk
    rw [Lib.cell_of_heap this]; rfl
  have hSD : (Builtin.unsafeSliceData_ #[(ρ.t 37)] (ρ.t 127) #[.slice (some ⟨g, 0, none⟩) l.length cap]).run P w.drew = .ok (.pointer (some ⟨g, 0, none⟩)) w.drew :=
    Lib.run_unsafeSliceData_row _ _ _ _ _ _ (by omega)
  have hUS : (Builtin.unsafeString_ #[(ρ.t 127), (ρ.t 3)] (ρ.t 9) #[.pointer (some ⟨g, 0, none⟩), .int .i64 l.length]).run P w.drew = .ok (.string ⟨l.toArray⟩) (w.drew.freeze ⟨g, 0, none⟩ l.length) := by
    refine Lib.run_unsafeString_row w.drew (ρ.t 127) (ρ.t 3) (ρ.t 9) (ρ.t 5) L.t127 X.cellsByte g cur.size (by have hg' : w.drew.heap[g]? = some (.cells cur (ρ.t 5) fz) := hg; simp [World.shape?, hg']) l h0 (by omega) (by unfold maxLen at hcm; omega) ?_
    intro j x hx
    have := hown.cells (g := g) rfl j (.int .u8 x.toNat) (by simp [Lib.byteCells, hx])
    exact this
  have hkeep : Lib.IsBuilderF (ρ.t 72) (ρ.t 5) B b (Lib.byteCells l) (w.drew.freeze ⟨g, 0, none⟩ l.length) := by
    have hA : Lib.BuilderAtF (ρ.t 72) (ρ.t 5) B b p (Lib.byteCells l) w.drew := ⟨hB, _, hbk, by rw [Lib.byteCells_length]; exact hown, hne⟩
    have hF := hA.froze (g := g) (cap := cap) (by rw [Lib.byteCells_length]; exact c1)
    rw [Lib.byteCells_length] at hF
    rcases hp with rfl | rfl
    · exact .inl hF
    · exact .inr hF
  have hgb : b ≠ g := fun e => hne (by simp [Value.ownBlock, e])
  have hother : ∀ k, k ≠ g → (w.drew.freeze ⟨g, 0, none⟩ l.length).heap[k]? = w.heap[k]? := fun k hk => by
    unfold World.freeze
    rw [if_neg hl0]
    simp only [Array.getElem?_modify]
    rw [if_neg (fun e => hk e.symm)]
    rfl
  have hframe : BldF b w (w.drew.freeze ⟨g, 0, none⟩ l.length) := by
    refine ⟨?_, ?_, ?_, ?_, fun k _ _ hkr => hother k (fun e => hkr (e ▸ rowAt_of hbk)), fun R hR => .inl (hR.same (hother b hgb))⟩
    · unfold World.freeze; rw [if_neg hl0]; rfl
    · unfold World.freeze; rw [if_neg hl0]; rfl
    · unfold World.freeze; rw [if_neg hl0]; rfl
    · unfold World.freeze; rw [if_neg hl0]; show w.heap.size ≤ (Array.modify w.heap g _).size; rw [Array.size_modify]; exact Nat.le_refl _
  have mixed := L.mixed
  have t72 := L.t72; have a72 := L.a72; have z72 := L.z72; have v72 := L.v72; have u72 := run_underlying L.t72
  have t70 := L.t70; have a70 := L.a70; have z70 := L.z70; have v70 := L.v70; have u70 := run_underlying L.t70
  have t37 := L.t37; have a37 := L.a37; have z37 := L.z37; have v37 := L.v37; have u37 := run_underlying L.t37
  have t127 := L.t127; have a127 := L.a127; have z127 := L.z127; have v127 := L.v127; have u127 := run_underlying L.t127
  have t3 := L.t3; have a3 := L.a3; have z3 := L.z3; have v3 := L.v3; have u3 := run_underlying L.t3
  have t9 := L.t9; have a9 := L.a9; have z9 := L.z9; have v9 := L.v9; have u9 := run_underlying L.t9
  have t5 := X.t5; have a5 := X.a5; have z5 := X.z5; have v5 := X.v5; have u5 := run_underlying X.t5
  go_enter L.f169, Body.n169_ntmps ρ
  go_wp2
  go_region_o
  all_goals (go_wp2; go_ret; exact ⟨rfl, hkeep, hframe⟩)
end Go.Proofs.Fl
namespace Go.Proofs
open Go.Shelf
def Tryz.lays160_ren : Go.Shelf.Ren := ⟨fun | 160 => 189 | 232 => 216 | 231 => 215 | 227 => 217 | 234 => 219 | 233 => 218 | 236 => 221 | 235 => 220 | 228 => 243 | 271 => 246 | 151 => 245 | 197 => 244 | 120 => 258 | 152 => 257 | 260 => 256 | 137 => 265 | 119 => 266 | 224 => 236 | 225 => 235 | 217 => 234 | 266 => 251 | n => n, fun | 9 => 9 | 4 => 4 | 3 => 3 | 5 => 5 | 117 => 214 | 116 => 213 | 0 => 0 | 124 => 217 | 21 => 21 | 105 => 238 | 46 => 199 | 119 => 263 | 139 => 266 | 138 => 265 | n => n, fun | 3 => 3 | 4 => 4 | n => n⟩
theorem Tryz.lays160 : Go.Proofs.Lays.n160 Tryz.prog Tryz.lays160_ren := {
  mixed := by kernel_rfl
  f119 := Tryz.func266.trans (congrArg some (by kernel_rfl))
  f120 := Tryz.func258.trans (congrArg some (by kernel_rfl))
  f137 := Tryz.func265.trans (congrArg some (by kernel_rfl))
  f151 := Tryz.func245.trans (congrArg some (by kernel_rfl))
  f152 := Tryz.func257.trans (congrArg some (by kernel_rfl))
  f160 := Tryz.func189.trans (congrArg some (by kernel_rfl))
  f197 := Tryz.func244.trans (congrArg some (by kernel_rfl))
  f217 := Tryz.func234.trans (congrArg some (by kernel_rfl))
  f224 := Tryz.func236.trans (congrArg some (by kernel_rfl))
  f225 := Tryz.func235.trans (congrArg some (by kernel_rfl))
  f227 := Tryz.func217.trans (congrArg some (by kernel_rfl))
  f228 := Tryz.func243.trans (congrArg some (by kernel_rfl))
  f231 := Tryz.func215.trans (congrArg some (by kernel_rfl))
  f232 := Tryz.func216.trans (congrArg some (by kernel_rfl))
  f233 := Tryz.func218.trans (congrArg some (by kernel_rfl))
  f234 := Tryz.func219.trans (congrArg some (by kernel_rfl))
  f235 := Tryz.func220.trans (congrArg some (by kernel_rfl))
  f236 := Tryz.func221.trans (congrArg some (by kernel_rfl))
  f260 := Tryz.func256.trans (congrArg some (by kernel_rfl))
  f266 := Tryz.func251.trans (congrArg some (by kernel_rfl))
  f271 := Tryz.func246.trans (congrArg some (by kernel_rfl))
  t0 := Tryz.underlying0
  a0 := Tryz.isAgg0
  z0 := Tryz.sizeOf0
  v0 := Tryz.zeroValue0
  t3 := Tryz.underlying3
  a3 := Tryz.isAgg3
  z3 := Tryz.sizeOf3
  v3 := Tryz.zeroValue3
  t4 := Tryz.underlying4
  a4 := Tryz.isAgg4
  z4 := Tryz.sizeOf4
  v4 := Tryz.zeroValue4
  t5 := Tryz.underlying5
  a5 := Tryz.isAgg5
  z5 := Tryz.sizeOf5
  v5 := Tryz.zeroValue5
  t9 := Tryz.underlying9
  a9 := Tryz.isAgg9
  z9 := Tryz.sizeOf9
  v9 := Tryz.zeroValue9
  t21 := Tryz.underlying21
  a21 := Tryz.isAgg21
  z21 := Tryz.sizeOf21
  v21 := Tryz.zeroValue21
  t46 := Tryz.underlying199
  a46 := Tryz.isAgg199
  z46 := Tryz.sizeOf199
  v46 := Tryz.zeroValue199
  t105 := Tryz.underlying238
  a105 := Tryz.isAgg238
  z105 := Tryz.sizeOf238
  v105 := Tryz.zeroValue238
  t116 := Tryz.underlying213
  a116 := Tryz.isAgg213
  z116 := Tryz.sizeOf213
  t117 := Tryz.underlying214
  a117 := Tryz.isAgg214
  z117 := Tryz.sizeOf214
  v117 := Tryz.zeroValue214
  t119 := Tryz.underlying263
  a119 := Tryz.isAgg263
  z119 := Tryz.sizeOf263
  t124 := Tryz.underlying217
  a124 := Tryz.isAgg217
  z124 := Tryz.sizeOf217
  v124 := Tryz.zeroValue217
  t138 := Tryz.underlying265
  a138 := Tryz.isAgg265
  z138 := Tryz.sizeOf265
  v138 := Tryz.zeroValue265
  t139 := Tryz.underlying266
  a139 := Tryz.isAgg266
  z139 := Tryz.sizeOf266
  v139 := Tryz.zeroValue266
  g3 := by kernel_rfl
  g4 := by kernel_rfl }
def Tryz.lays103_ren : Go.Shelf.Ren := ⟨fun | 103 => 126 | 210 => 182 | 206 => 208 | n => n, fun | 9 => 9 | 4 => 4 | 24 => 61 | 3 => 3 | n => n, fun | n => n⟩
theorem Tryz.lays103 : Go.Proofs.Lays.n103 Tryz.prog Tryz.lays103_ren := {
  mixed := by kernel_rfl
  f103 := Tryz.func126.trans (congrArg some (by kernel_rfl))
  f206 := Tryz.func208.trans (congrArg some (by kernel_rfl))
  f210 := Tryz.func182.trans (congrArg some (by kernel_rfl))
  t3 := Tryz.underlying3
  a3 := Tryz.isAgg3
  z3 := Tryz.sizeOf3
  v3 := Tryz.zeroValue3
  t4 := Tryz.underlying4
  a4 := Tryz.isAgg4
  z4 := Tryz.sizeOf4
  v4 := Tryz.zeroValue4
  t9 := Tryz.underlying9
  a9 := Tryz.isAgg9
  z9 := Tryz.sizeOf9
  v9 := Tryz.zeroValue9
  t24 := Tryz.underlying61
  a24 := Tryz.isAgg61
  z24 := Tryz.sizeOf61
  v24 := Tryz.zeroValue61 }
open Go.RowKit in
theorem Tryz.strings_CutPrefix (s p : ByteArray) (w : World) :
    Calls Tryz.prog 126 #[.string s, .string p] w fun e w' => e = .returned (.tuple #[.string ⟨(Lib.trimPrefix s.data.toList p.data.toList).toArray⟩, .bool (Lib.hasPrefix s.data.toList p.data.toList)]) ∧ w' = w := Any.strings_CutPrefix Tryz.lays103 s p w
def Tryz.lays172_ren : Go.Shelf.Ren := ⟨fun | 172 => 187 | 244 => 213 | 245 => 214 | 247 => 238 | 279 => 239 | 280 => 240 | 281 => 241 | 282 => 242 | 287 => 253 | 316 => 254 | 171 => 198 | 205 => 255 | 321 => 263 | 322 => 264 | 243 => 227 | 246 => 248 | 283 => 259 | 284 => 260 | 285 => 261 | 286 => 262 | 129 => 268 | 317 => 267 | 318 => 269 | 319 => 270 | 320 => 271 | 337 => 272 | 338 => 273 | n => n, fun | 9 => 9 | 3 => 3 | 75 => 182 | 76 => 183 | 4 => 4 | 5 => 5 | 167 => 231 | 37 => 195 | 0 => 0 | 85 => 232 | 2 => 2 | 168 => 234 | 53 => 142 | 175 => 247 | 46 => 199 | 210 => 251 | 127 => 223 | 145 => 262 | 143 => 260 | 21 => 21 | 171 => 254 | 173 => 257 | 212 => 269 | 51 => 173 | 20 => 20 | 213 => 270 | 232 => 273 | 233 => 274 | 80 => 67 | n => n, fun | 15 => 1 | 16 => 2 | 17 => 5 | 18 => 6 | 19 => 7 | n => n⟩
theorem Tryz.lays172 : Go.Proofs.Lays.n172 Tryz.prog Tryz.lays172_ren := {
  mixed := by kernel_rfl
  f129 := Tryz.func268.trans (congrArg some (by kernel_rfl))
  f171 := Tryz.func198.trans (congrArg some (by kernel_rfl))
  f172 := Tryz.func187.trans (congrArg some (by kernel_rfl))
  f205 := Tryz.func255.trans (congrArg some (by kernel_rfl))
  f243 := Tryz.func227.trans (congrArg some (by kernel_rfl))
  f244 := Tryz.func213.trans (congrArg some (by kernel_rfl))
  f245 := Tryz.func214.trans (congrArg some (by kernel_rfl))
  f246 := Tryz.func248.trans (congrArg some (by kernel_rfl))
  f247 := Tryz.func238.trans (congrArg some (by kernel_rfl))
  f279 := Tryz.func239.trans (congrArg some (by kernel_rfl))
  f280 := Tryz.func240.trans (congrArg some (by kernel_rfl))
  f281 := Tryz.func241.trans (congrArg some (by kernel_rfl))
  f282 := Tryz.func242.trans (congrArg some (by kernel_rfl))
  f283 := Tryz.func259.trans (congrArg some (by kernel_rfl))
  f284 := Tryz.func260.trans (congrArg some (by kernel_rfl))
  f285 := Tryz.func261.trans (congrArg some (by kernel_rfl))
  f286 := Tryz.func262.trans (congrArg some (by kernel_rfl))
  f287 := Tryz.func253.trans (congrArg some (by kernel_rfl))
  f316 := Tryz.func254.trans (congrArg some (by kernel_rfl))
  f317 := Tryz.func267.trans (congrArg some (by kernel_rfl))
  f318 := Tryz.func269.trans (congrArg some (by kernel_rfl))
  f319 := Tryz.func270.trans (congrArg some (by kernel_rfl))
  f320 := Tryz.func271.trans (congrArg some (by kernel_rfl))
  f321 := Tryz.func263.trans (congrArg some (by kernel_rfl))
  f322 := Tryz.func264.trans (congrArg some (by kernel_rfl))
  f337 := Tryz.func272.trans (congrArg some (by kernel_rfl))
  f338 := Tryz.func273.trans (congrArg some (by kernel_rfl))
  t0 := Tryz.underlying0
  a0 := Tryz.isAgg0
  z0 := Tryz.sizeOf0
  v0 := Tryz.zeroValue0
  t2 := Tryz.underlying2
  a2 := Tryz.isAgg2
  z2 := Tryz.sizeOf2
  v2 := Tryz.zeroValue2
  t3 := Tryz.underlying3
  a3 := Tryz.isAgg3
  z3 := Tryz.sizeOf3
  v3 := Tryz.zeroValue3
  t4 := Tryz.underlying4
  a4 := Tryz.isAgg4
  z4 := Tryz.sizeOf4
  v4 := Tryz.zeroValue4
  t5 := Tryz.underlying5
  a5 := Tryz.isAgg5
  z5 := Tryz.sizeOf5
  v5 := Tryz.zeroValue5
  t9 := Tryz.underlying9
  a9 := Tryz.isAgg9
  z9 := Tryz.sizeOf9
  v9 := Tryz.zeroValue9
  t20 := Tryz.underlying20
  a20 := Tryz.isAgg20
  z20 := Tryz.sizeOf20
  v20 := Tryz.zeroValue20
  t21 := Tryz.underlying21
  a21 := Tryz.isAgg21
  z21 := Tryz.sizeOf21
  v21 := Tryz.zeroValue21
  t37 := Tryz.underlying195
  a37 := Tryz.isAgg195
  z37 := Tryz.sizeOf195
  v37 := Tryz.zeroValue195
  t46 := Tryz.underlying199
  a46 := Tryz.isAgg199
  z46 := Tryz.sizeOf199
  v46 := Tryz.zeroValue199
  t51 := Tryz.underlying173
  a51 := Tryz.isAgg173
  z51 := Tryz.sizeOf173
  v51 := Tryz.zeroValue173
  t53 := Tryz.underlying142
  a53 := Tryz.isAgg142
  z53 := Tryz.sizeOf142
  v53 := Tryz.zeroValue142
  t75 := Tryz.underlying182
  a75 := Tryz.isAgg182
  z75 := Tryz.sizeOf182
  v75 := Tryz.zeroValue182
  t76 := Tryz.underlying183
  a76 := Tryz.isAgg183
  z76 := Tryz.sizeOf183
  v76 := Tryz.zeroValue183
  t85 := Tryz.underlying232
  a85 := Tryz.isAgg232
  z85 := Tryz.sizeOf232
  v85 := Tryz.zeroValue232
  t127 := Tryz.underlying223
  a127 := Tryz.isAgg223
  z127 := Tryz.sizeOf223
  v127 := Tryz.zeroValue223
  t143 := Tryz.underlying260
  a143 := Tryz.isAgg260
  z143 := Tryz.sizeOf260
  v143 := Tryz.zeroValue260
  t145 := Tryz.underlying262
  a145 := Tryz.isAgg262
  z145 := Tryz.sizeOf262
  v145 := Tryz.zeroValue262
  t167 := Tryz.underlying231
  a167 := Tryz.isAgg231
  z167 := Tryz.sizeOf231
  v167 := Tryz.zeroValue231
  t168 := Tryz.underlying234
  a168 := Tryz.isAgg234
  z168 := Tryz.sizeOf234
  v168 := Tryz.zeroValue234
  t171 := Tryz.underlying254
  a171 := Tryz.isAgg254
  z171 := Tryz.sizeOf254
  v171 := Tryz.zeroValue254
  t173 := Tryz.underlying257
  a173 := Tryz.isAgg257
  z173 := Tryz.sizeOf257
  v173 := Tryz.zeroValue257
  t175 := Tryz.underlying247
  a175 := Tryz.isAgg247
  z175 := Tryz.sizeOf247
  v175 := Tryz.zeroValue247
  t210 := Tryz.underlying251
  a210 := Tryz.isAgg251
  z210 := Tryz.sizeOf251
  v210 := Tryz.zeroValue251
  t212 := Tryz.underlying269
  a212 := Tryz.isAgg269
  z212 := Tryz.sizeOf269
  v212 := Tryz.zeroValue269
  t213 := Tryz.underlying270
  a213 := Tryz.isAgg270
  z213 := Tryz.sizeOf270
  t232 := Tryz.underlying273
  a232 := Tryz.isAgg273
  z232 := Tryz.sizeOf273
  v232 := Tryz.zeroValue273
  t233 := Tryz.underlying274
  a233 := Tryz.isAgg274
  z233 := Tryz.sizeOf274
  v233 := Tryz.zeroValue274
  g15 := by kernel_rfl
  g16 := by kernel_rfl
  g17 := by kernel_rfl
  g18 := by kernel_rfl
  g19 := by kernel_rfl }
open Go.RowKit in
theorem Tryz.strconv_Atoi (s : ByteArray) (n : Int) (hl : s.size ≤ 18) (h : Lib.atoi s.data.toList = some n) (w : World) :
    Calls Tryz.prog 187 #[.string s] w fun e w' => e = .returned (.tuple #[.int .i64 n, .nilIface]) ∧ ∃ t, w' = Lib.bytesWorld w 5 t := Any.strconv_Atoi Tryz.lays172 s n hl h w
def Tryz.laysM246_ren : Go.Shelf.Ren := ⟨fun | 246 => 248 | 283 => 259 | 284 => 260 | 285 => 261 | 286 => 262 | 129 => 268 | 317 => 267 | 318 => 269 | 319 => 270 | 320 => 271 | 337 => 272 | 338 => 273 | n => n, fun | 2 => 2 | 3 => 3 | 9 => 9 | 4 => 4 | 171 => 254 | 0 => 0 | 53 => 142 | 37 => 195 | 5 => 5 | 173 => 257 | 212 => 269 | 51 => 173 | 20 => 20 | 213 => 270 | 46 => 199 | 232 => 273 | 233 => 274 | n => n, fun | 17 => 5 | 18 => 6 | 19 => 7 | n => n⟩
def Tryz.laysM243_ren : Go.Shelf.Ren := ⟨fun | 243 => 227 | 246 => 248 | 283 => 259 | 284 => 260 | 285 => 261 | 286 => 262 | 129 => 268 | 317 => 267 | 318 => 269 | 319 => 270 | 320 => 271 | 337 => 272 | 338 => 273 | n => n, fun | 3 => 3 | 9 => 9 | 2 => 2 | 4 => 4 | 171 => 254 | 0 => 0 | 53 => 142 | 37 => 195 | 5 => 5 | 173 => 257 | 212 => 269 | 51 => 173 | 20 => 20 | 213 => 270 | 46 => 199 | 232 => 273 | 233 => 274 | n => n, fun | 17 => 5 | 18 => 6 | 19 => 7 | n => n⟩
def Tryz.laysM171_ren : Go.Shelf.Ren := ⟨fun | 171 => 198 | 243 => 227 | 246 => 248 | 283 => 259 | 284 => 260 | 285 => 261 | 286 => 262 | 129 => 268 | 317 => 267 | 318 => 269 | 319 => 270 | 320 => 271 | 337 => 272 | 338 => 273 | n => n, fun | 3 => 3 | 9 => 9 | 2 => 2 | 4 => 4 | 171 => 254 | 0 => 0 | 53 => 142 | 37 => 195 | 5 => 5 | 173 => 257 | 212 => 269 | 51 => 173 | 20 => 20 | 213 => 270 | 46 => 199 | 232 => 273 | 233 => 274 | n => n, fun | 17 => 5 | 18 => 6 | 19 => 7 | n => n⟩
theorem Tryz.laysM171 : Go.Proofs.LaysM.n171 Tryz.prog Tryz.laysM171_ren := {
  mixed := by kernel_rfl
  f129 := Tryz.func268.trans (congrArg some (by kernel_rfl))
  f171 := Tryz.func198.trans (congrArg some (by kernel_rfl))
  f243 := Tryz.func227.trans (congrArg some (by kernel_rfl))
  f246 := Tryz.func248.trans (congrArg some (by kernel_rfl))
  f283 := Tryz.func259.trans (congrArg some (by kernel_rfl))
  f284 := Tryz.func260.trans (congrArg some (by kernel_rfl))
  f285 := Tryz.func261.trans (congrArg some (by kernel_rfl))
  f286 := Tryz.func262.trans (congrArg some (by kernel_rfl))
  f317 := Tryz.func267.trans (congrArg some (by kernel_rfl))
  f318 := Tryz.func269.trans (congrArg some (by kernel_rfl))
  f319 := Tryz.func270.trans (congrArg some (by kernel_rfl))
  f320 := Tryz.func271.trans (congrArg some (by kernel_rfl))
  f337 := Tryz.func272.trans (congrArg some (by kernel_rfl))
  f338 := Tryz.func273.trans (congrArg some (by kernel_rfl))
  t0 := Tryz.underlying0
  a0 := Tryz.isAgg0
  z0 := Tryz.sizeOf0
  v0 := Tryz.zeroValue0
  t2 := Tryz.underlying2
  a2 := Tryz.isAgg2
  z2 := Tryz.sizeOf2
  v2 := Tryz.zeroValue2
  t3 := Tryz.underlying3
  a3 := Tryz.isAgg3
  z3 := Tryz.sizeOf3
  v3 := Tryz.zeroValue3
  t4 := Tryz.underlying4
  a4 := Tryz.isAgg4
  z4 := Tryz.sizeOf4
  v4 := Tryz.zeroValue4
  t5 := Tryz.underlying5
  a5 := Tryz.isAgg5
  z5 := Tryz.sizeOf5
  v5 := Tryz.zeroValue5
  t9 := Tryz.underlying9
  a9 := Tryz.isAgg9
  z9 := Tryz.sizeOf9
  v9 := Tryz.zeroValue9
  t20 := Tryz.underlying20
  a20 := Tryz.isAgg20
  z20 := Tryz.sizeOf20
  v20 := Tryz.zeroValue20
  t37 := Tryz.underlying195
  a37 := Tryz.isAgg195
  z37 := Tryz.sizeOf195
  v37 := Tryz.zeroValue195
  t46 := Tryz.underlying199
  a46 := Tryz.isAgg199
  z46 := Tryz.sizeOf199
  v46 := Tryz.zeroValue199
  t51 := Tryz.underlying173
  a51 := Tryz.isAgg173
  z51 := Tryz.sizeOf173
  v51 := Tryz.zeroValue173
  t53 := Tryz.underlying142
  a53 := Tryz.isAgg142
  z53 := Tryz.sizeOf142
  v53 := Tryz.zeroValue142
  t171 := Tryz.underlying254
  a171 := Tryz.isAgg254
  z171 := Tryz.sizeOf254
  v171 := Tryz.zeroValue254
  t173 := Tryz.underlying257
  a173 := Tryz.isAgg257
  z173 := Tryz.sizeOf257
  v173 := Tryz.zeroValue257
  t212 := Tryz.underlying269
  a212 := Tryz.isAgg269
  z212 := Tryz.sizeOf269
  v212 := Tryz.zeroValue269
  t213 := Tryz.underlying270
  a213 := Tryz.isAgg270
  z213 := Tryz.sizeOf270
  t232 := Tryz.underlying273
  a232 := Tryz.isAgg273
  z232 := Tryz.sizeOf273
  v232 := Tryz.zeroValue273
  t233 := Tryz.underlying274
  a233 := Tryz.isAgg274
  z233 := Tryz.sizeOf274
  v233 := Tryz.zeroValue274
  g17 := by kernel_rfl
  g18 := by kernel_rfl
  g19 := by kernel_rfl
  i0 := by kernel_rfl
  i2 := by kernel_rfl
  i3 := by kernel_rfl
  i4 := by kernel_rfl
  i5 := by kernel_rfl
  i9 := by kernel_rfl
  i20 := by kernel_rfl
  i37 := by kernel_rfl
  i46 := by kernel_rfl
  i51 := by kernel_rfl
  i53 := by kernel_rfl
  i171 := by kernel_rfl
  i173 := by kernel_rfl
  i212 := by kernel_rfl
  i232 := by kernel_rfl
  i233 := by kernel_rfl
  m17 := by kernel_rfl
  m18 := by kernel_rfl
  m19 := by kernel_rfl }
open Go.RowKit Go.Sort Go.Lib in
theorem Tryz.strconv_Itoa (n : Int) (h0 : -9223372036854775808 ≤ n) (h1 : n ≤ 9223372036854775807) (w : World) (htab : Lib.TabIs Tryz.prog w "internal/strconv.uint64pow10" .u64 Lib.pow10Tab) :
    Calls Tryz.prog 198 #[.int .i64 n] w fun e w' => e = .returned (.string ⟨(Lib.itoa n).toArray⟩) ∧ ∃ k os, w' = grow (w.drewN k) os := Any.strconv_Itoa Tryz.laysM171 n h0 h1 w htab
def Tryz.lays219_ren : Go.Shelf.Ren := ⟨fun | 219 => 209 | 217 => 234 | 225 => 235 | 224 => 236 | 267 => 237 | 266 => 251 | 314 => 252 | n => n, fun | 9 => 9 | 3 => 3 | 4 => 4 | 5 => 5 | 46 => 199 | 146 => 224 | 51 => 173 | n => n, fun | 1 => 0 | n => n⟩
def Tryz.lays145_ren : Go.Shelf.Ren := ⟨fun | 145 => 127 | 220 => 183 | 219 => 209 | 217 => 234 | 225 => 235 | 224 => 236 | 267 => 237 | 266 => 251 | 314 => 252 | n => n, fun | 9 => 9 | 4 => 4 | 59 => 135 | 3 => 3 | 5 => 5 | 46 => 199 | 146 => 224 | 51 => 173 | n => n, fun | 1 => 0 | n => n⟩
theorem Tryz.lays145 : Go.Proofs.Lays.n145 Tryz.prog Tryz.lays145_ren := {
  mixed := by kernel_rfl
  f145 := Tryz.func127.trans (congrArg some (by kernel_rfl))
  f217 := Tryz.func234.trans (congrArg some (by kernel_rfl))
  f219 := Tryz.func209.trans (congrArg some (by kernel_rfl))
  f220 := Tryz.func183.trans (congrArg some (by kernel_rfl))
  f224 := Tryz.func236.trans (congrArg some (by kernel_rfl))
  f225 := Tryz.func235.trans (congrArg some (by kernel_rfl))
  f266 := Tryz.func251.trans (congrArg some (by kernel_rfl))
  f267 := Tryz.func237.trans (congrArg some (by kernel_rfl))
  f314 := Tryz.func252.trans (congrArg some (by kernel_rfl))
  t3 := Tryz.underlying3
  a3 := Tryz.isAgg3
  z3 := Tryz.sizeOf3
  v3 := Tryz.zeroValue3
  t4 := Tryz.underlying4
  a4 := Tryz.isAgg4
  z4 := Tryz.sizeOf4
  v4 := Tryz.zeroValue4
  t5 := Tryz.underlying5
  a5 := Tryz.isAgg5
  z5 := Tryz.sizeOf5
  v5 := Tryz.zeroValue5
  t9 := Tryz.underlying9
  a9 := Tryz.isAgg9
  z9 := Tryz.sizeOf9
  v9 := Tryz.zeroValue9
  t46 := Tryz.underlying199
  a46 := Tryz.isAgg199
  z46 := Tryz.sizeOf199
  v46 := Tryz.zeroValue199
  t51 := Tryz.underlying173
  a51 := Tryz.isAgg173
  z51 := Tryz.sizeOf173
  v51 := Tryz.zeroValue173
  t59 := Tryz.underlying135
  a59 := Tryz.isAgg135
  z59 := Tryz.sizeOf135
  v59 := Tryz.zeroValue135
  t146 := Tryz.underlying224
  a146 := Tryz.isAgg224
  z146 := Tryz.sizeOf224
  v146 := Tryz.zeroValue224
  g1 := by kernel_rfl }
open Go.RowKit Go.Lib in
theorem Tryz.strings_Cut (s sep : ByteArray) (m : Int) (w : World) (hs : s.size < 4294967281) (hm : w.cell? ⟨0, 0, none⟩ = some (.int .i64 m)) :
    Calls Tryz.prog 127 #[.string s, .string sep] w fun e w' => e = .returned (.tuple #[.string ⟨(Lib.cut s.data.toList sep.data.toList).1.toArray⟩, .string ⟨(Lib.cut s.data.toList sep.data.toList).2.1.toArray⟩, .bool (Lib.cut s.data.toList sep.data.toList).2.2]) ∧ ∃ n, w' = w.drewN n := Any.strings_Cut Tryz.lays145 s sep m w hs hm
def Tryz.lays105_ren : Go.Shelf.Ren := ⟨fun | 105 => 158 | 212 => 201 | 99 => 202 | 165 => 203 | 166 => 199 | 170 => 204 | 169 => 200 | 263 => 229 | 264 => 230 | 206 => 208 | 240 => 228 | 241 => 231 | 276 => 249 | 277 => 250 | n => n, fun | 9 => 9 | 3 => 3 | 4 => 4 | 20 => 20 | 0 => 0 | 46 => 199 | 109 => 200 | 5 => 5 | 72 => 197 | 76 => 183 | 51 => 173 | 146 => 224 | 53 => 142 | 148 => 226 | 70 => 194 | 37 => 195 | 75 => 182 | 127 => 223 | 164 => 243 | 80 => 67 | n => n, fun | n => n⟩
theorem Tryz.lays105 : Go.Proofs.Lays.n105 Tryz.prog Tryz.lays105_ren := {
  mixed := by kernel_rfl
  f99 := Tryz.func202.trans (congrArg some (by kernel_rfl))
  f105 := Tryz.func158.trans (congrArg some (by kernel_rfl))
  f165 := Tryz.func203.trans (congrArg some (by kernel_rfl))
  f166 := Tryz.func199.trans (congrArg some (by kernel_rfl))
  f169 := Tryz.func200.trans (congrArg some (by kernel_rfl))
  f170 := Tryz.func204.trans (congrArg some (by kernel_rfl))
  f206 := Tryz.func208.trans (congrArg some (by kernel_rfl))
  f212 := Tryz.func201.trans (congrArg some (by kernel_rfl))
  f240 := Tryz.func228.trans (congrArg some (by kernel_rfl))
  f241 := Tryz.func231.trans (congrArg some (by kernel_rfl))
  f263 := Tryz.func229.trans (congrArg some (by kernel_rfl))
  f264 := Tryz.func230.trans (congrArg some (by kernel_rfl))
  f276 := Tryz.func249.trans (congrArg some (by kernel_rfl))
  f277 := Tryz.func250.trans (congrArg some (by kernel_rfl))
  t0 := Tryz.underlying0
  a0 := Tryz.isAgg0
  z0 := Tryz.sizeOf0
  v0 := Tryz.zeroValue0
  t3 := Tryz.underlying3
  a3 := Tryz.isAgg3
  z3 := Tryz.sizeOf3
  v3 := Tryz.zeroValue3
  t4 := Tryz.underlying4
  a4 := Tryz.isAgg4
  z4 := Tryz.sizeOf4
  v4 := Tryz.zeroValue4
  t5 := Tryz.underlying5
  a5 := Tryz.isAgg5
  z5 := Tryz.sizeOf5
  v5 := Tryz.zeroValue5
  t9 := Tryz.underlying9
  a9 := Tryz.isAgg9
  z9 := Tryz.sizeOf9
  v9 := Tryz.zeroValue9
  t20 := Tryz.underlying20
  a20 := Tryz.isAgg20
  z20 := Tryz.sizeOf20
  v20 := Tryz.zeroValue20
  t37 := Tryz.underlying195
  a37 := Tryz.isAgg195
  z37 := Tryz.sizeOf195
  v37 := Tryz.zeroValue195
  t46 := Tryz.underlying199
  a46 := Tryz.isAgg199
  z46 := Tryz.sizeOf199
  v46 := Tryz.zeroValue199
  t51 := Tryz.underlying173
  a51 := Tryz.isAgg173
  z51 := Tryz.sizeOf173
  v51 := Tryz.zeroValue173
  t53 := Tryz.underlying142
  a53 := Tryz.isAgg142
  z53 := Tryz.sizeOf142
  v53 := Tryz.zeroValue142
  t70 := Tryz.underlying194
  a70 := Tryz.isAgg194
  z70 := Tryz.sizeOf194
  v70 := Tryz.zeroValue194
  t72 := Tryz.underlying197
  a72 := Tryz.isAgg197
  z72 := Tryz.sizeOf197
  v72 := Tryz.zeroValue197
  t75 := Tryz.underlying182
  a75 := Tryz.isAgg182
  z75 := Tryz.sizeOf182
  v75 := Tryz.zeroValue182
  t76 := Tryz.underlying183
  a76 := Tryz.isAgg183
  z76 := Tryz.sizeOf183
  v76 := Tryz.zeroValue183
  t109 := Tryz.underlying200
  a109 := Tryz.isAgg200
  z109 := Tryz.sizeOf200
  v109 := Tryz.zeroValue200
  t127 := Tryz.underlying223
  a127 := Tryz.isAgg223
  z127 := Tryz.sizeOf223
  v127 := Tryz.zeroValue223
  t146 := Tryz.underlying224
  a146 := Tryz.isAgg224
  z146 := Tryz.sizeOf224
  v146 := Tryz.zeroValue224
  t148 := Tryz.underlying226
  a148 := Tryz.isAgg226
  z148 := Tryz.sizeOf226
  v148 := Tryz.zeroValue226
  t164 := Tryz.underlying243
  a164 := Tryz.isAgg243
  z164 := Tryz.sizeOf243
  v164 := Tryz.zeroValue243 }
theorem Tryz.Builder_Extra_105 : Builder.Extra Tryz.prog Tryz.lays105_ren := {
  sizeBuilder := by kernel_rfl
  liesBuilder := by kernel_rfl
  t5 := Tryz.underlying5
  a5 := Tryz.isAgg5
  z5 := Tryz.sizeOf5
  v5 := Tryz.zeroValue5
  infoByte := by kernel_rfl
  cellsByte := by kernel_rfl
  sizeByte := by kernel_rfl
  neB5 := by decide }
open Go.RowKit Go.Lib in
theorem Tryz.strings_Repeat (s : ByteArray) (c : Nat) (w : World) (hc : c ≤ 9223372036854775807) (hlen : s.size * c ≤ 140737488355328) :
    Calls Tryz.prog 158 #[.string s, .int .i64 c] w fun e w' => e = .returned (.string ⟨(Lib.repeatL s.data.toList c).toArray⟩) ∧ Below w.heap.size w w' := Any.strings_Repeat Tryz.lays105 Tryz.Builder_Extra_105 s c w hc hlen
end Go.Proofs
namespace Go.Proofs.Fl
open Go.RowKit Go.Shelf
theorem VRL.one {H : Heap} {args : List Value} {x : IV} (h : VRL H args [x]) : ∃ v, args = [v] ∧ VR H v x := by
  cases h with | cons v _ vs _ h t => cases t; exact ⟨v, rfl, h⟩
theorem VRL.two {H : Heap} {args : List Value} {x y : IV} (h : VRL H args [x, y]) : ∃ u v, args = [u, v] ∧ VR H u x ∧ VR H v y := by
  cases h with | cons u _ us _ h t => obtain ⟨v, rfl, hv⟩ := t.one; exact ⟨u, v, rfl, h, hv⟩
theorem strSize (s : ByteArray) : s.size = s.data.toList.length := Lib.size_eq s
theorem pure_lib {J : Keep} {f : FuncId} {xs : List IV} {r : IV} (hf : ∃ fn, Tryz.prog.funcs[f]? = some fn ∧ (fn.name == "runtime.NumGoroutine") = false ∧ fn.body.isNone = false)
    (h : ∀ (H : Heap) (w : World) (args : List Value), J.I w → VRL H args xs → Calls Tryz.prog f args.toArray w fun e w' => ∃ v, e = .returned v ∧ (∀ H, VR H v r) ∧ Below w.heap.size w w') : C J f xs r := by
  refine ⟨hf, fun H w args hI hH hargs => (h H w args hI hargs).mono ?_⟩
  rintro e w' ⟨v, rfl, hv, hb⟩
  refine ⟨v, H, rfl, fun b arr hb' => ?_, HExt.refl _ _, hv H, hb⟩
  obtain ⟨t, fr, ht⟩ := hH b arr hb'
  exact ⟨t, fr, (hb.block b (hH.lt hb')).trans ht⟩
theorem below_grow (w : World) (k : Nat) (os : Array Obj) : Below w.heap.size w (Go.Sort.grow (w.drewN k) os) := by
  refine ⟨rfl, rfl, rfl, ?_, fun j hj => ?_⟩
  · simp [Go.Sort.grow, World.drewN]
  · simp [Go.Sort.grow, World.drewN, Array.getElem?_append, hj]
theorem f158_ok (J : Keep) {s : List UInt8} {c : Nat} (hc : s.length * c ≤ 140737488355328) (hc2 : c ≤ 9223372036854775807) : C J 158 [.str s, .int .i64 (c : Nat)] (.str (Lib.repeatL s c)) := by
  refine pure_lib ⟨_, Tryz.func158, rfl, rfl⟩ fun H w args hI hargs => ?_
  obtain ⟨u, v, rfl, hu, hv⟩ := hargs.two
  obtain ⟨s, rfl, rfl⟩ := VR.asStr hu
  rw [VR.asInt hv]
  refine (Tryz.strings_Repeat s c w hc2 (by rw [strSize]; exact hc)).mono ?_
  rintro e w' ⟨rfl, hb⟩
  exact ⟨_, rfl, fun H => .str _ _ (by simp), hb⟩
theorem f126_ok (J : Keep) (s p : List UInt8) : C J 126 [.str s, .str p] (.tup [.str (Lib.trimPrefix s p), .bool (Lib.hasPrefix s p)]) := by
  refine pure_lib ⟨_, Tryz.func126, rfl, rfl⟩ fun H w args hI hargs => ?_
  obtain ⟨u, v, rfl, hu, hv⟩ := hargs.two
  obtain ⟨s, rfl, rfl⟩ := VR.asStr hu
  obtain ⟨p, rfl, rfl⟩ := VR.asStr hv
  refine (Tryz.strings_CutPrefix s p w).mono ?_
  rintro e w' ⟨rfl, rfl⟩
  exact ⟨_, rfl, fun H => .tup [_, _] _ (.cons _ _ _ _ (.str _ _ (by simp)) (.cons _ _ _ _ (.bool _) .nil)), Below.refl _ _⟩
structure LibI (J : Keep) : Prop where
  pow10 : ∀ w, J.I w → Lib.TabIs Tryz.prog w "internal/strconv.uint64pow10" .u64 Lib.pow10Tab
  maxLen : ∀ w, J.I w → ∃ m, w.cell? ⟨0, 0, none⟩ = some (.int .i64 m)
theorem f198_ok {J : Keep} (L : LibI J) {n : Int} (h0 : -9223372036854775808 ≤ n) (h1 : n ≤ 9223372036854775807) : C J 198 [.int .i64 n] (.str (Lib.itoa n)) := by
  refine pure_lib ⟨_, Tryz.func198, rfl, rfl⟩ fun H w args hI hargs => ?_
  obtain ⟨u, rfl, hu⟩ := hargs.one
  rw [VR.asInt hu]
  refine (Tryz.strconv_Itoa n h0 h1 w (L.pow10 w hI)).mono ?_
  rintro e w' ⟨rfl, k, os, rfl⟩
  exact ⟨_, rfl, fun H => .str _ _ (by simp), below_grow _ _ _⟩
theorem f187_ok (J : Keep) {s : List UInt8} {n : Int} (hl : s.length ≤ 18) (h : Lib.atoi s = some n) : C J 187 [.str s] (.tup [.int .i64 n, .nil 0]) := by
  refine pure_lib ⟨_, Tryz.func187, rfl, rfl⟩ fun H w args hI hargs => ?_
  obtain ⟨u, rfl, hu⟩ := hargs.one
  obtain ⟨s, rfl, rfl⟩ := VR.asStr hu
  refine (Tryz.strconv_Atoi s n (by rw [strSize]; exact hl) h w).mono ?_
  rintro e w' ⟨rfl, t, rfl⟩
  exact ⟨_, rfl, fun H => .tup [_, _] _ (.cons _ _ _ _ (.int _ _) (.cons _ _ _ _ .nilI .nil)), Lib.bytesWorld_below w 5 t⟩
theorem f127_ok {J : Keep} (L : LibI J) {s p : List UInt8} (hs : s.length < 4294967281) : C J 127 [.str s, .str p] (.tup [.str (Lib.cut s p).1, .str (Lib.cut s p).2.1, .bool (Lib.cut s p).2.2]) := by
  refine pure_lib ⟨_, Tryz.func127, rfl, rfl⟩ fun H w args hI hargs => ?_
  obtain ⟨u, v, rfl, hu, hv⟩ := hargs.two
  obtain ⟨s, rfl, rfl⟩ := VR.asStr hu
  obtain ⟨p, rfl, rfl⟩ := VR.asStr hv
  obtain ⟨m, hm⟩ := L.maxLen w hI
  refine (Tryz.strings_Cut s p m w (by rw [strSize]; exact hs) hm).mono ?_
  rintro e w' ⟨rfl, n, rfl⟩
  exact ⟨_, rfl, fun H => .tup [_, _, _] _ (.cons _ _ _ _ (.str _ _ (by simp)) (.cons _ _ _ _ (.str _ _ (by simp)) (.cons _ _ _ _ (.bool _) .nil))), ⟨rfl, rfl, rfl, Nat.le_refl _, fun _ _ => rfl⟩⟩
theorem byteCells_append (a b : List UInt8) : Lib.byteCells (a ++ b) = Lib.byteCells a ++ Lib.byteCells b := by simp [Lib.byteCells]
theorem strCells_eq (s : ByteArray) : Lib.strCells s = Lib.byteCells s.data.toList := by
  simp [Lib.strCells, Lib.byteCells]
theorem bld199 {s t : List UInt8} (hl : s.length + t.length ≤ 140737488355328) : BldC Tryz.prog 199 s [.str t] (s ++ t) (.tup [.int .i64 (t.length : Nat), .nil 0]) := by
  refine ⟨⟨_, Tryz.func199, rfl, rfl⟩, fun H w b args hargs hb => ?_⟩
  obtain ⟨u, rfl, hu⟩ := hargs.one
  obtain ⟨t, rfl, rfl⟩ := VR.asStr hu
  refine (writeString_b { Tryz.lays105 with } Tryz.Builder_Extra_105 0 b (Lib.byteCells s) t w hb (by rw [Lib.byteCells_length, strSize]; exact hl) (Nat.zero_le _)).mono ?_
  rintro e w' ⟨rfl, h1, h2⟩
  refine ⟨_, rfl, fun H => .tup [_, _] _ (.cons _ _ _ _ ?_ (.cons _ _ _ _ .nilI .nil)), .inr ?_, h2⟩
  · rw [strSize]; exact .int _ _
  · rw [byteCells_append, ← strCells_eq]; exact h1
theorem bld200 {s : List UInt8} (hs : s ≠ []) : BldC Tryz.prog 200 s [] s (.str s) := by
  refine ⟨⟨_, Tryz.func200, rfl, rfl⟩, fun H w b args hargs hb => ?_⟩
  cases hargs
  refine (string_b { Tryz.lays105 with } Tryz.Builder_Extra_105 0 b s w hb hs).mono ?_
  rintro e w' ⟨rfl, h1, h2⟩
  exact ⟨_, rfl, fun H => .str _ _ (by simp), h1, h2⟩
section
variable {J : Keep} {nt : Nat} {σ : AS} {K : Exit → AS → Prop}
theorem W.build (n : Nat) {id : Nat} {all : Array Oper} {o : Oper} {fo p : Operand} {args : List Operand} {ats : Array TypeId} (ho : all.toList[n]? = some o) (hd : dstsOk nt all.toList = true) (hg : o.guard = none) (hop : o.op = .call { callee := .value fo, args := (p :: args).toArray, argTypes := ats })
    (h : opsP TT (cx J).C all (all.toList.take n) σ.nx σ.tm σ.bx [] fun tm bx _ => match evS tm fo, evS tm p, toIs bx (evS tm) args with
      | .iv (.fn f), .ptr g 0, some (xs, []) => ∃ s s' r, bx g = some (.bld s) ∧ (∀ g' s', bx g' = some (.bld s') → g' = g) ∧ BldC Tryz.prog f s xs s' r ∧
          opsP TT (cx J).C all (all.toList.drop (n + 1)) (σ.nx + n + 1) (putS tm o.dst (.iv r)) (upd bx g (some (.bld s'))) [] fun tm bx _ => K .normal ⟨tm, bx, σ.nx + all.size⟩
      | _, _, _ => False) : W J nt (.region id all false) σ K := by
  unfold W
  exact CW.build (X := cx J) n ho hd hg hop h
theorem W.newBld {id : Nat} {o : Oper} {d : Nat} (hd : Nat.blt d nt = true) (hdst : o.dst = some d) (hg : o.guard = none) (hop : o.op = .alloc bldT)
    (hb : σ.bx σ.nx = none) (h : K .normal ⟨upd σ.tm d (.ptr σ.nx 0), upd σ.bx σ.nx (some (.bld [])), σ.nx + 1⟩) : W J nt (.region id #[o] false) σ K := by
  unfold W
  exact CW.newBld (X := cx J) ((by simpa [Nat.blt_eq] using hd)) hdst hg hop (i := (Tryz.prog.info? bldT).getD default) (by kernel_rfl) (by kernel_rfl) hb h
end
end Go.Proofs.Fl
namespace Go.Proofs.Fl
open Go.RowKit Go.ChangeShapes Go.WideShapes
attribute [local irreducible] IntKind.wrap PureC MutC MakC IterC
theorem cell_keep {w w' : World} (hb : Below w.heap.size w w') {a : Addr} {v : Value} (hc : w.cell? a = some v) : w'.cell? a = some v := (hb.cell (World.block_lt_of_cell? w a hc)).trans hc
theorem tab_keep {P : Program} {n : String} {g : Nat} {k : IntKind} {zs : List Int} {w w' : World} (hg : P.globalNamed n = some g) (h : Lib.TabIs P w n k zs) (hb : Below w.heap.size w w') : Lib.TabIs P w' n k zs := by
  unfold Lib.TabIs World.var? at h ⊢
  rw [hg] at h ⊢
  simp only [Option.bind_some] at h ⊢
  have hlt : g < w.heap.size := by
    rcases Nat.lt_or_ge g w.heap.size with h' | h'
    · exact h'
    · rw [Array.getElem?_eq_none h'] at h; cases h
  rw [hb.block g hlt]
  exact h
theorem gPow : Tryz.prog.globalNamed "internal/strconv.uint64pow10" = some ((Tryz.prog.globalNamed "internal/strconv.uint64pow10").getD 0) := by kernel_rfl
theorem below_less {n m : Nat} {w w' : World} (h : Below n w w') (hm : m ≤ n) : Below m w w' := ⟨h.os, h.tape, h.output, h.size, fun k hk => h.block k (by omega)⟩
def lawJ : Keep where
  I w := Lib.TabIs Tryz.prog w "internal/strconv.uint64pow10" .u64 Lib.pow10Tab ∧ ∃ m, w.cell? ⟨0, 0, none⟩ = some (.int .i64 m)
  bel n w w' h hn hb := ⟨tab_keep gPow h.1 (below_less hb hn), by obtain ⟨m, hm⟩ := h.2; exact ⟨m, cell_keep (below_less hb hn) hm⟩⟩
  ro := fun r => r = none
  r0 := rfl
theorem lawL : LibI lawJ := ⟨fun _ h => h.1, fun _ h => h.2⟩
theorem below_kept {W W' : World} (h : Below W.heap.size W W') (may : MemPlace → Prop) : W.keptBut W' may := by
  refine ⟨h.os, h.output, fun i hi => ?_⟩
  rw [h.block i hi]
  cases W.heap[i]? with
  | none => rfl
  | some o => cases o <;> first | rfl | exact ⟨rfl, rfl, rfl, fun _ _ => rfl⟩ | exact .inr ⟨rfl, rfl⟩
theorem trodAll_keep {H : Type} {enc : TypeId × Value → H} {P : Program} (hl : laidOutB P = true) {W W' : World} (hb : Below W.heap.size W W') : ∀ {ts : List TypeId} {vs : List Value} {ds : List (DataW H)} {ps : List MemPlace},
    ts.all (fun t => P.readableRec t && decide (t < P.types.size)) = true → DataW.TrodAll enc P W 0 (fun _ => true) true ts vs ds ps → (∀ x ∈ ps, x.block < W.heap.size) → DataW.TrodAll enc P W' 0 (fun b => decide (b < W.heap.size)) true ts vs ds ps
  | [], _, _, _, _, h, _ => by
    obtain ⟨rfl, rfl, rfl⟩ := trodAll_nil h
    exact h
  | t :: ts, _, _, _, hr, h, hlt => by
    obtain ⟨v, vs1, d, ds1, a, b, rfl, rfl, rfl, h1, h2⟩ := trodAll_cons h
    simp only [List.all_cons, Bool.and_eq_true, decide_eq_true_eq] at hr
    exact ⟨a, b, Below.trod hl hr.1.1 hr.1.2 h1 hb (fun x hx => hlt x (by simp [hx])), trodAll_keep hl hb (by simpa using hr.2) h2 (fun x hx => hlt x (by simp [hx])), rfl⟩
theorem laidOut : laidOutB Tryz.prog = true := by kernel_rfl
theorem ownK : ownKnob Tryz.prog.godebug = none := by kernel_rfl
theorem laid_of_shape {w : World} (h : w.ShapedOpen Tryz.prog) : ∃ m, w.cell? ⟨0, 0, none⟩ = some (.int .i64 m) :=
  Go.Proofs.cell_of_shapedOpen_int (zero := #[.int .i64 0]) (t := 3) h (of_decide_eq_true (by kernel_rfl)) (by kernel_rfl) rfl (by kernel_rfl) (by kernel_rfl) Tryz.underlying3
set_option maxRecDepth 100000 in
theorem law_lifted {f : FuncId} {fn : Func} {s : ChangeSpec} {laid : List (String × DataW Unit)} {os : Os} (started : os.Started) {H : Type} {enc : TypeId × Value → H}
    (hfn : Tryz.prog.funcs[f]? = some fn) (noInit : Tryz.prog.inits.idxOf? f = none) (hv : s.vars = []) (hr : fn.resultTypes = #[4])
    (hs : ∀ ds : List (DataW H), ds.length = fn.params.toList.length → s.fn H ds = { results := [.lit (.bool true)], args := ds })
    (hread : fn.params.toList.all (fun t => Tryz.prog.readableRec t && decide (t < Tryz.prog.types.size)) = true)
    (hlaid : ∀ W, laidMetH Tryz.prog laid W → Lib.TabIs Tryz.prog W "internal/strconv.uint64pow10" .u64 Lib.pow10Tab)
    (witness : ∃ (w : World) (tape : Tape) (i : Input), w.os = os ∧ (w.forCall tape i).Shaped Tryz.prog ∧ i.vars = [] ∧ Input.okWide Tryz.prog (w.forCall tape i) .any w.heap.size f i ∧
      ((s.pre enc Tryz.prog fn [] false (w.forCall tape i).memory i.args ∧ laidMetH Tryz.prog laid (w.forCall tape i).memory) ∧ sizedMet enc Tryz.prog fn (OpenSpec.ofChange s) false (w.forCall tape i).memory i.args) ∧ ({} : Assume).holds Tryz.prog (lone (Frame.enter Tryz.prog f i.args .normal) [] (w.forCall tape i)))
    (hlaw : ∀ (W : World) (base : Nat) (args : Array Value) (ds : List (DataW H)) (p : List MemPlace), (∀ (j : Nat) t v, fn.params[j]? = some t → args[j]? = some v → Value.okWide Tryz.prog W .any base t v) →
      DataW.TrodAll enc Tryz.prog W 0 (fun _ => true) true fn.params.toList args.toList ds p → ∃ (Hp : Heap) (xs : List IV), HeapHas W Hp ∧ VRL Hp args.toList xs ∧ C lawJ f xs (.bool true)) :
    ReturnsInHanded {} Tryz.checked os f .any (fun w args => (s.pre enc Tryz.prog fn [] false w args ∧ laidMetH Tryz.prog laid w) ∧ sizedMet enc Tryz.prog fn (OpenSpec.ofChange s) false w args) (s.post enc Tryz.prog fn false true false false) := by
  refine returnsInHanded_of_calls (C := Tryz.checked) ownK started noInit witness ?_
  intro w tape i _ hsh _ hok hpre _
  obtain ⟨_, _, _, fn', hfn', _, _, _, _, hval⟩ := hok
  obtain rfl : fn' = fn := Option.some.inj (hfn'.symm.trans hfn)
  obtain ⟨⟨⟨ds, gs, before, hw, hc⟩, hx⟩, hz⟩ := hpre
  have hw' := DataW.Whole.of_heap (w' := w.forCall tape i) (by rfl) hw
  have hx' : laidMetH Tryz.prog laid (w.forCall tape i) := hx.of_heap (by rfl)
  obtain ⟨W, hW⟩ : ∃ W, w.forCall tape i = W := ⟨_, rfl⟩
  rw [hW] at hsh hval hw' hx' ⊢
  have hlt := hw'.lt
  have hw2 := hw'
  obtain ⟨p, q, hA, hV, rfl, _, _⟩ := hw2
  obtain ⟨Hp, xs, hH, hargs, hC⟩ := hlaw W w.heap.size i.args ds p hval hA
  rw [hv] at hV
  obtain ⟨rfl, rfl⟩ : gs = [] ∧ q = [] := by
    cases gs with
    | nil => exact ⟨rfl, hV⟩
    | cons g r => exact absurd hV (by intro h; cases h)
  have hI : lawJ.I W := ⟨hlaid W hx', laid_of_shape hsh⟩
  unfold C PureC at hC
  have hcall := hC.2 Hp W i.args.toList hI hH hargs
  have ha : i.args.toList.toArray = i.args := rfl
  rw [ha] at hcall
  refine hcall.mono ?_
  rintro e W' ⟨v, H', rfl, _, _, hvr, hb⟩
  cases hvr
  have hlen : ds.length = fn'.params.toList.length := by
    have : ∀ {ts : List TypeId} {vs : List Value} {ds : List (DataW H)} {ps : List MemPlace}, DataW.TrodAll enc Tryz.prog W 0 (fun _ => true) true ts vs ds ps → ds.length = ts.length := by
      intro ts
      induction ts with
      | nil => intro vs ds ps h; obtain ⟨rfl, rfl, rfl⟩ := trodAll_nil h; rfl
      | cons t ts ih =>
        intro vs ds ps h
        obtain ⟨v, vs1, d, ds1, a, b, rfl, rfl, rfl, h1, h2⟩ := trodAll_cons h
        simp [ih h2]
    exact this hA
  have e1 : s.fn H (ds ++ []) = { results := [.lit (.bool true)], args := ds } := by rw [List.append_nil]; exact hs ds hlen
  refine ChangeSpec.post_blind ?_
  refine ⟨ds, [], p ++ [], [], p, [], hw', ?_, ?_, ?_, below_kept hb _, fun h => by cases h⟩
  · rw [e1, hr]
    exact trodAll_mk1 (shut_bool Tryz.underlying4 true)
  · rw [e1]
    exact trodAll_keep laidOut hb hread hA (fun x hx => hlt x (by simp [hx]))
  · rw [e1, hv]
    rfl
end Go.Proofs.Fl
namespace Go.Proofs.Fl
open Go.RowKit
attribute [local irreducible] IntKind.wrap PureC MutC MakC IterC
theorem f163_ok (J : Keep) (ds : List IV) : C J 163 [.agg [.sl ds]] (.bool ((ds.length : Int) == 0)) := by
  refine fn_ok Tryz.func163 rfl rfl rfl ?_
  repeat (first | (refine W.RS (by kernel_rfl) ?_; conv => whnf) | (refine W.ret ?_; conv => whnf) | (refine ⟨_, rfl, ?_⟩; conv => whnf) | (refine ⟨rfl, ?_⟩; conv => whnf))
  rfl
theorem f222_ok (J : Keep) (a : Int) : C J 222 [.int .i64 a] (.bool false) := by
  refine fn_ok Tryz.func222 rfl rfl rfl ?_
  repeat (first | (refine W.RS (by kernel_rfl) ?_; conv => whnf) | (refine W.ret ?_; conv => whnf) | (refine ⟨false, bne_eq_false_iff_eq.2 (by omega), ?_⟩; conv => whnf) | (refine ⟨rfl, ?_⟩; conv => whnf))
  simp [oneOf]
theorem f223_ok (J : Keep) (a : Int) : C J 223 [.int .u32 a] (.bool false) := by
  refine fn_ok Tryz.func223 rfl rfl rfl ?_
  repeat (first | (refine W.RS (by kernel_rfl) ?_; conv => whnf) | (refine W.ret ?_; conv => whnf) | (refine ⟨false, bne_eq_false_iff_eq.2 (by omega), ?_⟩; conv => whnf) | (refine ⟨rfl, ?_⟩; conv => whnf))
  simp [oneOf]
def cmpI (a b : Int) : Int := if a < b then -1 else if b < a then 1 else 0
theorem f190_ok (J : Keep) (a b : Int) : C J 190 [.int .i64 a, .int .i64 b] (.int .i64 (cmpI a b)) := by
  refine fn_ok Tryz.func190 rfl rfl rfl ?_
  repeat (first | (refine W.RS (by kernel_rfl) ?_; conv => whnf) | (refine W.S ?_) | (refine W.skip ?_; conv => whnf) | (refine W.condF rfl ?_) | (refine ⟨_, f222_ok _ _, ?_⟩; conv => whnf) | (refine ⟨_, rfl, ?_⟩; conv => whnf) | (refine ⟨rfl, ?_⟩; conv => whnf))
  refine W.cond rfl (fun h => ?_) (fun h => ?_)
  · have h := of_decide_eq_true h
    repeat (first | (refine W.RS (by kernel_rfl) ?_; conv => whnf) | (refine W.ret ?_; conv => whnf))
    simp [oneOf, cmpI, h]
  · have h := of_decide_eq_false h
    repeat (first | (refine W.RS (by kernel_rfl) ?_; conv => whnf) | (refine W.S ?_) | (refine W.skip ?_; conv => whnf) | (refine ⟨_, rfl, ?_⟩; conv => whnf) | (refine ⟨rfl, ?_⟩; conv => whnf))
    refine W.cond rfl (fun h => ?_) (fun h => ?_)
    · have h2 := of_decide_eq_true h
      repeat (first | (refine W.RS (by kernel_rfl) ?_; conv => whnf) | (refine W.ret ?_; conv => whnf))
      simp [oneOf, cmpI]; omega
    · have h2 := of_decide_eq_false h
      repeat (first | (refine W.RS (by kernel_rfl) ?_; conv => whnf) | (refine W.ret ?_; conv => whnf) | (refine W.skip ?_; conv => whnf))
      simp [oneOf, cmpI]; omega
end Go.Proofs.Fl
namespace Go.Proofs.Dig
def nv (B : Nat) : List Nat → Nat
  | [] => 0
  | d :: ds => d + B * nv B ds
theorem nv_nil (B : Nat) : nv B [] = 0 := rfl
theorem nv_cons (B d : Nat) (ds : List Nat) : nv B (d :: ds) = d + B * nv B ds := rfl
theorem nv_append (B : Nat) (a b : List Nat) : nv B (a ++ b) = nv B a + B ^ a.length * nv B b := by
  induction a with
  | nil => simp [nv]
  | cons d a ih => simp only [List.cons_append, nv, ih, List.length_cons, Nat.pow_succ]; rw [Nat.mul_add]; rw [Nat.mul_comm (B ^ a.length) B]; rw [Nat.mul_assoc]; omega
theorem nv_snoc (B d : Nat) (a : List Nat) : nv B (a ++ [d]) = nv B a + B ^ a.length * d := by
  rw [nv_append]; simp [nv]
theorem nv_replicate (B n : Nat) : nv B (List.replicate n 0) = 0 := by
  induction n with
  | zero => rfl
  | succ n ih => simp [List.replicate_succ, nv, ih]
def Dg (B : Nat) (ds : List Nat) : Prop := ∀ d ∈ ds, d < B
theorem Dg.nil (B : Nat) : Dg B [] := by intro d h; simp at h
theorem Dg.append {B : Nat} {a b : List Nat} (ha : Dg B a) (hb : Dg B b) : Dg B (a ++ b) := by
  intro d h; rcases List.mem_append.1 h with h | h
  · exact ha d h
  · exact hb d h
theorem Dg.single {B d : Nat} (h : d < B) : Dg B [d] := by intro x hx; simp at hx; omega
theorem Dg.left {B : Nat} {a b : List Nat} (h : Dg B (a ++ b)) : Dg B a := fun d hd => h d (by simp [hd])
theorem Dg.take {B : Nat} {a : List Nat} (h : Dg B a) (n : Nat) : Dg B (a.take n) := fun d hd => h d (List.mem_of_mem_take hd)
theorem Dg.drop {B : Nat} {a : List Nat} (h : Dg B a) (n : Nat) : Dg B (a.drop n) := fun d hd => h d (List.mem_of_mem_drop hd)
theorem Dg.get {B : Nat} {a : List Nat} (h : Dg B a) {i : Nat} (hi : i < a.length) : a[i] < B := h _ (List.getElem_mem hi)
theorem Dg.getD {B : Nat} {a : List Nat} (h : Dg B a) (hB : 0 < B) (i : Nat) : a.getD i 0 < B := by
  rw [List.getD_eq_getElem?_getD]
  by_cases hi : i < a.length
  · rw [List.getElem?_eq_getElem hi]; exact h.get hi
  · rw [List.getElem?_eq_none (by omega)]; exact hB
theorem Dg.replicate {B : Nat} (hB : 0 < B) (n : Nat) : Dg B (List.replicate n 0) := by
  intro d h; have := List.eq_of_mem_replicate h; omega
theorem Dg.set {B : Nat} {a : List Nat} (h : Dg B a) {i x : Nat} (hx : x < B) : Dg B (a.set i x) := by
  intro d hd
  rcases List.mem_or_eq_of_mem_set hd with h1 | h1
  · exact h d h1
  · omega
theorem nv_lt {B : Nat} {ds : List Nat} (h : Dg B ds) : nv B ds < B ^ ds.length := by
  induction ds with
  | nil => simp [nv]
  | cons d ds ih =>
    have h1 := ih (fun x hx => h x (by simp [hx]))
    have h2 := h d (by simp)
    simp only [nv, List.length_cons, Nat.pow_succ]
    have : B * (nv B ds + 1) ≤ B * B ^ ds.length := Nat.mul_le_mul_left B h1
    rw [Nat.mul_add] at this
    rw [Nat.mul_comm (B ^ ds.length) B]
    omega
def Nm (ds : List Nat) : Prop := ∀ d, ds.getLast? = some d → d ≠ 0
theorem Nm.nil : Nm [] := by intro d h; simp at h
theorem Nm.snoc {a : List Nat} {d : Nat} (h : d ≠ 0) : Nm (a ++ [d]) := by intro x hx; simp at hx; omega
theorem Nm.cons {a : List Nat} {d : Nat} (h : Nm (d :: a)) : Nm a := by
  intro x hx
  cases a with
  | nil => simp at hx
  | cons y a => exact h x (by rw [List.getLast?_cons_cons]; exact hx)
theorem Nm.drop {a : List Nat} (h : Nm a) (n : Nat) : Nm (a.drop n) := by
  intro x hx
  rw [List.getLast?_drop] at hx
  split at hx
  · simp at hx
  · exact h x hx
theorem snoc_of_ne {a : List Nat} (h : a ≠ []) : ∃ b d, a = b ++ [d] := ⟨a.dropLast, a.getLast h, (List.dropLast_concat_getLast h).symm⟩
structure Ok (B : Nat) (ds : List Nat) : Prop where
  dg : Dg B ds
  nm : Nm ds
theorem Ok.nil (B : Nat) : Ok B [] := ⟨Dg.nil B, Nm.nil⟩
theorem nv_ge {B : Nat} {ds : List Nat} (h : Nm ds) (hne : ds ≠ []) : B ^ (ds.length - 1) ≤ nv B ds := by
  obtain ⟨a, d, rfl⟩ := snoc_of_ne hne
  have hd : d ≠ 0 := h d (by simp)
  rw [nv_snoc]
  simp only [List.length_append, List.length_cons, List.length_nil, Nat.zero_add, Nat.add_sub_cancel]
  have : B ^ a.length * 1 ≤ B ^ a.length * d := Nat.mul_le_mul_left _ (by omega)
  omega
theorem nv_pos {B : Nat} (hB : 0 < B) {ds : List Nat} (h : Nm ds) (hne : ds ≠ []) : 0 < nv B ds :=
  Nat.lt_of_lt_of_le (Nat.pow_pos hB) (nv_ge h hne)
theorem nv_zero_iff {B : Nat} (hB : 0 < B) {ds : List Nat} (h : Nm ds) : nv B ds = 0 ↔ ds = [] := by
  constructor
  · intro h0
    by_cases hne : ds = []
    · exact hne
    · have := nv_pos hB h hne; omega
  · rintro rfl; rfl
theorem nv_lt_of_len {B : Nat} (hB : 0 < B) {a b : List Nat} (ha : Dg B a) (hb : Nm b) (h : a.length < b.length) : nv B a < nv B b := by
  have h1 := nv_lt ha
  have h2 : B ^ (b.length - 1) ≤ nv B b := nv_ge hb (by intro e; subst e; simp at h)
  have h3 : B ^ a.length ≤ B ^ (b.length - 1) := Nat.pow_le_pow_right hB (by omega)
  omega
theorem digit_lt {B x y d e : Nat} (hx : x < B) (h : d < e) : x + B * d < y + B * e := by
  have : B * (d + 1) ≤ B * e := Nat.mul_le_mul_left _ (by omega)
  rw [Nat.mul_add] at this; omega
theorem nv_lt_top {B : Nat} {a b c : List Nat} {d e : Nat} (ha : Dg B a) (hl : a.length = b.length) (h : d < e) :
    nv B (a ++ d :: c) < nv B (b ++ e :: c) := by
  rw [nv_append, nv_append, nv_cons, nv_cons, hl, Nat.mul_add, Nat.mul_add]
  have h1 := nv_lt ha
  rw [hl] at h1
  have h2 := digit_lt (y := nv B b) h1 h
  omega
theorem nv_inj {B : Nat} (hB : 1 < B) : ∀ {a b : List Nat}, Ok B a → Ok B b → nv B a = nv B b → a = b
  | [], b, _, hb, h => ((nv_zero_iff (by omega) hb.nm).1 h.symm).symm
  | d :: a, [], ha, _, h => (nv_zero_iff (by omega) ha.nm).1 h
  | d :: a, e :: b, ha, hb, h => by
    simp only [nv] at h
    have h1 := ha.dg d (by simp)
    have h2 := hb.dg e (by simp)
    have h3 : d = e := by
      have := congrArg (· % B) h
      simpa [Nat.add_mul_mod_self_left, Nat.mod_eq_of_lt h1, Nat.mod_eq_of_lt h2] using this
    subst h3
    have h4 : nv B a = nv B b := by
      have : B * nv B a = B * nv B b := by omega
      exact Nat.eq_of_mul_eq_mul_left (by omega) this
    rw [nv_inj hB ⟨fun x hx => ha.dg x (by simp [hx]), ha.nm.cons⟩ ⟨fun x hx => hb.dg x (by simp [hx]), hb.nm.cons⟩ h4]
def strip (ds : List Nat) : List Nat := (ds.reverse.dropWhile (· == 0)).reverse
theorem strip_snoc_zero (a : List Nat) : strip (a ++ [0]) = strip a := by simp [strip]
theorem strip_snoc {a : List Nat} {d : Nat} (h : d ≠ 0) : strip (a ++ [d]) = a ++ [d] := by simp [strip, h]
theorem strip_spec (ds : List Nat) : Nm (strip ds) ∧ ∃ n, ds = strip ds ++ List.replicate n 0 := by
  induction hn : ds.length generalizing ds with
  | zero => have : ds = [] := List.eq_nil_of_length_eq_zero hn; subst this; exact ⟨Nm.nil, 0, rfl⟩
  | succ n ih =>
    obtain ⟨a, d, rfl⟩ := snoc_of_ne (a := ds) (by intro e; subst e; simp at hn)
    by_cases hd : d = 0
    · subst hd
      rw [strip_snoc_zero]
      obtain ⟨h1, k, h2⟩ := ih a (by simpa using hn)
      refine ⟨h1, k + 1, ?_⟩
      rw [List.replicate_succ', ← List.append_assoc, ← h2]
    · rw [strip_snoc hd]
      exact ⟨Nm.snoc hd, 0, by simp⟩
theorem nv_strip (B : Nat) (ds : List Nat) : nv B (strip ds) = nv B ds := by
  obtain ⟨_, n, h⟩ := strip_spec ds
  conv => rhs; rw [h]
  rw [nv_append, nv_replicate]; simp
theorem Dg.strip {B : Nat} {ds : List Nat} (h : Dg B ds) : Dg B (strip ds) := by
  obtain ⟨_, n, e⟩ := strip_spec ds
  rw [e] at h
  exact h.left
theorem Ok.strip {B : Nat} {ds : List Nat} (h : Dg B ds) : Ok B (strip ds) := ⟨h.strip, (strip_spec ds).1⟩
theorem len_le_of_lt {B : Nat} (hB : 1 < B) {a : List Nat} (ha : Ok B a) {k : Nat} (h : nv B a < B ^ k) : a.length ≤ k := by
  by_cases hne : a = []
  · subst hne; simp
  · have h1 := nv_ge (B := B) ha.nm hne
    have h2 : B ^ (a.length - 1) < B ^ k := by omega
    have := (Nat.pow_lt_pow_iff_right hB).1 h2
    omega
theorem nv_take_add (B : Nat) (a : List Nat) (n : Nat) (h : n ≤ a.length) : nv B a = nv B (a.take n) + B ^ n * nv B (a.drop n) := by
  conv => lhs; rw [← List.take_append_drop n a]
  rw [nv_append, List.length_take, Nat.min_eq_left h]
theorem take_succ_getD {a : List Nat} {i : Nat} (h : i < a.length) : a.take (i + 1) = a.take i ++ [a[i]] := by
  rw [List.take_succ_eq_append_getElem h]
theorem nv_take_succ (B : Nat) (a : List Nat) (i : Nat) (h : i < a.length) : nv B (a.take (i + 1)) = nv B (a.take i) + B ^ i * a[i] := by
  rw [take_succ_getD h, nv_snoc, List.length_take, Nat.min_eq_left (by omega)]
theorem nv_drop (B : Nat) (a : List Nat) (i : Nat) (h : i < a.length) : nv B (a.drop i) = a[i] + B * nv B (a.drop (i + 1)) := by
  rw [List.drop_eq_getElem_cons h, nv_cons]
theorem set_take_succ {o : List Nat} {i x : Nat} (h : i < o.length) : (o.set i x).take (i + 1) = o.take i ++ [x] := by
  rw [take_succ_getD (by simpa using h), List.take_set, List.set_eq_of_length_le (by simp; omega)]
  simp
theorem set_drop_succ (o : List Nat) (i x : Nat) : (o.set i x).drop (i + 1) = o.drop (i + 1) := by
  rw [List.drop_set, if_pos (by omega)]
theorem set_drop_self {o : List Nat} {i x : Nat} (h : i < o.length) : (o.set i x).drop i = x :: o.drop (i + 1) := by
  rw [List.drop_eq_getElem_cons (by simpa using h), set_drop_succ]
  simp
theorem carry_step {B i c c' x x' s X : Nat} {A : List Nat} (hA : A.length = i) (h : nv B A + B ^ i * c = X) (hx : x = x' + B * c') (hs : x = s + c) :
    nv B (A ++ [x']) + B ^ (i + 1) * c' = X + B ^ i * s := by
  rw [nv_snoc, hA, Nat.pow_succ, ← h, Nat.mul_assoc]
  have : B ^ i * x = B ^ i * x' + B ^ i * (B * c') := by rw [hx, Nat.mul_add]
  have h2 : B ^ i * x = B ^ i * s + B ^ i * c := by rw [hs, Nat.mul_add]
  omega
theorem borrow_step {B i c c' x s y X Y : Nat} {A : List Nat} (hA : A.length = i) (h : nv B A + Y = X + B ^ i * c) (hx : x + s + c = y + B * c') :
    nv B (A ++ [x]) + (Y + B ^ i * s) = (X + B ^ i * y) + B ^ (i + 1) * c' := by
  rw [nv_snoc, hA, Nat.pow_succ, Nat.mul_assoc]
  have h2 : B ^ i * (x + s + c) = B ^ i * (y + B * c') := by rw [hx]
  rw [Nat.mul_add, Nat.mul_add, Nat.mul_add] at h2
  omega
end Go.Proofs.Dig
namespace Go.Proofs.Fl
open Go.RowKit Go.Proofs.Dig
attribute [local irreducible] IntKind.wrap PureC MutC MakC IterC
theorem f191_ok (J : Keep) (a b : Int) : C J 191 [.int .u32 a, .int .u32 b] (.int .i64 (cmpI a b)) := by
  refine fn_ok Tryz.func191 rfl rfl rfl ?_
  repeat (first | (refine W.RS (by kernel_rfl) ?_; conv => whnf) | (refine W.S ?_) | (refine W.skip ?_; conv => whnf) | (refine W.condF rfl ?_) | (refine ⟨_, f223_ok _ _, ?_⟩; conv => whnf) | (refine ⟨_, rfl, ?_⟩; conv => whnf) | (refine ⟨rfl, ?_⟩; conv => whnf))
  refine W.cond rfl (fun h => ?_) (fun h => ?_)
  · have h := of_decide_eq_true h
    repeat (first | (refine W.RS (by kernel_rfl) ?_; conv => whnf) | (refine W.ret ?_; conv => whnf))
    simp [oneOf, cmpI, h]
  · have h := of_decide_eq_false h
    repeat (first | (refine W.RS (by kernel_rfl) ?_; conv => whnf) | (refine W.S ?_) | (refine W.skip ?_; conv => whnf) | (refine ⟨_, rfl, ?_⟩; conv => whnf) | (refine ⟨rfl, ?_⟩; conv => whnf))
    refine W.cond rfl (fun h => ?_) (fun h => ?_)
    · have h2 := of_decide_eq_true h
      repeat (first | (refine W.RS (by kernel_rfl) ?_; conv => whnf) | (refine W.ret ?_; conv => whnf))
      simp [oneOf, cmpI]; omega
    · have h2 := of_decide_eq_false h
      repeat (first | (refine W.RS (by kernel_rfl) ?_; conv => whnf) | (refine W.ret ?_; conv => whnf) | (refine W.skip ?_; conv => whnf))
      simp [oneOf, cmpI]; omega
abbrev B9 : Nat := 1000000000
def u32 (d : Nat) : IV := .int .u32 d
abbrev mgI (l : List Nat) : IV := .agg [.sl (l.map u32)]
def cmpL (a b : List Nat) : Int := cmpI (nv B9 a) (nv B9 b)
theorem ivEq {k : IntKind} {a b : Int} (h : a = b) : SV.iv (.int k a) = SV.iv (.int k b) := by rw [h]
theorem get_u32 {l : List Nat} {j : Nat} (h : j < l.length) : (l.map u32)[j]? = some (u32 l[j]) := by simp [h]
theorem cmpI_zero {x y : Int} (h : cmpI x y = 0) : x = y := by
  unfold cmpI at h
  split at h
  · cases h
  · split at h
    · cases h
    · omega
theorem bne_false {x y : Int} (h : (x != y) = false) : x = y := by simpa using h
theorem bne_true {x y : Int} (h : (x != y) = true) : x ≠ y := by simpa using h
theorem cmpL_len {a b : List Nat} (ha : Ok B9 a) (hb : Ok B9 b) (h : a.length ≠ b.length) : cmpL a b = cmpI a.length b.length := by
  unfold cmpL cmpI
  rcases Nat.lt_or_gt_of_ne h with h | h
  · have := nv_lt_of_len (by decide) ha.dg hb.nm h
    rw [if_pos (by omega), if_pos (by omega)]
  · have := nv_lt_of_len (by decide) hb.dg ha.nm h
    rw [if_neg (by omega), if_pos (by omega), if_neg (by omega), if_pos (by omega)]
theorem cmpL_top {a b : List Nat} (ha : Ok B9 a) (hb : Ok B9 b) (hl : a.length = b.length) {k : Nat} (hk : k < a.length) (hd : a.drop (k + 1) = b.drop (k + 1)) (hne : a[k] ≠ b[k]'(by omega)) :
    cmpL a b = cmpI (a[k] : Nat) (b[k]'(by omega) : Nat) := by
  have ea : a = a.take k ++ a[k] :: a.drop (k + 1) := by simp
  have eb : b = b.take k ++ b[k]'(by omega) :: a.drop (k + 1) := by rw [hd]; simp
  have hlt : (a.take k).length = (b.take k).length := by simp; omega
  unfold cmpL cmpI
  rcases Nat.lt_or_gt_of_ne hne with h | h
  · have := nv_lt_top (B := B9) (c := a.drop (k + 1)) (ha.dg.take k) hlt h
    rw [← ea, ← eb] at this
    rw [if_pos (by omega), if_pos (by omega)]
  · have := nv_lt_top (B := B9) (c := a.drop (k + 1)) (hb.dg.take k) hlt.symm h
    rw [← ea, ← eb] at this
    rw [if_neg (by omega), if_pos (by omega), if_neg (by omega), if_pos (by omega)]
theorem f133_ok (J : Keep) {a b : List Nat} (ha : Ok B9 a) (hb : Ok B9 b) (hl : a.length < 2 ^ 60) : C J 133 [mgI a, mgI b] (.int .i64 (cmpL a b)) := by
  have la : (a.map u32).length = a.length := by simp
  have lb : (b.map u32).length = b.length := by simp
  refine fn_ok Tryz.func133 rfl rfl rfl ?_
  repeat (first | (refine W.RS (by kernel_rfl) ?_; conv => whnf) | (refine W.S ?_) | (refine ⟨_, f190_ok _ _ _, ?_⟩; conv => whnf) | (refine ⟨_, rfl, ?_⟩; conv => whnf) | (refine ⟨rfl, ?_⟩; conv => whnf))
  refine W.cond rfl (fun h => ?_) (fun h => ?_)
  · have h := bne_true h
    rw [la, lb] at h
    repeat (first | (refine W.RS (by kernel_rfl) ?_; conv => whnf) | (refine W.ret ?_; conv => whnf))
    rw [cmpL_len ha hb (fun e => h (by rw [e]; simp [cmpI])), la, lb]
    rfl
  · have h := cmpI_zero (bne_false h)
    have hab : a.length = b.length := by omega
    repeat (first | (refine W.RS (by kernel_rfl) ?_; conv => whnf) | (refine W.S ?_) | (refine W.block ?_) | (refine W.skip ?_; conv => whnf) | (refine ⟨rfl, _, w64 (by omega), ?_⟩; conv => whnf) | (refine ⟨_, rfl, ?_⟩; conv => whnf))
    refine W.loop (G := { k : Nat // k ≤ a.length ∧ a.drop k = b.drop k }) (fun k => mkA [(2, .ptr 0 0), (3, .ptr 1 0), (6, .iv (.int .i64 ((k.1 : Int) - 1)))] [(0, .var (mgI a)), (1, .var (mgI b))] 2) (fun k => k.1) ⟨a.length, Nat.le_refl _, by simp [hab]⟩
      (Wk.tab [] ⟨⟨rfl, rfl⟩, ⟨rfl, rfl⟩, ⟨?_, rfl⟩, trivial⟩ ⟨rfl, rfl, trivial⟩ rfl) ?_
    · show SV.iv (.int .i64 _) = SV.iv (.int .i64 _)
      rw [la]
    · rintro ⟨k, hk, hd⟩
      dsimp only
      repeat (first | (refine W.RS (by kernel_rfl) ?_; conv => whnf) | (refine W.S ?_) | (refine ⟨_, rfl, ?_⟩; conv => whnf) | (refine ⟨rfl, ?_⟩; conv => whnf))
      refine W.cond rfl (fun h => ?_) (fun h => ?_)
      · have h := of_decide_eq_true h
        obtain ⟨k, rfl⟩ : ∃ j, k = j + 1 := ⟨k - 1, by omega⟩
        have hk1 : k < a.length := by omega
        repeat (first | (refine W.RS (by kernel_rfl) ?_; conv => whnf) | (refine W.S ?_) | (refine W.block ?_) | (refine W.skip ?_; conv => whnf))
        refine ⟨k, _, by omega, get_u32 hk1, rfl, ?_⟩
        conv => whnf
        refine ⟨k, _, by omega, get_u32 (show k < b.length by omega), rfl, ?_⟩
        conv => whnf
        repeat (first | (refine W.RS (by kernel_rfl) ?_; conv => whnf) | (refine ⟨_, f191_ok _ _ _, ?_⟩; conv => whnf) | (refine ⟨_, rfl, ?_⟩; conv => whnf) | (refine ⟨rfl, ?_⟩; conv => whnf))
        refine W.cond rfl (fun h => ?_) (fun h => ?_)
        · have h2 := bne_true h
          repeat (first | (refine W.RS (by kernel_rfl) ?_; conv => whnf) | (refine W.ret ?_; conv => whnf))
          have hne : a[k] ≠ b[k] := fun e => h2 (by rw [e]; simp [cmpI])
          rw [cmpL_top ha hb hab hk1 hd hne]
          rfl
        · have h2 := cmpI_zero (bne_false h)
          repeat (first | (refine W.R (by kernel_rfl) ?_; conv => whnf) | (refine W.skip ?_; conv => whnf) | (refine ⟨rfl, _, w64 (by omega), ?_⟩; conv => whnf))
          refine ⟨⟨k, by omega, ?_⟩, Wk.tab [] ⟨⟨rfl, rfl⟩, ⟨rfl, rfl⟩, ⟨ivEq (by dsimp only; omega), rfl⟩, trivial⟩ ⟨rfl, rfl, trivial⟩ rfl, ?_⟩
          · rw [List.drop_eq_getElem_cons hk1, List.drop_eq_getElem_cons (show k < b.length by omega), hd, show a[k] = b[k] by omega]
          · show k < k + 1
            omega
      · have h := of_decide_eq_false h
        have hk0 : k = 0 := by omega
        subst hk0
        repeat (first | (refine W.RS (by kernel_rfl) ?_; conv => whnf) | (refine W.ret ?_; conv => whnf) | (refine W.exit ?_; conv => whnf))
        have e : a = b := by simpa using hd
        subst e
        simp [oneOf, cmpL, cmpI]
end Go.Proofs.Fl
namespace Go.Proofs.Fl
open Go.RowKit Go.Proofs.Dig
attribute [local irreducible] IntKind.wrap PureC MutC MakC IterC
theorem strip_take_zero {l : List Nat} {n : Nat} (hn : n < l.length) (h0 : l[n] = 0) : strip (l.take (n + 1)) = strip (l.take n) := by
  rw [take_succ_getD hn, h0, strip_snoc_zero]
theorem strip_take_ne {l : List Nat} {n : Nat} (hn : n < l.length) (h0 : l[n] ≠ 0) : strip (l.take (n + 1)) = l.take (n + 1) := by
  rw [take_succ_getD hn, strip_snoc h0]
theorem mgEq {a : List IV} {l : List Nat} (h : a = l.map u32) : IV.agg [.sl a] = mgI l := by rw [h]
theorem f188_ok (J : Keep) {l : List Nat} (hl : l.length < 2 ^ 60) : C J 188 [.sl (l.map u32)] (mgI (strip l)) := by
  have la : (l.map u32).length = l.length := by simp
  refine fn_ok Tryz.func188 rfl rfl rfl ?_
  repeat (first | (refine W.RS (by kernel_rfl) ?_; conv => whnf) | (refine W.S ?_) | (refine W.block ?_) | (refine ⟨_, rfl, ?_⟩; conv => whnf))
  refine W.loop (G := { n : Nat // n ≤ l.length ∧ strip l = strip (l.take n) }) (fun n => mkA [(0, .iv (.sl (l.map u32))), (2, .ptr 0 0), (3, .iv (.int .i64 (n.1 : Int)))] [(0, .var (.agg [.sl []]))] 1) (fun n => n.1) ⟨l.length, Nat.le_refl _, by simp⟩
    (Wk.tab [] ⟨⟨rfl, rfl⟩, ⟨rfl, rfl⟩, ⟨ivEq (by dsimp only; omega), rfl⟩, trivial⟩ ⟨rfl, trivial⟩ rfl) ?_
  rintro ⟨n, hn, hs⟩
  dsimp only
  by_cases h : n = 0
  · subst h
    repeat (first | (refine W.RS (by kernel_rfl) ?_; conv => whnf) | (refine W.S ?_) | (refine W.ret ?_; conv => whnf) | (refine W.exit ?_; conv => whnf) | (refine W.condF rfl ?_) | (refine ⟨false, decide_eq_false (by omega), ?_⟩; conv => whnf) | (refine ⟨_, rfl, ?_⟩; conv => whnf) | (refine ⟨rfl, ?_⟩; conv => whnf) | (refine ⟨by omega, by omega, by omega, .inr (by simp), .inl rfl, ?_⟩; conv => whnf) | (refine ⟨_, fun h => absurd h Bool.false_ne_true, fun _ => rfl, ?_⟩; conv => whnf))
    refine mgEq ?_
    rw [hs]; rfl
  · obtain ⟨n, rfl⟩ : ∃ m, n = m + 1 := ⟨n - 1, by omega⟩
    repeat (first | (refine W.RS (by kernel_rfl) ?_; conv => whnf) | (refine W.S ?_) | (refine ⟨rfl, _, w64 (by omega), ?_⟩; conv => whnf) | (refine ⟨true, decide_eq_true (by omega), ?_⟩; conv => whnf) | (refine ⟨rfl, ?_⟩; conv => whnf))
    refine ⟨n, _, by omega, get_u32 (show n < l.length by omega), rfl, ?_⟩
    conv => whnf
    by_cases h0 : l[n] = 0
    · repeat (first | (refine W.R (by kernel_rfl) ?_; conv => whnf) | (refine W.block ?_) | (refine W.skip ?_; conv => whnf) | (refine W.condT rfl ?_) | (refine ⟨rfl, _, w64 (by omega), ?_⟩; conv => whnf) | (refine ⟨true, decide_eq_true (by omega), ?_⟩; conv => whnf) | (refine ⟨rfl, ?_⟩; conv => whnf) | (refine ⟨_, fun _ => rfl, fun h => absurd h.symm Bool.false_ne_true, ?_⟩; conv => whnf))
      refine ⟨⟨n, by omega, by rw [hs, strip_take_zero (by omega) h0]⟩, Wk.tab [] ⟨⟨rfl, rfl⟩, ⟨rfl, rfl⟩, ⟨ivEq (by dsimp only; omega), rfl⟩, trivial⟩ ⟨rfl, trivial⟩ rfl, ?_⟩
      dsimp only; omega
    · repeat (first | (refine W.RS (by kernel_rfl) ?_; conv => whnf) | (refine W.ret ?_; conv => whnf) | (refine W.exit ?_; conv => whnf) | (refine W.condF rfl ?_) | (refine ⟨false, decide_eq_false (by omega), ?_⟩; conv => whnf) | (refine ⟨_, rfl, ?_⟩; conv => whnf) | (refine ⟨rfl, ?_⟩; conv => whnf) | (refine ⟨by omega, by omega, by omega, .inr (by simp), .inl rfl, ?_⟩; conv => whnf) | (refine ⟨_, fun _ => rfl, fun h => absurd h.symm Bool.false_ne_true, ?_⟩; conv => whnf))
      rw [strip_take_ne (by omega) h0] at hs
      refine mgEq ?_
      rw [hs]; simp
end Go.Proofs.Fl
namespace Go.Proofs.Fl
open Go.RowKit Go.Proofs.Dig
attribute [local irreducible] IntKind.wrap PureC MutC MakC IterC
theorem dg_ex (n : Nat) : ∃ l, Ok B9 l ∧ nv B9 l = n := by
  induction n using Nat.strongRecOn with
  | _ n ih =>
    by_cases h : n = 0
    · exact ⟨[], Ok.nil _, by rw [h]; rfl⟩
    · obtain ⟨l, h1, h2⟩ := ih (n / B9) (Nat.div_lt_self (by omega) (by decide))
      refine ⟨n % B9 :: l, ⟨?_, ?_⟩, ?_⟩
      · intro d hd
        rcases List.mem_cons.1 hd with rfl | hd
        · exact Nat.mod_lt _ (by decide)
        · exact h1.dg d hd
      · intro d hd
        cases l with
        | nil =>
          simp at hd; subst hd
          have : n / B9 = 0 := h2.symm
          have h5 := Nat.div_add_mod n B9
          rw [this] at h5
          omega
        | cons x l => exact h1.nm d (by rwa [List.getLast?_cons_cons] at hd)
      · rw [nv_cons, h2, Nat.mod_add_div]
noncomputable def dg (n : Nat) : List Nat := (dg_ex n).choose
theorem dg_ok (n : Nat) : Ok B9 (dg n) := (dg_ex n).choose_spec.1
theorem dg_nv (n : Nat) : nv B9 (dg n) = n := (dg_ex n).choose_spec.2
theorem dg_of {l : List Nat} (h : Ok B9 l) {n : Nat} (e : nv B9 l = n) : l = dg n := nv_inj (by decide) h (dg_ok n) (by rw [e, dg_nv])
theorem dg_strip {l : List Nat} (h : Dg B9 l) {n : Nat} (e : nv B9 l = n) : strip l = dg n := dg_of (Ok.strip h) (by rw [nv_strip, e])
theorem dg_zero : dg 0 = [] := (dg_of (Ok.nil _) rfl).symm
theorem dg_nil_iff {n : Nat} : dg n = [] ↔ n = 0 := by
  constructor
  · intro h; have := dg_nv n; rw [h] at this; exact this.symm
  · rintro rfl; exact dg_zero
noncomputable def ln (n : Nat) : Nat := (dg n).length
theorem ln_le {n k : Nat} (h : n < B9 ^ k) : ln n ≤ k := len_le_of_lt (by decide) (dg_ok n) (by rw [dg_nv]; exact h)
theorem lt_ln (n : Nat) : n < B9 ^ ln n := by have := nv_lt (dg_ok n).dg; rwa [dg_nv] at this
noncomputable abbrev mag (n : Nat) : IV := .agg [.sl ((dg n).map u32)]
theorem tmodB (a : Nat) : (a : Int).tmod 1000000000 = ((a % 1000000000 : Nat) : Int) := by
  rw [Int.tmod_eq_emod_of_nonneg (by omega)]; omega
theorem tdivB (a : Nat) : (a : Int).tdiv 1000000000 = ((a / 1000000000 : Nat) : Int) := by
  rw [Int.tdiv_eq_ediv_of_nonneg (by omega)]; omega
theorem wuq {a : Nat} (h : a ≤ 18446744073709551615) : IntKind.wrap .u64 ((a : Int).tdiv 1000000000) = ((a / 1000000000 : Nat) : Int) := by
  rw [tdivB]; exact wu64 (by omega)
theorem one32 {z : IV} {k : IntKind} {n : Int} : ∀ y ∈ List.take 1 (List.drop 0 ((List.replicate 1 z).set 0 (IV.int k n))), y.cells.length = 1 ∧ y.isTup = false := by
  intro y hy
  simp at hy; subst hy; exact ⟨rfl, rfl⟩
theorem nin1 {a b : Nat} (h : Nat.beq a b = false) : ¬ a ∈ [b] := fun e => Nat.ne_of_beq_eq_false h (List.mem_singleton.1 e)
def smInv (p : List Nat × Nat) : AS :=
  match p.1 with
  | [] => mkA [(0, .iv (.int .u64 (p.2 : Int))), (2, .ptr 0 0), (3, .nilS)] [(0, .var (.agg [.sl []]))] 10
  | x :: o => mkA [(0, .iv (.int .u64 (p.2 : Int))), (2, .ptr 0 0), (3, .ref 1 0 (x :: o).length true)] [(0, .var (.agg [.sl []])), (1, .arr 173 1 ((x :: o).map u32) false)] 10
theorem f134_ok (J : Keep) {n : Nat} (hn : n < 2 ^ 64) : C J 134 [.int .u64 n] (mag n) := by
  refine fn_ok Tryz.func134 rfl rfl rfl ?_
  repeat (first | (refine W.RS (by kernel_rfl) ?_; conv => whnf) | (refine W.S ?_) | (refine W.block ?_))
  refine W.loop (G := { p : List Nat × Nat // Dg B9 p.1 ∧ nv B9 p.1 + B9 ^ p.1.length * p.2 = n ∧ (p.2 = 0 → Nm p.1) ∧ p.2 < 2 ^ 64 ∧ p.1.length ≤ 3 }) (fun p => smInv p.1) (fun p => p.1.2) ⟨([], n), Dg.nil _, by simp [nv], fun _ => Nm.nil, hn, by simp⟩
    (Wk.tab [] ⟨⟨rfl, rfl⟩, ⟨rfl, rfl⟩, ⟨rfl, rfl⟩, trivial⟩ ⟨rfl, trivial⟩ rfl) ?_
  rintro ⟨⟨o, m⟩, hd, hv, hnm, hm, hl⟩
  dsimp only at hd hv hnm hm hl
  cases o with
  | nil =>
    show W J _ _ (mkA [(0, .iv (.int .u64 (m : Int))), (2, .ptr 0 0), (3, .nilS)] [(0, .var (.agg [.sl []]))] 10) _
    by_cases h : m = 0
    · subst h
      repeat (first | (refine W.RS (by kernel_rfl) ?_; conv => whnf) | (refine W.S ?_) | (refine W.ret ?_; conv => whnf) | (refine W.exit ?_; conv => whnf) | (refine W.condF rfl ?_) | (refine ⟨false, decide_eq_false (by omega), ?_⟩; conv => whnf) | (refine ⟨rfl, ?_⟩; conv => whnf))
      have hn0 : n = 0 := by rw [← hv]; rfl
      subst hn0
      refine congrArg (fun x => IV.agg [IV.sl x]) ?_
      rw [dg_zero]; rfl
    · repeat (first | (refine W.RS (by kernel_rfl) ?_; conv => whnf) | (refine W.R (by kernel_rfl) ?_; conv => whnf) | (refine W.S ?_) | (refine W.block ?_) | (refine W.skip ?_; conv => whnf) | (refine W.condT rfl ?_) | (refine ⟨by decide, _, tmodB _, ?_⟩; conv => whnf) | (refine ⟨by decide, _, wuq (by omega), ?_⟩; conv => whnf) | (refine ⟨one32, Nat.le_of_ble_eq_true rfl, Nat.le_of_ble_eq_true rfl, ?_⟩; conv => whnf) | (refine ⟨_, w32 (by omega), ?_⟩; conv => whnf) | (refine ⟨true, decide_eq_true (by omega), ?_⟩; conv => whnf) | (refine ⟨_, rfl, ?_⟩; conv => whnf) | (refine ⟨rfl, ?_⟩; conv => whnf))
      refine ⟨⟨([m % 1000000000], m / 1000000000), Dg.single (Nat.mod_lt _ (by decide)), ?_, ?_, by dsimp only; omega, by simp⟩,
        Wk.tab [(1, 17)] ⟨⟨rfl, rfl⟩, ⟨rfl, rfl⟩, ⟨rfl, rfl⟩, trivial⟩ ⟨rfl, rfl, trivial⟩ rfl, ?_⟩
      · simp [nv, B9] at hv ⊢; omega
      · intro h0
        dsimp only at h0
        intro d hd
        simp at hd
        omega
      · dsimp only; omega
  | cons x o =>
    show W J _ _ (mkA [(0, .iv (.int .u64 (m : Int))), (2, .ptr 0 0), (3, .ref 1 0 (x :: o).length true)] [(0, .var (.agg [.sl []])), (1, .arr 173 1 ((x :: o).map u32) false)] 10) _
    by_cases h : m = 0
    · subst h
      repeat (first | (refine W.RS (by kernel_rfl) ?_; conv => whnf) | (refine W.S ?_) | (refine W.ret ?_; conv => whnf) | (refine W.exit ?_; conv => whnf) | (refine W.condF rfl ?_) | (refine ⟨false, decide_eq_false (by omega), ?_⟩; conv => whnf) | (refine ⟨rfl, ?_⟩; conv => whnf))
      refine mgEq ?_
      have e : x :: o = dg n := dg_of ⟨hd, hnm rfl⟩ (by rw [← hv, Nat.mul_zero, Nat.add_zero])
      rw [← e, List.drop_zero, List.take_of_length_le (by simp)]
    · repeat (first | (refine W.RS (by kernel_rfl) ?_; conv => whnf) | (refine W.R (by kernel_rfl) ?_; conv => whnf) | (refine W.S ?_) | (refine W.block ?_) | (refine W.skip ?_; conv => whnf) | (refine W.condT rfl ?_) | (refine ⟨by decide, _, tmodB _, ?_⟩; conv => whnf) | (refine ⟨_, w32 (by omega), ?_⟩; conv => whnf) | (refine ⟨true, decide_eq_true (by omega), ?_⟩; conv => whnf) | (refine ⟨rfl, ?_⟩; conv => whnf))
      refine ⟨nin1 rfl, rfl, rfl, by simp, one32, ?_, ?_, ?_⟩
      · show ((x :: o).length + 1) * 4 ≤ 140737488355328
        omega
      · show (x :: o).length + 1 ≤ maxLen
        unfold maxLen; omega
      · repeat (first | (refine W.R (by kernel_rfl) ?_; conv => whnf) | (refine ⟨by decide, _, wuq (by omega), ?_⟩; conv => whnf) | (refine ⟨rfl, ?_⟩; conv => whnf))
        refine ⟨⟨(x :: o ++ [m % 1000000000], m / 1000000000), hd.append (Dg.single (Nat.mod_lt _ (by decide))), ?_, ?_, by dsimp only; omega, ?_⟩,
          Wk.tab [(1, 17)] ⟨⟨rfl, rfl⟩, ⟨rfl, rfl⟩, ⟨?_, rfl⟩, trivial⟩ ⟨rfl, ?_, trivial⟩ rfl, ?_⟩
        · dsimp only
          rw [nv_snoc, ← hv, List.length_append, List.length_singleton, Nat.pow_succ, Nat.add_assoc, Nat.mul_assoc, ← Nat.mul_add]
          congr 2
          simp only [B9]; omega
        · intro h0
          dsimp only at h0
          exact Nm.snoc (by omega)
        · have h3 : (x :: o).length ≤ 2 := by
            apply Classical.byContradiction
            intro h3
            have e3 : (x :: o).length = 3 := by omega
            rw [e3] at hv
            simp only [B9] at hv
            omega
          simp at h3 ⊢; omega
        · refine congrArg (fun k => SV.ref 17 0 k true) ?_
          show (x :: o).length + 1 = _
          simp
        · refine congrArg (fun l => some (Bx.arr 173 1 l false)) ?_
          simp; rfl
        · dsimp only; omega
end Go.Proofs.Fl
namespace Go.Proofs.Fl
open Go.RowKit Go.Proofs.Dig
attribute [local irreducible] IntKind.wrap PureC MutC MakC IterC
theorem getu {l : List Nat} {j : Nat} (h : j < l.length) : (l.map u32)[j]? = some (u32 (l.getD j 0)) := by simp [h]
theorem set_u32 {l : List Nat} {i d : Nat} {x : Int} (h : x = (d : Int)) : (l.map u32).set i (IV.int .u32 x) = (l.set i d).map u32 := by
  rw [h, List.map_set]; rfl
theorem refEq {g off n n' : Nat} {f : Bool} (h : n = n') : SV.ref g off n f = SV.ref g off n' f := by rw [h]
theorem castA (n : Nat) : (n : Int) + 1 = ((n + 1 : Nat) : Int) := rfl
theorem castS (n : Nat) : ((n + 1 : Nat) : Int) - 1 = (n : Int) := by omega
theorem castB (n m : Nat) : (n : Int) + (m : Int) = ((n + m : Nat) : Int) := rfl
theorem arrEq {a : List IV} {l : List Nat} (h : a = l.map u32) : some (Bx.arr 173 1 a false) = some (Bx.arr 173 1 (l.map u32) false) := by rw [h]
theorem getD_lt {l : List Nat} (h : Dg B9 l) (i : Nat) : l.getD i 0 < 1000000000 := h.getD (by decide) i
theorem arrSet {o : List Nat} {i j d : Nat} {x : Int} (hj : j = i) (h : x = (d : Int)) : some (Bx.arr 173 1 ((o.map u32).set j (.int .u32 x)) false) = some (Bx.arr 173 1 ((o.set i d).map u32) false) := by
  rw [hj, set_u32 h]
theorem nv_take_getD (l : List Nat) (i : Nat) : nv B9 (l.take (i + 1)) = nv B9 (l.take i) + B9 ^ i * l.getD i 0 := by
  by_cases h : i < l.length
  · rw [nv_take_succ B9 l i h, List.getD_eq_getElem?_getD, List.getElem?_eq_getElem h]; rfl
  · have e : l.getD i 0 = 0 := by simp [Nat.not_lt.1 h]
    rw [e, List.take_of_length_le (show l.length ≤ i + 1 by omega), List.take_of_length_le (Nat.not_lt.1 h)]; exact (Nat.add_zero _).symm
theorem plStep {l m o : List Nat} {i c d c' : Nat} (hi : i < o.length) (hs : nv B9 (o.take i) + B9 ^ i * c = nv B9 (l.take i) + nv B9 (m.take i)) (he : l.getD i 0 + c + m.getD i 0 = d + 1000000000 * c') :
    nv B9 ((o.set i d).take (i + 1)) + B9 ^ (i + 1) * c' = nv B9 (l.take (i + 1)) + nv B9 (m.take (i + 1)) := by
  rw [set_take_succ hi, nv_take_getD l, nv_take_getD m]
  have := carry_step (B := B9) (A := o.take i) (s := l.getD i 0 + m.getD i 0) (x := l.getD i 0 + c + m.getD i 0) (x' := d) (c' := c') (by simp; omega) hs he (by omega)
  rw [this, Nat.mul_add]
  omega
theorem f188_at (J : Keep) {l : List Nat} {es : List IV} (h : es = l.map u32) (hl : l.length < 2 ^ 60) : C J 188 [.sl es] (mgI (strip l)) := by
  rw [h]; exact f188_ok J hl
theorem f185_ok (J : Keep) (n : Nat) : C J 185 [mag n] (.bool (decide (n = 1))) := by
  have la : ((dg n).map u32).length = (dg n).length := by simp
  refine fn_ok Tryz.func185 rfl rfl rfl ?_
  have hv := dg_nv n
  by_cases h : (dg n).length = 1
  · repeat (first | (refine W.RS (by kernel_rfl) ?_; conv => whnf) | (refine W.ret ?_; conv => whnf) | (refine ⟨0, _, rfl, getu (by omega), rfl, ?_⟩; conv => whnf) | (refine ⟨true, decide_eq_true (by omega), ?_⟩; conv => whnf) | (refine ⟨_, rfl, ?_⟩; conv => whnf) | (refine ⟨rfl, ?_⟩; conv => whnf) | (refine ⟨_, fun _ => rfl, fun h => absurd h.symm Bool.false_ne_true, ?_⟩; conv => whnf))
    obtain ⟨d, hd⟩ : ∃ d, dg n = [d] := List.length_eq_one_iff.1 h
    have hn : n = d := by rw [← hv, hd]; rfl
    rw [hd, hn]
    simp only [oneOf]
    congr 1
    rw [Bool.eq_iff_iff]
    simp; omega
  · repeat (first | (refine W.RS (by kernel_rfl) ?_; conv => whnf) | (refine W.ret ?_; conv => whnf) | (refine ⟨false, decide_eq_false (by omega), ?_⟩; conv => whnf) | (refine ⟨_, rfl, ?_⟩; conv => whnf) | (refine ⟨rfl, ?_⟩; conv => whnf) | (refine ⟨_, fun h => absurd h Bool.false_ne_true, fun _ => rfl, ?_⟩; conv => whnf))
    have : ¬ n = 1 := fun e => h (by
      subst e
      have := dg_of (l := [1]) ⟨Dg.single (by decide), by intro d hd; simp at hd; omega⟩ (n := 1) rfl
      rw [← this]; rfl)
    simp [oneOf, this]
def plInv (l m : List Nat) (p : Nat × Nat × List Nat) : AS :=
  mkA [(2, .ptr 0 0), (3, .ptr 1 0), (4, .ptr 2 0), (5, .ref 3 0 (l.length + 1) true), (6, .iv (.int .u32 (p.2.1 : Int))), (24, .iv (.sl (l.map u32))), (25, .iv (.int .i64 (l.length : Int))), (26, .iv (.int .i64 (p.1 : Int)))]
    [(0, .var (mgI l)), (1, .var (mgI m)), (2, .var (.agg [.sl []])), (3, .arr 173 1 (p.2.2.map u32) false)] 10
theorem f205_ok (J : Keep) {a b : Nat} (ha : ln a < 2 ^ 44) (hb : ln b < 2 ^ 44) : C J 205 [mag a, mag b] (mag (a + b)) := by
  unfold ln at ha hb
  have la : ((dg a).map u32).length = (dg a).length := by simp
  have lb : ((dg b).map u32).length = (dg b).length := by simp
  refine fn_ok Tryz.func205 rfl rfl rfl ?_
  refine W.RS (by kernel_rfl) ?_
  conv => whnf
  refine W.join (G := { p : List Nat × List Nat // p.2.length ≤ p.1.length ∧ Ok B9 p.1 ∧ Ok B9 p.2 ∧ nv B9 p.1 + nv B9 p.2 = a + b ∧ p.1.length < 2 ^ 44 }) (fun p => mkA [(2, .ptr 0 0), (3, .ptr 1 0), (4, .ptr 2 0)] [(0, .var (mgI p.1.1)), (1, .var (mgI p.1.2)), (2, .var (.agg [.sl []]))] 10) ?_ ?_
  · by_cases h : (dg a).length < (dg b).length
    · repeat (first | (refine W.RS (by kernel_rfl) ?_; conv => whnf) | (refine W.R (by kernel_rfl) ?_; conv => whnf) | (refine W.condT rfl ?_) | (refine ⟨true, decide_eq_true (by omega), ?_⟩; conv => whnf) | (refine ⟨_, rfl, ?_⟩; conv => whnf) | (refine ⟨rfl, ?_⟩; conv => whnf))
      exact ⟨⟨(dg b, dg a), Nat.le_of_lt h, dg_ok b, dg_ok a, by rw [dg_nv, dg_nv, Nat.add_comm], hb⟩, Wk.tab [] ⟨⟨rfl, rfl⟩, ⟨rfl, rfl⟩, ⟨rfl, rfl⟩, trivial⟩ ⟨rfl, rfl, rfl, trivial⟩ rfl⟩
    · repeat (first | (refine W.RS (by kernel_rfl) ?_; conv => whnf) | (refine W.skip ?_; conv => whnf) | (refine W.condF rfl ?_) | (refine ⟨false, decide_eq_false (by omega), ?_⟩; conv => whnf) | (refine ⟨_, rfl, ?_⟩; conv => whnf) | (refine ⟨rfl, ?_⟩; conv => whnf))
      exact ⟨⟨(dg a, dg b), Nat.not_lt.1 h, dg_ok a, dg_ok b, by rw [dg_nv, dg_nv], ha⟩, Wk.tab [] ⟨⟨rfl, rfl⟩, ⟨rfl, rfl⟩, ⟨rfl, rfl⟩, trivial⟩ ⟨rfl, rfl, rfl, trivial⟩ rfl⟩
  · rintro ⟨⟨l, m⟩, hml, hol, hom, hv, hl⟩
    dsimp only at hml hol hom hv hl ⊢
    clear la lb ha hb
    have la : (l.map u32).length = l.length := by simp
    have lb : (m.map u32).length = m.length := by simp
    repeat (first | (refine W.RS (by kernel_rfl) ?_; conv => whnf) | (refine W.S ?_) | (refine W.block ?_) | (refine ⟨rfl, _, w64 (by omega), ?_⟩; conv => whnf) | (refine ⟨rfl, _, castA _, ?_⟩; conv => whnf) | (refine ⟨by show 4 * _ ≤ (281474976710656 : Nat); omega, by unfold maxLen; omega, ?_⟩; conv => whnf) | (refine ⟨_, rfl, ?_⟩; conv => whnf))
    refine W.loop (G := { p : Nat × Nat × List Nat // p.1 ≤ l.length ∧ p.2.1 ≤ 1 ∧ p.2.2.length = l.length + 1 ∧ Dg B9 p.2.2 ∧ nv B9 (p.2.2.take p.1) + B9 ^ p.1 * p.2.1 = nv B9 (l.take p.1) + nv B9 (m.take p.1) }) (fun p => plInv l m p.1) (fun p => l.length - p.1.1)
      ⟨(0, 0, List.replicate (l.length + 1) 0), by simp, by simp, by simp, Dg.replicate (by decide) _, by simp [nv]⟩
      (Wk.tab [(3, 14)] ⟨⟨rfl, rfl⟩, ⟨rfl, rfl⟩, ⟨rfl, rfl⟩, ⟨refEq (by omega), rfl⟩, ⟨rfl, rfl⟩, ⟨rfl, rfl⟩, ⟨ivEq (by simp), rfl⟩, ⟨rfl, rfl⟩, trivial⟩ ⟨rfl, rfl, rfl, arrEq (by simp; rfl), trivial⟩ rfl) ?_
    rintro ⟨⟨i, c, o⟩, hi, hc, ho, hd, hs⟩
    dsimp only at hi hc ho hd hs
    show W J _ _ (mkA [(2, .ptr 0 0), (3, .ptr 1 0), (4, .ptr 2 0), (5, .ref 3 0 (l.length + 1) true), (6, .iv (.int .u32 (c : Int))), (24, .iv (.sl (l.map u32))), (25, .iv (.int .i64 (l.length : Int))), (26, .iv (.int .i64 (i : Int)))]
      [(0, .var (mgI l)), (1, .var (mgI m)), (2, .var (.agg [.sl []])), (3, .arr 173 1 (o.map u32) false)] 10) _
    have lo : (o.map u32).length = o.length := by simp
    by_cases h : i < l.length
    · have hx := getD_lt hol.dg i
      by_cases h2 : i < m.length
      · have hy := getD_lt hom.dg i
        by_cases h3 : 1000000000 ≤ l.getD i 0 + c + m.getD i 0
        · repeat (first | (refine W.RS (by kernel_rfl) ?_; conv => whnf) | (refine W.R (by kernel_rfl) ?_; conv => whnf) | (refine W.S ?_) | (refine W.block ?_) | (refine W.skip ?_; conv => whnf) | (refine W.condT rfl ?_) | (refine ⟨rfl, _, w64 (by omega), ?_⟩; conv => whnf) | (refine ⟨rfl, _, w32 (by omega), ?_⟩; conv => whnf) | (refine ⟨_, _, rfl, getu (by omega), rfl, ?_⟩; conv => whnf) | (refine ⟨(rfl : (_ : Nat) = _), _, rfl, by omega, ?_⟩; conv => whnf) | (refine ⟨List.not_mem_nil, _, getu (by omega), ?_⟩; conv => whnf) | (refine ⟨true, decide_eq_true (by omega), ?_⟩; conv => whnf) | (refine ⟨_, rfl, ?_⟩; conv => whnf) | (refine ⟨rfl, ?_⟩; conv => whnf))
          have hp := plStep (d := l.getD i 0 + c + m.getD i 0 - 1000000000) (c' := 1) (show i < o.length by omega) hs (by omega)
          exact ⟨⟨(i + 1, 1, o.set i (l.getD i 0 + c + m.getD i 0 - 1000000000)), by dsimp only; omega, by dsimp only; omega, by dsimp only; rw [List.length_set]; exact ho, hd.set (by simp only [B9]; omega), hp⟩,
            Wk.tab [] ⟨⟨rfl, rfl⟩, ⟨rfl, rfl⟩, ⟨rfl, rfl⟩, ⟨rfl, rfl⟩, ⟨rfl, rfl⟩, ⟨rfl, rfl⟩, ⟨rfl, rfl⟩, ⟨rfl, rfl⟩, trivial⟩ ⟨rfl, rfl, rfl, arrSet (by omega) (by omega), trivial⟩ rfl, by dsimp only; omega⟩
        · repeat (first | (refine W.RS (by kernel_rfl) ?_; conv => whnf) | (refine W.R (by kernel_rfl) ?_; conv => whnf) | (refine W.S ?_) | (refine W.block ?_) | (refine W.skip ?_; conv => whnf) | (refine W.condF rfl ?_) | (refine W.condT rfl ?_) | (refine ⟨rfl, _, w64 (by omega), ?_⟩; conv => whnf) | (refine ⟨rfl, _, w32 (by omega), ?_⟩; conv => whnf) | (refine ⟨_, _, rfl, getu (by omega), rfl, ?_⟩; conv => whnf) | (refine ⟨(rfl : (_ : Nat) = _), _, rfl, by omega, ?_⟩; conv => whnf) | (refine ⟨List.not_mem_nil, _, getu (by omega), ?_⟩; conv => whnf) | (refine ⟨true, decide_eq_true (by omega), ?_⟩; conv => whnf) | (refine ⟨false, decide_eq_false (by omega), ?_⟩; conv => whnf) | (refine ⟨_, rfl, ?_⟩; conv => whnf) | (refine ⟨rfl, ?_⟩; conv => whnf))
          have hp := plStep (d := l.getD i 0 + c + m.getD i 0) (c' := 0) (show i < o.length by omega) hs (by omega)
          exact ⟨⟨(i + 1, 0, o.set i (l.getD i 0 + c + m.getD i 0)), by dsimp only; omega, by dsimp only; omega, by dsimp only; rw [List.length_set]; exact ho, hd.set (by simp only [B9]; omega), hp⟩,
            Wk.tab [] ⟨⟨rfl, rfl⟩, ⟨rfl, rfl⟩, ⟨rfl, rfl⟩, ⟨rfl, rfl⟩, ⟨rfl, rfl⟩, ⟨rfl, rfl⟩, ⟨rfl, rfl⟩, ⟨rfl, rfl⟩, trivial⟩ ⟨rfl, rfl, rfl, arrSet (by omega) (by omega), trivial⟩ rfl, by dsimp only; omega⟩
      · have hy : m.getD i 0 = 0 := by simp [Nat.not_lt.1 h2]
        by_cases h3 : 1000000000 ≤ l.getD i 0 + c
        · repeat (first | (refine W.RS (by kernel_rfl) ?_; conv => whnf) | (refine W.R (by kernel_rfl) ?_; conv => whnf) | (refine W.S ?_) | (refine W.block ?_) | (refine W.skip ?_; conv => whnf) | (refine W.condF rfl ?_) | (refine W.condT rfl ?_) | (refine ⟨rfl, _, w64 (by omega), ?_⟩; conv => whnf) | (refine ⟨rfl, _, w32 (by omega), ?_⟩; conv => whnf) | (refine ⟨_, _, rfl, getu (by omega), rfl, ?_⟩; conv => whnf) | (refine ⟨(rfl : (_ : Nat) = _), _, rfl, by omega, ?_⟩; conv => whnf) | (refine ⟨List.not_mem_nil, _, getu (by omega), ?_⟩; conv => whnf) | (refine ⟨true, decide_eq_true (by omega), ?_⟩; conv => whnf) | (refine ⟨false, decide_eq_false (by omega), ?_⟩; conv => whnf) | (refine ⟨_, rfl, ?_⟩; conv => whnf) | (refine ⟨rfl, ?_⟩; conv => whnf))
          have hp := plStep (d := l.getD i 0 + c - 1000000000) (c' := 1) (show i < o.length by omega) hs (by omega)
          exact ⟨⟨(i + 1, 1, o.set i (l.getD i 0 + c - 1000000000)), by dsimp only; omega, by dsimp only; omega, by dsimp only; rw [List.length_set]; exact ho, hd.set (by simp only [B9]; omega), hp⟩,
            Wk.tab [] ⟨⟨rfl, rfl⟩, ⟨rfl, rfl⟩, ⟨rfl, rfl⟩, ⟨rfl, rfl⟩, ⟨rfl, rfl⟩, ⟨rfl, rfl⟩, ⟨rfl, rfl⟩, ⟨rfl, rfl⟩, trivial⟩ ⟨rfl, rfl, rfl, arrSet (by omega) (by omega), trivial⟩ rfl, by dsimp only; omega⟩
        · repeat (first | (refine W.RS (by kernel_rfl) ?_; conv => whnf) | (refine W.R (by kernel_rfl) ?_; conv => whnf) | (refine W.S ?_) | (refine W.block ?_) | (refine W.skip ?_; conv => whnf) | (refine W.condF rfl ?_) | (refine W.condT rfl ?_) | (refine ⟨rfl, _, w64 (by omega), ?_⟩; conv => whnf) | (refine ⟨rfl, _, w32 (by omega), ?_⟩; conv => whnf) | (refine ⟨_, _, rfl, getu (by omega), rfl, ?_⟩; conv => whnf) | (refine ⟨(rfl : (_ : Nat) = _), _, rfl, by omega, ?_⟩; conv => whnf) | (refine ⟨List.not_mem_nil, _, getu (by omega), ?_⟩; conv => whnf) | (refine ⟨true, decide_eq_true (by omega), ?_⟩; conv => whnf) | (refine ⟨false, decide_eq_false (by omega), ?_⟩; conv => whnf) | (refine ⟨_, rfl, ?_⟩; conv => whnf) | (refine ⟨rfl, ?_⟩; conv => whnf))
          have hp := plStep (d := l.getD i 0 + c) (c' := 0) (show i < o.length by omega) hs (by omega)
          exact ⟨⟨(i + 1, 0, o.set i (l.getD i 0 + c)), by dsimp only; omega, by dsimp only; omega, by dsimp only; rw [List.length_set]; exact ho, hd.set (by simp only [B9]; omega), hp⟩,
            Wk.tab [] ⟨⟨rfl, rfl⟩, ⟨rfl, rfl⟩, ⟨rfl, rfl⟩, ⟨rfl, rfl⟩, ⟨rfl, rfl⟩, ⟨rfl, rfl⟩, ⟨rfl, rfl⟩, ⟨rfl, rfl⟩, trivial⟩ ⟨rfl, rfl, rfl, arrSet (by omega) (by omega), trivial⟩ rfl, by dsimp only; omega⟩
    · have hil : i = l.length := by omega
      subst hil
      have hv2 : nv B9 (o.set l.length c) = a + b := by
        have e : o.set l.length c = o.take l.length ++ [c] := by
          have := set_take_succ (x := c) (show l.length < o.length by omega)
          rw [List.take_of_length_le (by rw [List.length_set]; omega)] at this
          exact this
        have hlt : (o.take l.length).length = l.length := by rw [List.length_take]; omega
        rw [e, nv_snoc, hlt, hs, List.take_of_length_le (Nat.le_refl _), List.take_of_length_le (by omega), hv]
      repeat (first | (refine W.RS (by kernel_rfl) ?_; conv => whnf) | (refine W.S ?_) | (refine W.exit ?_; conv => whnf) | (refine W.condF rfl ?_) | (refine ⟨(rfl : (_ : Nat) = _), _, rfl, by omega, ?_⟩; conv => whnf) | (refine ⟨List.not_mem_nil, _, getu (by omega), ?_⟩; conv => whnf) | (refine ⟨false, decide_eq_false (by omega), ?_⟩; conv => whnf) | (refine ⟨_, rfl, ?_⟩; conv => whnf) | (refine ⟨rfl, ?_⟩; conv => whnf))
      refine ⟨_, f188_at J (l := o.set l.length c) ?_ ?_, ?_⟩
      · rw [List.drop_zero, List.take_of_length_le (by simp; omega), Nat.zero_add, la, set_u32 rfl]
      · rw [List.length_set]; omega
      repeat ((refine W.ret ?_; conv => whnf))
      exact congrArg mgI (dg_strip (hd.set (by simp only [B9]; omega)) hv2)
end Go.Proofs.Fl
