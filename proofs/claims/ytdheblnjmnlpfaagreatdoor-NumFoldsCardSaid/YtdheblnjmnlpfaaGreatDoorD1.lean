/-
  The card of NumFolds is proved: the law's function returns true at every argument of its shape; no condition.
-/
import Derived.Test.YtdheblnjmnlpfaaGreatDoorB10
import Derived.Deep.Slices
import Derived.ChangeMaps5
namespace Go.Proofs.Fl
open Go.RowKit Go.Proofs.Dig
attribute [local irreducible] IntKind.wrap PureC MutC MakC IterC
def sumL (l : List Rat) : Rat := l.foldl (· + ·) 0
end Go.Proofs.Fl
namespace Go.Proofs.Fl
open Go.RowKit Go.Proofs.Dig
attribute [local irreducible] IntKind.wrap PureC MutC MakC IterC
theorem sumL_snoc (l : List Rat) (y : Rat) : sumL (l ++ [y]) = sumL l + y := by
  unfold sumL; rw [List.foldl_append]; rfl
theorem f63_x (J : Keep) {a b : Option Rat} (ha : rl (vx a) < 2 ^ 34) (hb : rl (vx b) < 2 ^ 34) : C J 63 [rx a, rx b] (rr (vx a + vx b)) := by
  exact f63_ok J (rx_ok a) (rx_ok b) ha hb
end Go.Proofs.Fl
namespace Go.Proofs.Fl
open Go.RowKit Go.Proofs.Dig
attribute [local irreducible] IntKind.wrap PureC MutC MakC IterC
theorem lh_addQ (a b : Rat) : lh (a + b).num.natAbs ≤ max (lh a.num.natAbs + lh b.den) (lh b.num.natAbs + lh a.den) + 1 ∧ lh (a + b).den ≤ lh a.den + lh b.den := by
  rw [Rat.add_def']
  have hd : 0 < a.den * b.den := Nat.mul_pos (den_pos a) (den_pos b)
  have e1 : (a.num * (b.den : Int)).natAbs = a.num.natAbs * b.den := by rw [Int.natAbs_mul, Int.natAbs_natCast]
  have e1' : (b.num * (a.den : Int)).natAbs = b.num.natAbs * a.den := by rw [Int.natAbs_mul, Int.natAbs_natCast]
  generalize hz : a.num * (b.den : Int) + b.num * (a.den : Int) = z
  have h4 : z.natAbs ≤ a.num.natAbs * b.den + b.num.natAbs * a.den := by
    rw [← e1, ← e1', ← hz]; exact Int.natAbs_add_le _ _
  have h5 := lh_mono h4
  have h3 := lh_add (a.num.natAbs * b.den) (b.num.natAbs * a.den)
  have h1 := lh_mul a.num.natAbs b.den
  have h1' := lh_mul b.num.natAbs a.den
  have h2 := lh_mul a.den b.den
  rw [mkRat_num hd, mkRat_den hd]
  have h6 : (sv (decide (z < 0)) (z.natAbs / Nat.gcd z.natAbs (a.den * b.den))).natAbs ≤ z.natAbs := by
    have h2 := Nat.div_le_self z.natAbs (Nat.gcd z.natAbs (a.den * b.den))
    generalize z.natAbs / Nat.gcd z.natAbs (a.den * b.den) = t at h2 ⊢
    unfold sv
    split <;> omega
  have h7 := lh_mono h6
  have h8 := lh_mono (Nat.div_le_self (a.den * b.den) (Nat.gcd z.natAbs (a.den * b.den)))
  omega
theorem snoc_of_neQ {l : List Rat} (h : l ≠ []) : ∃ b d, l = b ++ [d] := ⟨l.dropLast, l.getLast h, (List.dropLast_concat_getLast h).symm⟩
theorem lh_sum {B : Nat} : ∀ (n : Nat) (l : List Rat), l.length = n → (∀ x ∈ l, rl x ≤ B) → lh (sumL l).num.natAbs ≤ (B + 1) * l.length + 1 ∧ lh (sumL l).den ≤ B * l.length + 1
  | 0, l, h0, h => by
    rw [List.length_eq_zero_iff.1 h0]
    have h0 : lh 0 ≤ 0 := lh_le (by decide)
    exact ⟨by show lh 0 ≤ _; omega, by show lh 1 ≤ _; have := lh_one; omega⟩
  | n + 1, l, hn, h => by
    obtain ⟨l', y, rfl⟩ := snoc_of_neQ (l := l) (by intro e; rw [e] at hn; simp at hn)
    rw [sumL_snoc]
    have hy := h y (by simp)
    have hl' : l'.length = n := by simpa using hn
    obtain ⟨h1, h2⟩ := lh_sum n l' hl' (fun x hx => h x (by simp [hx]))
    obtain ⟨h3, h4⟩ := lh_addQ (sumL l') y
    unfold rl at hy
    rw [List.length_append, List.length_singleton, Nat.mul_add, Nat.mul_add]
    have h5 : (B + 1) * l'.length = B * l'.length + l'.length := Nat.succ_mul _ _
    omega
theorem rl_sum {B : Nat} {l : List Rat} (h : ∀ x ∈ l, rl x ≤ B) : rl (sumL l) ≤ (2 * B + 1) * l.length + 2 := by
  obtain ⟨h1, h2⟩ := lh_sum l.length l rfl h
  unfold rl
  have h5 : (B + 1) * l.length = B * l.length + l.length := Nat.succ_mul _ _
  have h6 : (2 * B + 1) * l.length = 2 * (B * l.length) + l.length := by rw [Nat.succ_mul, Nat.mul_assoc]
  omega
theorem f75_ok {J : Keep} (B : Base J) {l : List Rat} {N : Nat} (hq : ∀ x ∈ l, rl x ≤ N) (hl : (2 * N + 1) * l.length < 2 ^ 34) : C J 75 [.sl (l.map qr)] (qr (sumL l)) := by
  refine fn_ok Tryz.func75 rfl rfl rfl ?_
  have lm : (l.map qr).length = l.length := by simp
  have hlen : l.length < 2 ^ 34 := by
    have := Nat.le_mul_of_pos_left l.length (show 0 < 2 * N + 1 by omega)
    omega
  repeat (first | (refine W.RS (by kernel_rfl) ?_; conv => whnf) | (refine W.S ?_) | (refine W.block ?_) | (refine ⟨_, rfl, ?_⟩; conv => whnf))
  refine W.loop (G := { k : Nat // k ≤ l.length }) (fun k => mkA [(2, .ptr 0 0), (3, .ptr 1 0), (6, .iv (.sl (l.map qr))), (7, .iv (.int .i64 (l.length : Nat))), (8, .iv (.int .i64 (k.1 : Nat)))] [(0, .var (.agg [.sl [], .bool false, .sl []])), (1, .var (qr (sumL (l.take k.1))))] 40) (fun k => l.length - k.1) ⟨0, Nat.zero_le _⟩
    (Wk.tab [] ⟨⟨rfl, rfl⟩, ⟨rfl, rfl⟩, ⟨rfl, rfl⟩, ⟨ivEq (by rw [lm]), rfl⟩, ⟨rfl, rfl⟩, trivial⟩ ⟨rfl, varE (by dsimp only; rw [List.take_zero]; exact dg_zero_qr.symm), trivial⟩ rfl) ?_
  rintro ⟨k, hk⟩
  show W J _ _ (mkA [(2, .ptr 0 0), (3, .ptr 1 0), (6, .iv (.sl (l.map qr))), (7, .iv (.int .i64 (l.length : Nat))), (8, .iv (.int .i64 (k : Nat)))] [(0, .var (.agg [.sl [], .bool false, .sl []])), (1, .var (qr (sumL (l.take k))))] 40) _
  by_cases h : k < l.length
  · have hg := getq (f := qr) h
    have hx := hq _ (getD_mem h)
    have hs := sumL_snoc (l.take k) (l.getD k 0)
    rw [← take_snoc h] at hs
    have hm := rl_sum (B := N) (l := l.take k) (fun x hx => hq x (take_mem hx))
    have hm2 : (2 * N + 1) * (l.take k).length ≤ (2 * N + 1) * l.length := Nat.mul_le_mul_left _ (by rw [List.length_take]; omega)
    have hn1 : 2 * N + 1 ≤ (2 * N + 1) * l.length := Nat.le_mul_of_pos_right _ (by omega)
    have q1 := qln_rl (l.getD k 0)
    have q2 := qln_rl (sumL (l.take k))
    obtain ⟨x, hxe⟩ : ∃ x, l.getD k 0 = x := ⟨_, rfl⟩
    obtain ⟨m, hme⟩ : ∃ m, sumL (l.take k) = m := ⟨_, rfl⟩
    rw [hxe] at hg hx hs q1
    rw [hme] at hm hs q2
    rw [hme]
    have c1 := f48_ok B (a := m) (b := x) (by omega) (by omega)
    repeat (first | (refine W.RS (by kernel_rfl) ?_; conv => whnf) | (refine W.R (by kernel_rfl) ?_; conv => whnf) | (refine W.S ?_) | (refine W.block ?_) | (refine W.skip ?_; conv => whnf) | (refine W.condT rfl ?_) | (refine ⟨_, c1, ?_⟩; conv => whnf) | (refine ⟨k, _, rfl, hg, rfl, ?_⟩; conv => whnf) | (refine ⟨rfl, _, w64 (by omega), ?_⟩; conv => whnf) | (refine ⟨true, decide_eq_true (by omega), ?_⟩; conv => whnf) | (refine ⟨rfl, ?_⟩; conv => whnf))
    exact ⟨⟨k + 1, by omega⟩, Wk.tab [] ⟨⟨rfl, rfl⟩, ⟨rfl, rfl⟩, ⟨rfl, rfl⟩, ⟨rfl, rfl⟩, ⟨rfl, rfl⟩, trivial⟩ ⟨rfl, varQ hs.symm, trivial⟩ rfl, by dsimp only; omega⟩
  · repeat (first | (refine W.RS (by kernel_rfl) ?_; conv => whnf) | (refine W.S ?_) | (refine W.ret ?_; conv => whnf) | (refine W.exit ?_; conv => whnf) | (refine W.condF rfl ?_) | (refine ⟨false, decide_eq_false (by omega), ?_⟩; conv => whnf) | (refine ⟨rfl, ?_⟩; conv => whnf))
    rw [show l.take k = l by rw [List.take_of_length_le (by omega)]]
    rfl
def sumE (l : List Rat) : Option Rat := if l = [] then none else some (sumL l)
theorem sumE_val (l : List Rat) : vx (sumE l) = sumL l := by
  unfold sumE
  split
  · rename_i h; rw [h]; rfl
  · rfl
theorem f76_ok (J : Keep) {l : List Rat} {N : Nat} (hq : ∀ x ∈ l, rl x ≤ N) (hl : (2 * N + 1) * l.length < 2 ^ 33) : C J 76 [.sl (l.map rr)] (rx (sumE l)) := by
  refine fn_ok Tryz.func76 rfl rfl rfl ?_
  have lm : (l.map rr).length = l.length := by simp
  have hlen : l.length < 2 ^ 33 := by
    have := Nat.le_mul_of_pos_left l.length (show 0 < 2 * N + 1 by omega)
    omega
  repeat (first | (refine W.RS (by kernel_rfl) ?_; conv => whnf) | (refine W.S ?_) | (refine W.block ?_))
  refine W.loop (G := { k : Nat // k ≤ l.length }) (fun k => mkA [(0, .iv (.sl (l.map rr))), (2, .ptr 0 0), (3, .ptr 1 0), (4, .iv (.int .i64 (k.1 : Nat)))] [(0, .var (.agg [.int .i64 0, .sl [], .int .i64 0, .sl []])), (1, .var (rx (sumE (l.take k.1))))] 40) (fun k => l.length - k.1) ⟨0, Nat.zero_le _⟩
    (Wk.tab [] ⟨⟨rfl, rfl⟩, ⟨rfl, rfl⟩, ⟨rfl, rfl⟩, ⟨rfl, rfl⟩, trivial⟩ ⟨rfl, varE (by dsimp only; rw [List.take_zero]; exact rq_zero.symm), trivial⟩ rfl) ?_
  rintro ⟨k, hk⟩
  show W J _ _ (mkA [(0, .iv (.sl (l.map rr))), (2, .ptr 0 0), (3, .ptr 1 0), (4, .iv (.int .i64 (k : Nat)))] [(0, .var (.agg [.int .i64 0, .sl [], .int .i64 0, .sl []])), (1, .var (rx (sumE (l.take k))))] 40) _
  by_cases h : k < l.length
  · have hg := getq (f := rr) h
    have hx := hq _ (getD_mem h)
    have hs := sumL_snoc (l.take k) (l.getD k 0)
    rw [← take_snoc h] at hs
    have hse : sumE (l.take (k + 1)) = some (sumL (l.take (k + 1))) := by
      unfold sumE
      rw [if_neg]
      intro e
      have := congrArg List.length e
      rw [List.length_take, List.length_nil] at this
      omega
    have hm := rl_sum (B := N) (l := l.take k) (fun x hx => hq x (take_mem hx))
    have hm2 : (2 * N + 1) * (l.take k).length ≤ (2 * N + 1) * l.length := Nat.mul_le_mul_left _ (by rw [List.length_take]; omega)
    have hn1 : 2 * N + 1 ≤ (2 * N + 1) * l.length := Nat.le_mul_of_pos_right _ (by omega)
    have hv := sumE_val (l.take k)
    rw [← hv] at hs hm
    obtain ⟨x, hxe⟩ : ∃ x, l.getD k 0 = x := ⟨_, rfl⟩
    obtain ⟨m, hme⟩ : ∃ m, sumE (l.take k) = m := ⟨_, rfl⟩
    rw [hxe] at hg hx hs
    rw [hme] at hm hs
    rw [hme]
    have c1 := f63_x J (a := m) (b := some x) (by omega) (by show rl x < _; omega)
    rw [show vx m + vx (some x) = sumL (l.take (k + 1)) from hs.symm] at c1
    repeat (first | (refine W.RS (by kernel_rfl) ?_; conv => whnf) | (refine W.R (by kernel_rfl) ?_; conv => whnf) | (refine W.S ?_) | (refine W.block ?_) | (refine W.skip ?_; conv => whnf) | (refine W.condT rfl ?_) | (refine ⟨_, c1, ?_⟩; conv => whnf) | (refine ⟨k, _, rfl, hg, rfl, ?_⟩; conv => whnf) | (refine ⟨rfl, _, w64 (by omega), ?_⟩; conv => whnf) | (refine ⟨true, decide_eq_true (by omega), ?_⟩; conv => whnf) | (refine ⟨_, rfl, ?_⟩; conv => whnf) | (refine ⟨rfl, ?_⟩; conv => whnf))
    exact ⟨⟨k + 1, by omega⟩, Wk.tab [] ⟨⟨rfl, rfl⟩, ⟨rfl, rfl⟩, ⟨rfl, rfl⟩, ⟨rfl, rfl⟩, trivial⟩ ⟨rfl, varX hse.symm, trivial⟩ rfl, by dsimp only; omega⟩
  · repeat (first | (refine W.RS (by kernel_rfl) ?_; conv => whnf) | (refine W.S ?_) | (refine W.ret ?_; conv => whnf) | (refine W.exit ?_; conv => whnf) | (refine W.condF rfl ?_) | (refine ⟨false, decide_eq_false (by omega), ?_⟩; conv => whnf) | (refine ⟨_, rfl, ?_⟩; conv => whnf) | (refine ⟨rfl, ?_⟩; conv => whnf))
    rw [show l.take k = l by rw [List.take_of_length_le (by omega)]]
    rfl
end Go.Proofs.Fl
namespace Go.Proofs.Fl
open Go.RowKit Go.Proofs.Dig
attribute [local irreducible] IntKind.wrap PureC MutC MakC IterC
theorem hvt (v : Bool) : (v == v) = true := by cases v <;> rfl
end Go.Proofs.Fl
namespace Go.Proofs.Fl
open Go.RowKit Go.Proofs.Dig
attribute [local irreducible] IntKind.wrap PureC MutC MakC IterC
def Hold (p : Prop) : Prop := p
attribute [irreducible] Hold
end Go.Proofs.Fl
namespace Go.Proofs.Fl
open Go.RowKit Go.Proofs.Dig
attribute [local irreducible] IntKind.wrap PureC MutC MakC IterC
noncomputable def lsA (l : List Num3) (k : Nat) : AS :=
  match k with
  | 0 => mkA [(0, .iv (.sl (l.map Num3.iv))), (4, .nilS), (5, .nilS), (6, .iv (.int .i64 0))] [] 10
  | k + 1 => mkA [(0, .iv (.sl (l.map Num3.iv))), (4, .ref 0 0 (k + 1) true), (5, .ref 1 0 (k + 1) true), (6, .iv (.int .i64 ((k + 1 : Nat) : Int)))]
      [(0, .arr 29 3 ((l.take (k + 1)).map fun x => qr x.q) false), (1, .arr 37 4 ((l.take (k + 1)).map fun x => rr x.q) false)] 10
theorem one_any {z v : IV} {n : Nat} (h : v.cells.length = n ∧ v.isTup = false) : ∀ y ∈ List.take 1 (List.drop 0 ((List.replicate 1 z).set 0 v)), y.cells.length = n ∧ y.isTup = false := by
  intro y hy
  simp at hy; subst hy; exact h
theorem arrE {e sz : Nat} {a b : List IV} {f : Bool} (h : a = b) : some (Bx.arr e sz a f) = some (Bx.arr e sz b f) := by rw [h]
theorem take_q {l : List Num3} {k : Nat} (h : k < l.length) : l.take (k + 1) = l.take k ++ [l[k]] := by
  rw [List.take_add_one, List.getElem?_eq_getElem h]; rfl
set_option maxHeartbeats 4000000 in
theorem f72_ok (J : Keep) {l : List Num3} (hl : l.length < 2 ^ 30) (hok : ∀ x ∈ l, x.ok) : C J 72 [.sl (l.map Num3.iv)] (.tup [.sl (l.map fun x => qr x.q), .sl (l.map fun x => rr x.q)]) := by
  refine fn_ok Tryz.func72 rfl rfl rfl ?_
  have la : (l.map Num3.iv).length = l.length := by simp
  repeat (first | (refine W.RS (by kernel_rfl) ?_; conv => whnf) | (refine W.S ?_) | (refine W.block ?_))
  refine W.loop (G := { k : Nat // k ≤ l.length }) (fun k => lsA l k.1) (fun k => l.length - k.1) ⟨0, Nat.zero_le _⟩ (Wk.tab [] ⟨⟨rfl, rfl⟩, ⟨rfl, rfl⟩, ⟨rfl, rfl⟩, ⟨rfl, rfl⟩, trivial⟩ trivial rfl) ?_
  rintro ⟨k, hk⟩
  by_cases hke : k < l.length
  · have c1 := bothC J (hok l[k] (List.getElem_mem hke))
    have g : (l.map Num3.iv)[k]? = some (Num3.iv l[k]) := by simp [hke]
    have tk := take_q hke
    obtain ⟨x, hx⟩ : ∃ x, l[k] = x := ⟨_, rfl⟩
    rw [hx] at c1 g tk
    have gx : (Num3.iv x).cells.length = 3 := rfl
    cases k with
    | zero =>
      show W J _ _ (mkA [(0, .iv (.sl (l.map Num3.iv))), (4, .nilS), (5, .nilS), (6, .iv (.int .i64 0))] [] 10) _
      repeat (first | (refine W.RS (by kernel_rfl) ?_; conv => whnf) | (refine W.R (by kernel_rfl) ?_; conv => whnf) | (refine W.S ?_) | (refine W.block ?_) | (refine W.skip ?_; conv => whnf) | (refine W.condT rfl ?_) | (refine ⟨_, c1, ?_⟩; conv => whnf) | (refine ⟨0, _, rfl, g, rfl, ?_⟩; conv => whnf) | (refine ⟨one_any ⟨rfl, rfl⟩, Nat.le_of_ble_eq_true rfl, Nat.le_of_ble_eq_true rfl, ?_⟩; conv => whnf) | (refine ⟨rfl, _, w64 (by omega), ?_⟩; conv => whnf) | (refine ⟨true, decide_eq_true (by omega), ?_⟩; conv => whnf) | (refine ⟨_, rfl, ?_⟩; conv => whnf) | (refine ⟨rfl, ?_⟩; conv => whnf))
      exact ⟨⟨0 + 1, by omega⟩, Wk.tab [(0, 29), (1, 33)] ⟨⟨rfl, rfl⟩, ⟨rfl, rfl⟩, ⟨rfl, rfl⟩, ⟨rfl, rfl⟩, trivial⟩ ⟨arrE (by rw [tk]; rfl), arrE (by rw [tk]; rfl), trivial⟩ rfl, by dsimp only; omega⟩
    | succ k =>
      show W J _ _ (mkA [(0, .iv (.sl (l.map Num3.iv))), (4, .ref 0 0 (k + 1) true), (5, .ref 1 0 (k + 1) true), (6, .iv (.int .i64 ((k + 1 : Nat) : Int)))]
        [(0, .arr 29 3 ((l.take (k + 1)).map fun x => qr x.q) false), (1, .arr 37 4 ((l.take (k + 1)).map fun x => rr x.q) false)] 10) _
      have l1 : k + 1 = ((l.take (k + 1)).map fun x => qr x.q).length := by simp; omega
      have l2 : k + 1 = ((l.take (k + 1)).map fun x => rr x.q).length := by simp; omega
      repeat (first | (refine W.RS (by kernel_rfl) ?_; conv => whnf) | (refine W.R (by kernel_rfl) ?_; conv => whnf) | (refine W.S ?_) | (refine W.block ?_) | (refine W.skip ?_; conv => whnf) | (refine W.condT rfl ?_) | (refine ⟨_, c1, ?_⟩; conv => whnf) | (refine ⟨k + 1, _, rfl, g, rfl, ?_⟩; conv => whnf) | (refine ⟨nin1 rfl, rfl, rfl, l1, one_any ⟨rfl, rfl⟩, by show (k + 1 + 1) * 56 ≤ (140737488355328 : Nat); omega, by show k + 1 + 1 ≤ maxLen; unfold maxLen; omega, ?_⟩; conv => whnf) | (refine ⟨nin1 rfl, rfl, rfl, l2, one_any ⟨rfl, rfl⟩, by show (k + 1 + 1) * 64 ≤ (140737488355328 : Nat); omega, by show k + 1 + 1 ≤ maxLen; unfold maxLen; omega, ?_⟩; conv => whnf) | (refine ⟨rfl, _, w64 (by omega), ?_⟩; conv => whnf) | (refine ⟨true, decide_eq_true (by omega), ?_⟩; conv => whnf) | (refine ⟨_, rfl, ?_⟩; conv => whnf) | (refine ⟨rfl, ?_⟩; conv => whnf))
      exact ⟨⟨k + 1 + 1, by omega⟩, Wk.tab [(0, 29), (1, 33)] ⟨⟨rfl, rfl⟩, ⟨rfl, rfl⟩, ⟨rfl, rfl⟩, ⟨rfl, rfl⟩, trivial⟩ ⟨arrE (by rw [tk, List.map_append]; rfl), arrE (by rw [tk, List.map_append]; rfl), trivial⟩ rfl, by dsimp only; omega⟩
  · have e : k = l.length := by omega
    cases l with
    | nil =>
      subst e
      show W J _ _ (mkA [(0, .iv (.sl [])), (4, .nilS), (5, .nilS), (6, .iv (.int .i64 0))] [] 10) _
      repeat (first | (refine W.RS (by kernel_rfl) ?_; conv => whnf) | (refine W.S ?_) | (refine W.ret ?_; conv => whnf) | (refine W.exit ?_; conv => whnf) | (refine W.condF rfl ?_) | (refine ⟨_, rfl, ?_⟩; conv => whnf) | (refine ⟨rfl, ?_⟩; conv => whnf))
      rfl
    | cons y l =>
      subst e
      show W J _ _ (mkA [(0, .iv (.sl ((y :: l).map Num3.iv))), (4, .ref 0 0 (l.length + 1) true), (5, .ref 1 0 (l.length + 1) true), (6, .iv (.int .i64 ((l.length + 1 : Nat) : Int)))]
        [(0, .arr 29 3 (((y :: l).take (l.length + 1)).map fun x => qr x.q) false), (1, .arr 37 4 (((y :: l).take (l.length + 1)).map fun x => rr x.q) false)] 10) _
      have la2 : (l.map Num3.iv).length = l.length := by simp
      have la' : ((y :: l).map Num3.iv).length = l.length + 1 := by simp
      have e1 : (y :: l).take (l.length + 1) = y :: l := List.take_of_length_le (by simp)
      rw [e1]
      repeat (first | (refine W.RS (by kernel_rfl) ?_; conv => whnf) | (refine W.S ?_) | (refine W.ret ?_; conv => whnf) | (refine W.exit ?_; conv => whnf) | (refine W.condF rfl ?_) | (refine ⟨_, castA _, ?_⟩; conv => whnf) | (refine ⟨false, decide_eq_false (by omega), ?_⟩; conv => whnf) | (refine ⟨rfl, ?_⟩; conv => whnf))
      show IV.tup [.sl (List.take (l.length + 1) (List.drop 0 ((y :: l).map fun x => qr x.q))), .sl (List.take (l.length + 1) (List.drop 0 ((y :: l).map fun x => rr x.q)))] = _
      rw [List.drop_zero, List.drop_zero, List.take_of_length_le (by simp), List.take_of_length_le (by simp)]
theorem f13_eq {l : List Num3} (b : Int → Bool) : vx (chooseE b (l.map fun x => some x.q)) = chooseL b (l.map Num3.q) := by
  rw [chooseE_val, List.map_map]
  rfl
theorem map_rr (l : List Num3) : (l.map fun x => rr x.q) = (l.map fun x => some x.q).map rx := by
  rw [List.map_map]; rfl
theorem map_qr (l : List Num3) : (l.map fun x => qr x.q) = (l.map Num3.q).map qr := by
  rw [List.map_map]; rfl
theorem map_rr' (l : List Num3) : (l.map fun x => rr x.q) = (l.map Num3.q).map rr := by
  rw [List.map_map]; rfl
theorem f23_x {J : Keep} (L : LibI J) {p : Rat} {e : Option Rat} (h : p = vx e) (hp : rl p < 2 ^ 26) : C J 23 [qr p, rx e] (.bool true) := by
  have := f23_ok L (p := p) (rx_ok e) (by have := qr_lt hp; omega) (by rw [← h]; omega)
  rw [decide_eq_true h] at this
  exact this
set_option maxHeartbeats 4000000 in
theorem f13_ok {J : Keep} (L : LibI J) {l : List Num3} (hl0 : l.length < 2 ^ 63) (hok : ∀ x ∈ l, x.ok) : C J 13 [.sl (l.map Num3.iv)] (.bool true) := by
  refine fn_ok Tryz.func13 rfl rfl rfl ?_
  have la : (l.map Num3.iv).length = l.length := by simp
  have aw := f19_ok L
  by_cases hl : l.length > 30
  · repeat (first | (refine W.RS (by kernel_rfl) ?_; conv => whnf) | (refine W.S ?_) | (refine W.ret ?_; conv => whnf) | (refine W.condT rfl ?_) | (refine ⟨_, aw, ?_⟩; conv => whnf) | (refine ⟨true, decide_eq_true (by omega), ?_⟩; conv => whnf) | (refine ⟨_, rfl, ?_⟩; conv => whnf) | (refine ⟨rfl, ?_⟩; conv => whnf))
    rfl
  · have c1 := f72_ok J (l := l) (by omega) hok
    have hq : ∀ q ∈ l.map Num3.q, rl q ≤ 52 := by
      intro q h
      obtain ⟨x, h1, rfl⟩ := List.mem_map.1 h
      exact bothL (hok x h1)
    have lq : (l.map Num3.q).length = l.length := by simp
    have le : (l.map fun x => some x.q).length = l.length := by simp
    have hqe : ∀ e ∈ (l.map fun x => some x.q), rl (vx e) < 2 ^ 34 := by
      intro e h
      obtain ⟨x, h1, rfl⟩ := List.mem_map.1 h
      have := bothL (hok x h1)
      show rl x.q < _
      omega
    have hq38 : ∀ q ∈ l.map Num3.q, qln q < 2 ^ 38 := fun q h => by have h1 := hq q h; have := qln_rl q; omega
    have c2 := f70_ok J (l := l.map Num3.q) (by omega) hq38
    have c3 := f71_ok J (l := l.map Num3.q) (by omega) hq38
    have c4 := f73_ok J (l := l.map fun x => some x.q) (by omega) hqe
    have c5 := f74_ok J (l := l.map fun x => some x.q) (by omega) hqe
    have hmul : (2 * 52 + 1) * l.length ≤ (2 * 52 + 1) * 30 := Nat.mul_le_mul_left _ (by omega)
    have c6 := f75_ok (base J) (l := l.map Num3.q) (N := 52) hq (by rw [lq]; omega)
    have c7 := f76_ok J (l := l.map Num3.q) (N := 52) hq (by rw [lq]; omega)
    rw [← map_rr] at c4 c5
    rw [← map_rr'] at c7
    rw [← map_qr] at c2 c3 c6
    have b1 : rl (minL (l.map Num3.q)) < 2 ^ 26 := rl_max (fun q h => by have := hq q h; omega) (by decide) _
    have b2 : rl (maxL (l.map Num3.q)) < 2 ^ 26 := rl_max (fun q h => by have := hq q h; omega) (by decide) _
    have b3 := rl_sum (l := l.map Num3.q) (B := 52) hq
    rw [lq] at b3
    have d1 := f23_x L (p := minL (l.map Num3.q)) (e := chooseE (fun c => decide (c < 0)) (l.map fun x : Num3 => some x.q)) (f13_eq (l := l) (fun c => decide (c < 0))).symm b1
    have d2 := f23_x L (p := maxL (l.map Num3.q)) (e := chooseE (fun c => decide (c > 0)) (l.map fun x : Num3 => some x.q)) (f13_eq (l := l) (fun c => decide (c > 0))).symm b2
    have d3 := f23_x L (p := sumL (l.map Num3.q)) (e := sumE (l.map Num3.q)) (by unfold sumE; split; (rename_i h; rw [h]; rfl); rfl) (by omega)
    obtain ⟨A, hA⟩ : ∃ A, (l.map fun x => qr x.q) = A := ⟨_, rfl⟩
    obtain ⟨R, hR⟩ : ∃ A, (l.map fun x => rr x.q) = A := ⟨_, rfl⟩
    rw [hA] at c1 c2 c3 c6
    rw [hR] at c1 c4 c5 c7
    clear hA hR b1 b2 b3 hq hqe hq38 hok
    repeat (first | (refine W.RS (by kernel_rfl) ?_; conv => whnf) | (refine W.S ?_) | (refine W.ret ?_; conv => whnf) | (refine W.skip ?_; conv => whnf) | (refine W.condF rfl ?_) | (refine ⟨_, c1, ?_⟩; conv => whnf) | (refine ⟨_, c2, ?_⟩; conv => whnf) | (refine ⟨_, c3, ?_⟩; conv => whnf) | (refine ⟨_, c4, ?_⟩; conv => whnf) | (refine ⟨_, c5, ?_⟩; conv => whnf) | (refine ⟨_, c6, ?_⟩; conv => whnf) | (refine ⟨_, c7, ?_⟩; conv => whnf) | (refine ⟨_, d1, ?_⟩; conv => whnf) | (refine ⟨_, d2, ?_⟩; conv => whnf) | (refine ⟨_, d3, ?_⟩; conv => whnf) | (refine ⟨_, aw, ?_⟩; conv => whnf) | (refine ⟨false, decide_eq_false (by omega), ?_⟩; conv => whnf) | (refine ⟨_, rfl, ?_⟩; conv => whnf) | (refine ⟨rfl, ?_⟩; conv => whnf) | (refine ⟨_, fun _ => rfl, fun h => absurd h.symm Bool.false_ne_true, ?_⟩; conv => whnf))
    rfl
end Go.Proofs.Fl
namespace Go.Proofs.Fl
open Go.RowKit Go.ChangeShapes Go.WideShapes Go.Deep
attribute [local irreducible] IntKind.wrap PureC MutC MakC IterC
set_option maxRecDepth 100000
def numV (x : Num3) : Value := .agg #[.int .i64 x.n, .int .i64 x.d, .int .u8 (x.p : Int)]
instance : Inhabited Num3 := ⟨⟨0, 0, 0⟩⟩
theorem flat_nums {c : List Value} {off : Nat} {N : Nat → Num3} {len : Nat}
    (h : ∀ i, i < len → c[off + (i * 3 + 0)]? = some (.int .i64 (N i).n) ∧ c[off + (i * 3 + 1)]? = some (.int .i64 (N i).d) ∧ c[off + (i * 3 + 2)]? = some (.int .u8 ((N i).p : Int))) :
    ∀ k, k ≤ len → (c.drop off).take (k * 3) = flat ((List.range k).map fun i => numV (N i)) := by
  intro k
  induction k with
  | zero => intro _; rfl
  | succ k ih =>
    intro hk
    obtain ⟨h0, h1, h2⟩ := h k (by omega)
    have e1 : (k + 1) * 3 = k * 3 + 3 := by omega
    rw [e1, List.take_add, ih (by omega), List.range_succ, List.map_append]
    unfold flat
    rw [List.flatMap_append]
    congr 1
    rw [List.drop_drop]
    have g : ∀ {l : List Value} {j : Nat} {x y z : Value}, l[j + 0]? = some x → l[j + 1]? = some y → l[j + 2]? = some z → (l.drop j).take 3 = [x, y, z] := by
      intro l j x y z a b c
      apply List.ext_getElem?
      intro i
      rw [List.getElem?_take]
      match i with
      | 0 => simpa using a
      | 1 => simpa using b
      | 2 => simpa using c
      | i + 3 => simp; intro h; omega
    have g0 : c[off + k * 3 + 0]? = some (.int .i64 (N k).n) := by rw [← h0]; congr 1
    have g1 : c[off + k * 3 + 1]? = some (.int .i64 (N k).d) := by rw [← h1]; congr 1
    have g2 : c[off + k * 3 + 2]? = some (.int .u8 ((N k).p : Int)) := by rw [← h2]; congr 1
    exact g g0 g1 g2
section
variable {H : Type} {enc : TypeId × Value → H} {w : World} {spare : Nat → Bool} {held : Bool} {r : Reach} {b0 : Nat} {v : Value} {d : DataW H}
theorem nums_arg (hv : Value.okWide Tryz.prog w r b0 94 v) (h : ∃ p, DataW.Trod enc Tryz.prog w 0 spare held 94 v d p) :
    ∃ (Hp : Heap) (l : List Num3), HeapHas w Hp ∧ VR Hp v (.sl (l.map Num3.iv)) ∧ l.length < 2 ^ 63 ∧ ∀ x ∈ l, x.ok := by
  obtain ⟨a0, len, cap, rfl⟩ := okWide_slice (e := 45) Tryz.underlying94 hv
  obtain ⟨p, fuel, hf⟩ := h
  rcases open_slice (e := 45) Tryz.underlying94 hf with ⟨h0, _⟩ | ⟨a, len', cap', m, n, D, Pl, e, hb, hl, hm, hmm, _, hx⟩
  · simp [Value.cells] at h0
    obtain ⟨rfl, rfl, rfl⟩ := h0
    exact ⟨noHeap, [], noHeap_has w, .sl0 _ _, by decide, by simp⟩
  · simp [Value.cells] at e
    obtain ⟨rfl, rfl, rfl⟩ := e
    rw [show Tryz.prog.cellsOf 45 = 3 by kernel_rfl] at hx
    have hlm : len ≤ m := by rw [hmm]; split <;> omega
    obtain ⟨N, hN⟩ := choose_lt (α := Num3) (n := len) (p := fun i x => w.cells? 0 (a.add (i * 3)) 3 = some [.int .i64 x.n, .int .i64 x.d, .int .u8 (x.p : Int)] ∧ x.ok) (fun i hi => by
      obtain ⟨cs, h1, h2⟩ := hx i (by omega)
      obtain ⟨n, d, p, rfl, k1, k2, k3⟩ := num_cells h2
      exact ⟨⟨n, d, p⟩, h1, k1, k2, k3⟩)
    by_cases hz : len = 0
    · subst hz
      exact ⟨noHeap, [], noHeap_has w, .sl0 _ _, by decide, by simp⟩
    · obtain ⟨_, _, hc⟩ := World.cells?_some (hN 0 (by omega)).1
      have hc0 := hc 0 (by omega)
      rw [add_add] at hc0
      obtain ⟨c, et, fr, hbk, hsp⟩ : ∃ c et fr, w.heap[a.block]? = some (.cells c et fr) ∧ a.spot = none := by
        unfold World.cell? at hc0
        simp [Addr.add] at hc0
        cases hh : w.heap[a.block]? with
        | none => rw [hh] at hc0; simp at hc0
        | some o =>
          rw [hh] at hc0
          cases o with
          | cells c et fr =>
            refine ⟨c, et, fr, rfl, ?_⟩
            cases hs : a.spot with
            | none => rfl
            | some s => rw [hs] at hc0; simp at hc0
          | _ => simp at hc0
      have hadd : ∀ j, a.add j = ⟨a.block, a.off + j, none⟩ := by
        intro j
        unfold Addr.add
        split
        · rename_i hj; subst hj; cases a; simp_all
        · rfl
      have hcell : ∀ j, w.cell? ⟨a.block, a.off + j, none⟩ = c[a.off + j]? := by
        intro j
        unfold World.cell?
        simp only [hbk]
        rfl
      have hat : ∀ i, i < len → c.toList[a.off + (i * 3 + 0)]? = some (.int .i64 (N i).n) ∧ c.toList[a.off + (i * 3 + 1)]? = some (.int .i64 (N i).d) ∧ c.toList[a.off + (i * 3 + 2)]? = some (.int .u8 ((N i).p : Int)) := by
        intro i hi
        obtain ⟨_, _, hc⟩ := World.cells?_some (hN i hi).1
        have q : ∀ j, j < 3 → c[a.off + (i * 3 + j)]? = ([.int .i64 (N i).n, .int .i64 (N i).d, .int .u8 ((N i).p : Int)] : List Value)[j]? := by
          intro j hj
          rw [← hc j hj, add_add, hadd, hcell]
        refine ⟨?_, ?_, ?_⟩
        · simpa using q 0 (by omega)
        · simpa using q 1 (by omega)
        · simpa using q 2 (by omega)
      have hml : maxLen < 2 ^ 63 := by decide
      have hvl : ∀ (k : Nat), VRL (fun b => if b = a.block then some c else none) ((List.range k).map fun i => numV (N i)) (((List.range k).map N).map Num3.iv) := by
        intro k
        induction k with
        | zero => exact .nil
        | succ k ih =>
          rw [List.range_succ, List.map_append, List.map_append, List.map_append]
          exact ih.append (.cons _ _ _ _ num_vr .nil)
      have hok : ∀ x ∈ (List.range len).map N, x.ok := by
        intro x h
        obtain ⟨i, h1, rfl⟩ := List.mem_map.1 h
        exact (hN i (by simpa using h1)).2
      refine ⟨fun b => if b = a.block then some c else none, (List.range len).map N, ?_, ?_, by simp; omega, hok⟩
      · intro b arr hb
        dsimp only at hb
        split at hb
        · rename_i hb'
          injection hb with hb
          subst hb hb'
          exact ⟨et, fr, hbk⟩
        · cases hb
      · have ea : a = ⟨a.block, a.off, none⟩ := by cases a; simp_all
        rw [ea]
        refine VR.sl a.block a.off len cap 3 c ((List.range len).map fun i => numV (N i)) _ (by simp) (hvl len) (by simp) hl ?_ ?_
        · intro v hv
          obtain ⟨i, _, rfl⟩ := List.mem_map.1 hv
          rfl
        · rw [List.length_map, List.length_range]
          exact flat_nums hat len (Nat.le_refl _)
end
end Go.Proofs.Fl
