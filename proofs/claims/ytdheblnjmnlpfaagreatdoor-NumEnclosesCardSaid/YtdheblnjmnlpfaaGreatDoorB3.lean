/-
  Contracts of the functions of num and of its reference, and the join to a row (no conditions of ours).
-/
import Derived.Test.YtdheblnjmnlpfaaGreatDoorB2
namespace Go.Proofs.Fl
open Go.RowKit Go.Proofs.Dig
attribute [local irreducible] IntKind.wrap PureC MutC MakC IterC
theorem getSet {es : List IV} {i : Nat} {v : IV} (h : i < es.length) : (es.set i v)[i]? = some v := by simp [h]
theorem arrSet2 {o : List Nat} {i j d : Nat} {x y : Int} (hj : j = i) (h : y = (d : Int)) : some (Bx.arr 173 1 (((o.map u32).set j (.int .u32 x)).set j (.int .u32 y)) false) = some (Bx.arr 173 1 ((o.set i d).map u32) false) := by
  rw [hj, List.set_set, set_u32 h]
theorem leStep {l m o : List Nat} {i c d c' : Nat} (hi : i < o.length) (hs : nv B9 (o.take i) + nv B9 (m.take i) = nv B9 (l.take i) + B9 ^ i * c) (he : d + m.getD i 0 + c = l.getD i 0 + 1000000000 * c') :
    nv B9 ((o.set i d).take (i + 1)) + nv B9 (m.take (i + 1)) = nv B9 (l.take (i + 1)) + B9 ^ (i + 1) * c' := by
  rw [set_take_succ hi, nv_take_getD l, nv_take_getD m]
  have := borrow_step (B := B9) (A := o.take i) (by simp; omega) hs he
  omega
theorem all32 {l : List Nat} : ∀ y ∈ l.map u32, y.cells.length = 1 ∧ y.isTup = false := by
  intro y hy
  obtain ⟨d, _, rfl⟩ := List.mem_map.1 hy
  exact ⟨rfl, rfl⟩
theorem drop_getD {o l : List Nat} {i : Nat} (h : o.drop i = l.drop i) : o.getD i 0 = l.getD i 0 := by
  have := congrArg (fun x => x.getD 0 0) h
  simpa [List.getD_eq_getElem?_getD] using this
theorem drop_set {o l : List Nat} {i d : Nat} (h : o.drop i = l.drop i) : (o.set i d).drop (i + 1) = l.drop (i + 1) := by
  rw [set_drop_succ]
  have := congrArg (List.drop 1) h
  simpa [List.drop_drop, Nat.add_comm 1 i] using this
theorem copyAll {l : List Nat} {z : IV} {n k : Nat} (hn : n = l.length) (hk : k = l.length) : splice (List.replicate n z) 0 (List.take k (l.map u32)) = l.map u32 := by
  subst hn; subst hk
  unfold splice
  rw [List.take_zero, List.nil_append, List.take_of_length_le (by simp), Nat.zero_add, List.drop_of_length_le (by simp), List.append_nil]
theorem f173_ok (J : Keep) {a b : Nat} (hab : b ≤ a) (ha : ln a < 2 ^ 44) : C J 173 [mag a, mag b] (mag (a - b)) := by
  unfold ln at ha
  obtain ⟨l, hl0⟩ : ∃ l, l = dg a := ⟨_, rfl⟩
  obtain ⟨m, hm0⟩ : ∃ m, m = dg b := ⟨_, rfl⟩
  have hol : Ok B9 l := by rw [hl0]; exact dg_ok a
  have hom : Ok B9 m := by rw [hm0]; exact dg_ok b
  have hvl : nv B9 l = a := by rw [hl0]; exact dg_nv a
  have hvm : nv B9 m = b := by rw [hm0]; exact dg_nv b
  show C J 173 [mgI (dg a), mgI (dg b)] _
  rw [← hl0, ← hm0]
  rw [← hl0] at ha
  have la : (l.map u32).length = l.length := by simp
  have lb : (m.map u32).length = m.length := by simp
  have hml : m.length ≤ l.length := len_le_of_lt (by decide) hom (by have := nv_lt hol.dg; omega)
  refine fn_ok Tryz.func173 rfl rfl rfl ?_
  repeat (first | (refine W.RS (by kernel_rfl) ?_; conv => whnf) | (refine W.S ?_) | (refine W.block ?_) | (refine ⟨List.not_mem_nil, rfl, all32, by simp, _, rfl, ?_⟩; conv => whnf) | (refine ⟨by show 4 * _ ≤ (281474976710656 : Nat); omega, by unfold maxLen; omega, ?_⟩; conv => whnf) | (refine ⟨_, rfl, ?_⟩; conv => whnf) | (refine ⟨rfl, ?_⟩; conv => whnf))
  refine W.loop (G := { p : Nat × Nat × List Nat // p.1 ≤ l.length ∧ p.2.1 ≤ 1 ∧ p.2.2.length = l.length ∧ Dg B9 p.2.2 ∧ nv B9 (p.2.2.take p.1) + nv B9 (m.take p.1) = nv B9 (l.take p.1) + B9 ^ p.1 * p.2.1 ∧ p.2.2.drop p.1 = l.drop p.1 })
    (fun p => mkA [(2, .ptr 0 0), (3, .ptr 1 0), (4, .ptr 2 0), (5, .ref 3 0 l.length true), (6, .iv (.int .u32 (p.1.2.1 : Int))), (18, .iv (.int .i64 (l.length : Int))), (19, .iv (.int .i64 (p.1.1 : Int)))]
      [(0, .var (mgI l)), (1, .var (mgI m)), (2, .var (.agg [.sl []])), (3, .arr 173 1 (p.1.2.2.map u32) false)] 20) (fun p => l.length - p.1.1)
    ⟨(0, 0, l), by simp, by simp, rfl, hol.dg, by simp [nv], rfl⟩
    (Wk.tab [(3, 6)] ⟨⟨rfl, rfl⟩, ⟨rfl, rfl⟩, ⟨rfl, rfl⟩, ⟨refEq (by omega), rfl⟩, ⟨rfl, rfl⟩, ⟨ivEq (by omega), rfl⟩, ⟨rfl, rfl⟩, trivial⟩ ⟨rfl, rfl, rfl, arrEq ?_, trivial⟩ rfl) ?_
  · exact copyAll (by omega) (by rw [la]; exact Nat.min_self _)
  rintro ⟨⟨i, c, o⟩, hi, hc, ho, hd, hs, hdr⟩
  dsimp only at hi hc ho hd hs hdr
  show W J _ _ (mkA [(2, .ptr 0 0), (3, .ptr 1 0), (4, .ptr 2 0), (5, .ref 3 0 l.length true), (6, .iv (.int .u32 (c : Int))), (18, .iv (.int .i64 (l.length : Int))), (19, .iv (.int .i64 (i : Int)))]
      [(0, .var (mgI l)), (1, .var (mgI m)), (2, .var (.agg [.sl []])), (3, .arr 173 1 (o.map u32) false)] 20) _
  have lo : (o.map u32).length = o.length := by simp
  have hox : o.getD (0 + i) 0 = l.getD i 0 := by rw [Nat.zero_add]; exact drop_getD hdr
  have hx := getD_lt hol.dg i
  by_cases h : i < l.length
  · by_cases h2 : i < m.length
    · have hy := getD_lt hom.dg i
      by_cases h3 : l.getD i 0 < c + m.getD i 0
      · by_cases hdum : True
        · have hp := leStep (d := l.getD i 0 + 1000000000 - (c + m.getD i 0)) (c' := 1) (show i < o.length by omega) hs (by omega)
          have hq := drop_set (d := l.getD i 0 + 1000000000 - (c + m.getD i 0)) hdr
          repeat (first | (refine W.RS (by kernel_rfl) ?_; conv => whnf) | (refine W.R (by kernel_rfl) ?_; conv => whnf) | (refine W.S ?_) | (refine W.block ?_) | (refine W.skip ?_; conv => whnf) | (refine W.condT rfl ?_) | (refine ⟨rfl, _, w64 (by omega), ?_⟩; conv => whnf) | (refine ⟨rfl, _, w32 (by omega), ?_⟩; conv => whnf) | (refine ⟨_, _, rfl, getu (by omega), rfl, ?_⟩; conv => whnf) | (refine ⟨(rfl : (_ : Nat) = _), _, rfl, by omega, ?_⟩; conv => whnf) | (refine ⟨_, getu (by omega), ?_⟩; conv => whnf) | (refine ⟨_, getSet (by omega), ?_⟩; conv => whnf) | (refine ⟨List.not_mem_nil, _, getSet (by omega), ?_⟩; conv => whnf) | (refine ⟨List.not_mem_nil, _, getu (by omega), ?_⟩; conv => whnf) | (refine ⟨true, decide_eq_true (by omega), ?_⟩; conv => whnf) | (refine ⟨_, rfl, ?_⟩; conv => whnf) | (refine ⟨rfl, ?_⟩; conv => whnf))
          exact ⟨⟨(i + 1, 1, o.set i (l.getD i 0 + 1000000000 - (c + m.getD i 0))), by dsimp only; omega, by dsimp only; omega, by dsimp only; rw [List.length_set]; exact ho, hd.set (by simp only [B9]; omega), hp, hq⟩,
            Wk.tab [] ⟨⟨rfl, rfl⟩, ⟨rfl, rfl⟩, ⟨rfl, rfl⟩, ⟨rfl, rfl⟩, ⟨rfl, rfl⟩, ⟨rfl, rfl⟩, ⟨rfl, rfl⟩, trivial⟩ ⟨rfl, rfl, rfl, arrSet2 (by omega) (by omega), trivial⟩ rfl, by dsimp only; omega⟩
        · exact absurd trivial hdum
      · by_cases hdum : True
        · have hp := leStep (d := l.getD i 0 - (c + m.getD i 0)) (c' := 0) (show i < o.length by omega) hs (by omega)
          have hq := drop_set (d := l.getD i 0 - (c + m.getD i 0)) hdr
          repeat (first | (refine W.RS (by kernel_rfl) ?_; conv => whnf) | (refine W.R (by kernel_rfl) ?_; conv => whnf) | (refine W.S ?_) | (refine W.block ?_) | (refine W.skip ?_; conv => whnf) | (refine W.condF rfl ?_) | (refine W.condT rfl ?_) | (refine ⟨rfl, _, w64 (by omega), ?_⟩; conv => whnf) | (refine ⟨rfl, _, w32 (by omega), ?_⟩; conv => whnf) | (refine ⟨_, _, rfl, getu (by omega), rfl, ?_⟩; conv => whnf) | (refine ⟨(rfl : (_ : Nat) = _), _, rfl, by omega, ?_⟩; conv => whnf) | (refine ⟨_, getu (by omega), ?_⟩; conv => whnf) | (refine ⟨List.not_mem_nil, _, getu (by omega), ?_⟩; conv => whnf) | (refine ⟨true, decide_eq_true (by omega), ?_⟩; conv => whnf) | (refine ⟨false, decide_eq_false (by omega), ?_⟩; conv => whnf) | (refine ⟨_, rfl, ?_⟩; conv => whnf) | (refine ⟨rfl, ?_⟩; conv => whnf))
          exact ⟨⟨(i + 1, 0, o.set i (l.getD i 0 - (c + m.getD i 0))), by dsimp only; omega, by dsimp only; omega, by dsimp only; rw [List.length_set]; exact ho, hd.set (by simp only [B9]; omega), hp, hq⟩,
            Wk.tab [] ⟨⟨rfl, rfl⟩, ⟨rfl, rfl⟩, ⟨rfl, rfl⟩, ⟨rfl, rfl⟩, ⟨rfl, rfl⟩, ⟨rfl, rfl⟩, ⟨rfl, rfl⟩, trivial⟩ ⟨rfl, rfl, rfl, arrSet (by omega) (by omega), trivial⟩ rfl, by dsimp only; omega⟩
        · exact absurd trivial hdum
    · have hy : m.getD i 0 = 0 := by simp [Nat.not_lt.1 h2]
      by_cases h4 : c = 0
      · subst h4
        have hfin : nv B9 o = a - b := by
          have e1 := nv_take_add B9 o i (by omega)
          have e2 := nv_take_add B9 l i (by omega)
          rw [hdr] at e1
          rw [List.take_of_length_le (show m.length ≤ i by omega), Nat.mul_zero] at hs
          omega
        repeat (first | (refine W.RS (by kernel_rfl) ?_; conv => whnf) | (refine W.S ?_) | (refine W.block ?_) | (refine W.exit ?_; conv => whnf) | (refine W.skip ?_; conv => whnf) | (refine W.condF rfl ?_) | (refine W.condT rfl ?_) | (refine ⟨true, decide_eq_true (by omega), ?_⟩; conv => whnf) | (refine ⟨false, decide_eq_false (by omega), ?_⟩; conv => whnf) | (refine ⟨_, rfl, ?_⟩; conv => whnf) | (refine ⟨rfl, ?_⟩; conv => whnf))
        refine ⟨_, f188_at J (l := o) ?_ ?_, ?_⟩
        · rw [List.drop_zero, List.take_of_length_le (by simp; omega)]
        · omega
        repeat ((refine W.ret ?_; conv => whnf))
        exact congrArg mgI (dg_strip hd hfin)
      · have h5 : c = 1 := by omega
        by_cases h3 : l.getD i 0 < c
        · have hp := leStep (d := l.getD i 0 + 1000000000 - c) (c' := 1) (show i < o.length by omega) hs (by omega)
          have hq := drop_set (d := l.getD i 0 + 1000000000 - c) hdr
          repeat (first | (refine W.RS (by kernel_rfl) ?_; conv => whnf) | (refine W.R (by kernel_rfl) ?_; conv => whnf) | (refine W.S ?_) | (refine W.block ?_) | (refine W.skip ?_; conv => whnf) | (refine W.condF rfl ?_) | (refine W.condT rfl ?_) | (refine ⟨rfl, _, w64 (by omega), ?_⟩; conv => whnf) | (refine ⟨rfl, _, w32 (by omega), ?_⟩; conv => whnf) | (refine ⟨(rfl : (_ : Nat) = _), _, rfl, by omega, ?_⟩; conv => whnf) | (refine ⟨_, getu (by omega), ?_⟩; conv => whnf) | (refine ⟨_, getSet (by omega), ?_⟩; conv => whnf) | (refine ⟨List.not_mem_nil, _, getSet (by omega), ?_⟩; conv => whnf) | (refine ⟨List.not_mem_nil, _, getu (by omega), ?_⟩; conv => whnf) | (refine ⟨true, decide_eq_true (by omega), ?_⟩; conv => whnf) | (refine ⟨false, decide_eq_false (by omega), ?_⟩; conv => whnf) | (refine ⟨_, rfl, ?_⟩; conv => whnf) | (refine ⟨rfl, ?_⟩; conv => whnf))
          exact ⟨⟨(i + 1, 1, o.set i (l.getD i 0 + 1000000000 - c)), by dsimp only; omega, by dsimp only; omega, by dsimp only; rw [List.length_set]; exact ho, hd.set (by simp only [B9]; omega), hp, hq⟩,
            Wk.tab [] ⟨⟨rfl, rfl⟩, ⟨rfl, rfl⟩, ⟨rfl, rfl⟩, ⟨rfl, rfl⟩, ⟨rfl, rfl⟩, ⟨rfl, rfl⟩, ⟨rfl, rfl⟩, trivial⟩ ⟨rfl, rfl, rfl, arrSet2 (by omega) (by omega), trivial⟩ rfl, by dsimp only; omega⟩
        · have hp := leStep (d := l.getD i 0 - c) (c' := 0) (show i < o.length by omega) hs (by omega)
          have hq := drop_set (d := l.getD i 0 - c) hdr
          repeat (first | (refine W.RS (by kernel_rfl) ?_; conv => whnf) | (refine W.R (by kernel_rfl) ?_; conv => whnf) | (refine W.S ?_) | (refine W.block ?_) | (refine W.skip ?_; conv => whnf) | (refine W.condF rfl ?_) | (refine W.condT rfl ?_) | (refine ⟨rfl, _, w64 (by omega), ?_⟩; conv => whnf) | (refine ⟨rfl, _, w32 (by omega), ?_⟩; conv => whnf) | (refine ⟨(rfl : (_ : Nat) = _), _, rfl, by omega, ?_⟩; conv => whnf) | (refine ⟨_, getu (by omega), ?_⟩; conv => whnf) | (refine ⟨List.not_mem_nil, _, getu (by omega), ?_⟩; conv => whnf) | (refine ⟨true, decide_eq_true (by omega), ?_⟩; conv => whnf) | (refine ⟨false, decide_eq_false (by omega), ?_⟩; conv => whnf) | (refine ⟨_, rfl, ?_⟩; conv => whnf) | (refine ⟨rfl, ?_⟩; conv => whnf))
          exact ⟨⟨(i + 1, 0, o.set i (l.getD i 0 - c)), by dsimp only; omega, by dsimp only; omega, by dsimp only; rw [List.length_set]; exact ho, hd.set (by simp only [B9]; omega), hp, hq⟩,
            Wk.tab [] ⟨⟨rfl, rfl⟩, ⟨rfl, rfl⟩, ⟨rfl, rfl⟩, ⟨rfl, rfl⟩, ⟨rfl, rfl⟩, ⟨rfl, rfl⟩, ⟨rfl, rfl⟩, trivial⟩ ⟨rfl, rfl, rfl, arrSet (by omega) (by omega), trivial⟩ rfl, by dsimp only; omega⟩
  · have hil : i = l.length := by omega
    have hfin : nv B9 o = a - b := by
      have hlt := nv_lt hd
      rw [hil, List.take_of_length_le (by omega), List.take_of_length_le (Nat.le_refl _), List.take_of_length_le (by omega)] at hs
      have hc0 : c = 0 := by
        apply Classical.byContradiction
        intro hc1
        have e1 : c = 1 := by omega
        rw [e1, Nat.mul_one] at hs
        rw [ho] at hlt
        omega
      rw [hc0, Nat.mul_zero] at hs
      omega
    by_cases hdum : True
    · by_cases hdum2 : True
      · repeat (first | (refine W.RS (by kernel_rfl) ?_; conv => whnf) | (refine W.S ?_) | (refine W.exit ?_; conv => whnf) | (refine W.condF rfl ?_) | (refine ⟨false, decide_eq_false (by omega), ?_⟩; conv => whnf) | (refine ⟨rfl, ?_⟩; conv => whnf))
        refine ⟨_, f188_at J (l := o) ?_ ?_, ?_⟩
        · rw [List.drop_zero, List.take_of_length_le (by simp; omega)]
        · omega
        repeat ((refine W.ret ?_; conv => whnf))
        exact congrArg mgI (dg_strip hd hfin)
      · exact absurd trivial hdum2
    · exact absurd trivial hdum
end Go.Proofs.Fl
namespace Go.Proofs.Fl
open Go.RowKit Go.Proofs.Dig
attribute [local irreducible] IntKind.wrap PureC MutC MakC IterC
theorem tdivN (a b : Nat) : (a : Int).tdiv (b : Int) = ((a / b : Nat) : Int) := by
  rw [Int.tdiv_eq_ediv_of_nonneg (by omega)]; rfl
theorem tmodN (a b : Nat) : (a : Int).tmod (b : Int) = ((a % b : Nat) : Int) := by
  rw [Int.tmod_eq_emod_of_nonneg (by omega)]; rfl
theorem siStep {l o : List Nat} {k d r : Nat} (hd0 : 0 < d) (hk : k < l.length) (ho : o.length = l.length) (hs : nv B9 (l.drop (k + 1)) = nv B9 (o.drop (k + 1)) * d + r) (hr : r < d) (hx : l.getD k 0 < 1000000000) :
    nv B9 (l.drop k) = nv B9 ((o.set k ((r * 1000000000 + l.getD k 0) / d)).drop k) * d + (r * 1000000000 + l.getD k 0) % d ∧ (r * 1000000000 + l.getD k 0) % d < d ∧ (r * 1000000000 + l.getD k 0) / d < 1000000000 := by
  have e1 : l.drop k = l.getD k 0 :: l.drop (k + 1) := by
    rw [List.drop_eq_getElem_cons hk, List.getD_eq_getElem?_getD, List.getElem?_eq_getElem hk]; rfl
  have e2 := set_drop_self (x := (r * 1000000000 + l.getD k 0) / d) (show k < o.length by omega)
  rw [e1, e2, nv_cons, nv_cons, hs]
  have hm := Nat.div_add_mod (r * 1000000000 + l.getD k 0) d
  refine ⟨?_, Nat.mod_lt _ hd0, ?_⟩
  · generalize (r * 1000000000 + l.getD k 0) / d = q at *
    generalize (r * 1000000000 + l.getD k 0) % d = r' at *
    generalize nv B9 (o.drop (k + 1)) = N at *
    generalize l.getD k 0 = x at *
    simp only [B9]
    rw [Nat.add_mul, Nat.mul_add, Nat.mul_assoc, Nat.mul_comm q d]
    omega
  · rw [Nat.div_lt_iff_lt_mul hd0]
    have : (r + 1) * 1000000000 ≤ d * 1000000000 := Nat.mul_le_mul_right _ hr
    rw [Nat.mul_comm 1000000000 d]
    omega
theorem f210_ok (J : Keep) {a d : Nat} (hd0 : 0 < d) (hd1 : d < 1000000000) (ha : ln a < 2 ^ 44) : C J 210 [mag a, .int .u32 d] (.tup [mag (a / d), mag (a % d)]) := by
  unfold ln at ha
  obtain ⟨l, hl0⟩ : ∃ l, l = dg a := ⟨_, rfl⟩
  have hol : Ok B9 l := by rw [hl0]; exact dg_ok a
  have hvl : nv B9 l = a := by rw [hl0]; exact dg_nv a
  show C J 210 [mgI (dg a), _] _
  rw [← hl0] at ha ⊢
  have la : (l.map u32).length = l.length := by simp
  refine fn_ok Tryz.func210 rfl rfl rfl ?_
  repeat (first | (refine W.RS (by kernel_rfl) ?_; conv => whnf) | (refine W.S ?_) | (refine W.block ?_) | (refine ⟨rfl, _, w64 (by omega), ?_⟩; conv => whnf) | (refine ⟨by show 4 * _ ≤ (281474976710656 : Nat); omega, by unfold maxLen; omega, ?_⟩; conv => whnf) | (refine ⟨_, rfl, ?_⟩; conv => whnf) | (refine ⟨rfl, ?_⟩; conv => whnf))
  refine W.loop (G := { p : Nat × Nat × List Nat // p.1 ≤ l.length ∧ p.2.1 < d ∧ p.2.2.length = l.length ∧ Dg B9 p.2.2 ∧ nv B9 (l.drop p.1) = nv B9 (p.2.2.drop p.1) * d + p.2.1 })
    (fun p => mkA [(1, .iv (.int .u32 (d : Int))), (2, .ptr 0 0), (4, .ptr 1 0), (5, .ptr 2 0), (6, .ref 3 0 l.length true), (7, .iv (.int .u64 (p.1.2.1 : Int))), (8, .iv (.int .i64 ((p.1.1 : Int) - 1)))]
      [(0, .var (mgI l)), (1, .var (.agg [.sl []])), (2, .var (.agg [.sl []])), (3, .arr 173 1 (p.1.2.2.map u32) false)] 20) (fun p => p.1.1)
    ⟨(l.length, 0, List.replicate l.length 0), by simp, by dsimp only; omega, by simp, Dg.replicate (by decide) _, by simp [nv]⟩
    (Wk.tab [(3, 6)] ⟨⟨rfl, rfl⟩, ⟨rfl, rfl⟩, ⟨rfl, rfl⟩, ⟨rfl, rfl⟩, ⟨refEq (by omega), rfl⟩, ⟨rfl, rfl⟩, ⟨ivEq (by dsimp only; omega), rfl⟩, trivial⟩ ⟨rfl, rfl, rfl, arrEq ?_, trivial⟩ rfl) ?_
  · rw [la, List.map_replicate]; rfl
  rintro ⟨⟨k, r, o⟩, hk, hr, ho, hd, hs⟩
  dsimp only at hk hr ho hd hs
  show W J _ _ (mkA [(1, .iv (.int .u32 (d : Int))), (2, .ptr 0 0), (4, .ptr 1 0), (5, .ptr 2 0), (6, .ref 3 0 l.length true), (7, .iv (.int .u64 (r : Int))), (8, .iv (.int .i64 ((k : Int) - 1)))]
      [(0, .var (mgI l)), (1, .var (.agg [.sl []])), (2, .var (.agg [.sl []])), (3, .arr 173 1 (o.map u32) false)] 20) _
  have lo : (o.map u32).length = o.length := by simp
  by_cases h : k = 0
  · subst h
    have e1 : nv B9 o = a / d := by
      simp only [List.drop_zero, hvl] at hs
      rw [hs, Nat.mul_comm, Nat.mul_add_div hd0, Nat.div_eq_of_lt hr, Nat.add_zero]
    have e2 : r = a % d := by
      simp only [List.drop_zero, hvl] at hs
      rw [hs, Nat.mul_comm, Nat.mul_add_mod, Nat.mod_eq_of_lt hr]
    repeat (first | (refine W.RS (by kernel_rfl) ?_; conv => whnf) | (refine W.S ?_) | (refine W.ret ?_; conv => whnf) | (refine W.exit ?_; conv => whnf) | (refine W.condF rfl ?_) | (refine ⟨_, f188_at J (l := o) (by rw [List.drop_zero, List.take_of_length_le (by simp; omega)]) (by omega), ?_⟩; conv => whnf) | (refine ⟨_, f134_ok J (n := r) (by omega), ?_⟩; conv => whnf) | (refine ⟨false, decide_eq_false (by omega), ?_⟩; conv => whnf) | (refine ⟨rfl, ?_⟩; conv => whnf))
    rw [dg_strip hd e1, e2]
    rfl
  · obtain ⟨k, rfl⟩ : ∃ j, k = j + 1 := ⟨k - 1, by omega⟩
    have hx := getD_lt hol.dg k
    obtain ⟨s1, s2, s3⟩ := siStep hd0 (show k < l.length by omega) ho hs hr hx
    obtain ⟨q, hQ⟩ : ∃ q, (r * 1000000000 + l.getD k 0) / d = q := ⟨_, rfl⟩
    obtain ⟨r', hR⟩ : ∃ q, (r * 1000000000 + l.getD k 0) % d = q := ⟨_, rfl⟩
    rw [hQ] at s1 s3
    rw [hR] at s1 s2
    have hq : IntKind.wrap .u64 (((r : Int) * 1000000000 + (l.getD k 0 : Int)).tdiv (d : Int)) = ((q : Nat) : Int) := by
      rw [show (r : Int) * 1000000000 + (l.getD k 0 : Int) = ((r * 1000000000 + l.getD k 0 : Nat) : Int) by omega, tdivN, hQ]
      exact wu64 (by omega)
    have hm : ((r : Int) * 1000000000 + (l.getD k 0 : Int)).tmod (d : Int) = ((r' : Nat) : Int) := by
      rw [show (r : Int) * 1000000000 + (l.getD k 0 : Int) = ((r * 1000000000 + l.getD k 0 : Nat) : Int) by omega, tmodN, hR]
    repeat (first | (refine W.RS (by kernel_rfl) ?_; conv => whnf) | (refine W.R (by kernel_rfl) ?_; conv => whnf) | (refine W.S ?_) | (refine W.block ?_) | (refine W.skip ?_; conv => whnf) | (refine W.condT rfl ?_) | (refine ⟨by omega, _, hq, ?_⟩; conv => whnf) | (refine ⟨by omega, _, hm, ?_⟩; conv => whnf) | (refine ⟨rfl, _, w64 (by omega), ?_⟩; conv => whnf) | (refine ⟨rfl, _, wu64 (by omega), ?_⟩; conv => whnf) | (refine ⟨_, _, castS _, getu (by omega), rfl, ?_⟩; conv => whnf) | (refine ⟨(rfl : (_ : Nat) = _), _, castS _, by omega, ?_⟩; conv => whnf) | (refine ⟨List.not_mem_nil, _, getu (by omega), ?_⟩; conv => whnf) | (refine ⟨_, w32 (by omega), ?_⟩; conv => whnf) | (refine ⟨_, wu64 (by omega), ?_⟩; conv => whnf) | (refine ⟨true, decide_eq_true (by omega), ?_⟩; conv => whnf) | (refine ⟨rfl, ?_⟩; conv => whnf))
    exact ⟨⟨(k, r', o.set k q), by dsimp only; omega, s2, by dsimp only; rw [List.length_set]; exact ho, hd.set (by simp only [B9]; omega), s1⟩,
      Wk.tab [] ⟨⟨rfl, rfl⟩, ⟨rfl, rfl⟩, ⟨rfl, rfl⟩, ⟨rfl, rfl⟩, ⟨rfl, rfl⟩, ⟨rfl, rfl⟩, ⟨ivEq (by dsimp only; omega), rfl⟩, trivial⟩ ⟨rfl, rfl, rfl, arrSet (by omega) (by omega), trivial⟩ rfl, by dsimp only; omega⟩
end Go.Proofs.Fl
namespace Go.Proofs.Fl
open Go.RowKit Go.Proofs.Dig
attribute [local irreducible] IntKind.wrap PureC MutC MakC IterC
theorem nv_set {l : List Nat} {j d : Nat} (h : j < l.length) : nv B9 (l.set j d) + B9 ^ j * l.getD j 0 = nv B9 l + B9 ^ j * d := by
  induction l generalizing j with
  | nil => simp at h
  | cons x l ih =>
    cases j with
    | zero => simp [nv]; omega
    | succ j =>
      have := ih (j := j) (by simpa using h)
      simp only [List.set_cons_succ, nv_cons, List.getD_cons_succ, Nat.pow_succ]
      have e1 : B9 * (nv B9 (l.set j d) + B9 ^ j * l.getD j 0) = B9 * (nv B9 l + B9 ^ j * d) := by rw [this]
      rw [Nat.mul_add, Nat.mul_add] at e1
      rw [Nat.mul_comm (B9 ^ j) B9, Nat.mul_assoc, Nat.mul_assoc]
      omega
theorem tiStep {o m : List Nat} {i k n x c r c' P : Nat} (hj : i + k < n) (hn : n ≤ o.length) (hs : nv B9 (o.take n) + B9 ^ (i + k) * c = P + B9 ^ i * (x * nv B9 (m.take k))) (he : c + (x * m.getD k 0 + o.getD (i + k) 0) = r + 1000000000 * c') :
    nv B9 ((o.set (i + k) r).take n) + B9 ^ (i + (k + 1)) * c' = P + B9 ^ i * (x * nv B9 (m.take (k + 1))) := by
  have e0 : (o.set (i + k) r).take n = (o.take n).set (i + k) r := by rw [List.take_set]
  have e1 := nv_set (l := o.take n) (d := r) (show i + k < (o.take n).length by rw [List.length_take]; omega)
  have e2 : (o.take n).getD (i + k) 0 = o.getD (i + k) 0 := by
    rw [List.getD_eq_getElem?_getD, List.getD_eq_getElem?_getD, List.getElem?_take, if_pos hj]
  rw [e2] at e1
  rw [e0, nv_take_getD, ← Nat.add_assoc, Nat.pow_succ, Nat.mul_assoc]
  have e3 : B9 ^ (i + k) * (c + (x * m.getD k 0 + o.getD (i + k) 0)) = B9 ^ (i + k) * (r + B9 * c') := by rw [he]
  rw [Nat.mul_add, Nat.mul_add, Nat.mul_add] at e3
  have e4 : B9 ^ i * (x * (nv B9 (m.take k) + B9 ^ k * m.getD k 0)) = B9 ^ i * (x * nv B9 (m.take k)) + B9 ^ (i + k) * (x * m.getD k 0) := by
    rw [Nat.mul_add, Nat.mul_add, Nat.pow_add]
    congr 1
    rw [Nat.mul_assoc, Nat.mul_left_comm x]
  rw [e4]
  omega
theorem mul_bound {x y : Nat} (hx : x < 1000000000) (hy : y < 1000000000) : x * y ≤ 999999998000000001 :=
  Nat.le_trans (Nat.mul_le_mul (Nat.le_of_lt_succ hx) (Nat.le_of_lt_succ hy)) (by decide)
theorem f136_ok (J : Keep) {a b : Nat} (ha : ln a + ln b < 2 ^ 44) : C J 136 [mag a, mag b] (mag (a * b)) := by
  unfold ln at ha
  obtain ⟨l, hl0⟩ : ∃ l, l = dg a := ⟨_, rfl⟩
  obtain ⟨m, hm0⟩ : ∃ m, m = dg b := ⟨_, rfl⟩
  have hol : Ok B9 l := by rw [hl0]; exact dg_ok a
  have hom : Ok B9 m := by rw [hm0]; exact dg_ok b
  have hvl : nv B9 l = a := by rw [hl0]; exact dg_nv a
  have hvm : nv B9 m = b := by rw [hm0]; exact dg_nv b
  show C J 136 [mgI (dg a), mgI (dg b)] _
  rw [← hl0, ← hm0] at ha ⊢
  have la : (l.map u32).length = l.length := by simp
  have lb : (m.map u32).length = m.length := by simp
  refine fn_ok Tryz.func136 rfl rfl rfl ?_
  repeat (first | (refine W.RS (by kernel_rfl) ?_; conv => whnf) | (refine W.S ?_) | (refine W.block ?_) | (refine ⟨rfl, _, w64 (by omega), ?_⟩; conv => whnf) | (refine ⟨rfl, _, castB _ _, ?_⟩; conv => whnf) | (refine ⟨by show 4 * _ ≤ (281474976710656 : Nat); omega, by unfold maxLen; omega, ?_⟩; conv => whnf) | (refine ⟨_, rfl, ?_⟩; conv => whnf))
  refine W.loop (G := { p : Nat × List Nat // p.1 ≤ l.length ∧ p.2.length = l.length + m.length ∧ Dg B9 p.2 ∧ nv B9 (p.2.take (p.1 + m.length)) = nv B9 (l.take p.1) * nv B9 m })
    (fun p => mkA [(2, .ptr 0 0), (3, .ptr 1 0), (4, .ptr 2 0), (5, .ref 3 0 (l.length + m.length) true), (20, .iv (.sl (l.map u32))), (21, .iv (.int .i64 (l.length : Int))), (22, .iv (.int .i64 (p.1.1 : Int)))]
      [(0, .var (mgI l)), (1, .var (mgI m)), (2, .var (.agg [.sl []])), (3, .arr 173 1 (p.1.2.map u32) false)] 20) (fun p => l.length - p.1.1)
    ⟨(0, List.replicate (l.length + m.length) 0), by simp, by simp, Dg.replicate (by decide) _, by simp [nv, nv_replicate]⟩
    (Wk.tab [(3, 10)] ⟨⟨rfl, rfl⟩, ⟨rfl, rfl⟩, ⟨rfl, rfl⟩, ⟨refEq (by omega), rfl⟩, ⟨rfl, rfl⟩, ⟨ivEq (by omega), rfl⟩, ⟨rfl, rfl⟩, trivial⟩ ⟨rfl, rfl, rfl, arrEq ?_, trivial⟩ rfl) ?_
  · rw [la, lb, List.map_replicate]; rfl
  rintro ⟨⟨i, o⟩, hi, ho, hd, hs⟩
  dsimp only at hi ho hd hs
  show W J _ _ (mkA [(2, .ptr 0 0), (3, .ptr 1 0), (4, .ptr 2 0), (5, .ref 3 0 (l.length + m.length) true), (20, .iv (.sl (l.map u32))), (21, .iv (.int .i64 (l.length : Int))), (22, .iv (.int .i64 (i : Int)))]
      [(0, .var (mgI l)), (1, .var (mgI m)), (2, .var (.agg [.sl []])), (3, .arr 173 1 (o.map u32) false)] 20) _
  have lo : (o.map u32).length = o.length := by simp
  by_cases h : i < l.length
  · have hx := getD_lt hol.dg i
    repeat (first | (refine W.RS (by kernel_rfl) ?_; conv => whnf) | (refine W.S ?_) | (refine W.block ?_) | (refine W.skip ?_; conv => whnf) | (refine W.condT rfl ?_) | (refine ⟨_, _, rfl, getu (by omega), rfl, ?_⟩; conv => whnf) | (refine ⟨true, decide_eq_true (by omega), ?_⟩; conv => whnf) | (refine ⟨_, rfl, ?_⟩; conv => whnf) | (refine ⟨rfl, ?_⟩; conv => whnf))
    refine W.loop (G := { p : Nat × Nat × List Nat // p.1 ≤ m.length ∧ p.2.1 < 1000000000 ∧ p.2.2.length = l.length + m.length ∧ Dg B9 p.2.2 ∧ nv B9 (p.2.2.take (i + m.length)) + B9 ^ (i + p.1) * p.2.1 = nv B9 (l.take i) * nv B9 m + B9 ^ i * (l.getD i 0 * nv B9 (m.take p.1)) })
      (fun p => mkA [(2, .ptr 0 0), (3, .ptr 1 0), (4, .ptr 2 0), (5, .ref 3 0 (l.length + m.length) true), (6, .iv (.int .i64 (i : Int))), (7, .iv (.int .u32 (l.getD i 0 : Int))), (8, .iv (.int .u64 (p.1.2.1 : Int))), (20, .iv (.sl (l.map u32))), (21, .iv (.int .i64 (l.length : Int))), (22, .iv (.int .i64 (i : Int))),
          (28, .iv (.sl (m.map u32))), (29, .iv (.int .i64 (m.length : Int))), (30, .iv (.int .i64 (p.1.1 : Int)))]
        [(0, .var (mgI l)), (1, .var (mgI m)), (2, .var (.agg [.sl []])), (3, .arr 173 1 (p.1.2.2.map u32) false)] 40) (fun p => m.length - p.1.1)
      ⟨(0, 0, o), by simp, by simp, ho, hd, by simp [nv, hs]⟩
      (Wk.tab [] ⟨⟨rfl, rfl⟩, ⟨rfl, rfl⟩, ⟨rfl, rfl⟩, ⟨rfl, rfl⟩, ⟨rfl, rfl⟩, ⟨rfl, rfl⟩, ⟨rfl, rfl⟩, ⟨rfl, rfl⟩, ⟨rfl, rfl⟩, ⟨rfl, rfl⟩, ⟨rfl, rfl⟩, ⟨ivEq (by omega), rfl⟩, ⟨rfl, rfl⟩, trivial⟩ ⟨rfl, rfl, rfl, rfl, trivial⟩ rfl) ?_
    clear lo
    rintro ⟨⟨k, c, o2⟩, hk, hc, ho2, hd2, hs2⟩
    dsimp only at hk hc ho2 hd2 hs2
    show W J _ _ (mkA [(2, .ptr 0 0), (3, .ptr 1 0), (4, .ptr 2 0), (5, .ref 3 0 (l.length + m.length) true), (6, .iv (.int .i64 (i : Int))), (7, .iv (.int .u32 (l.getD i 0 : Int))), (8, .iv (.int .u64 (c : Int))), (20, .iv (.sl (l.map u32))), (21, .iv (.int .i64 (l.length : Int))), (22, .iv (.int .i64 (i : Int))),
          (28, .iv (.sl (m.map u32))), (29, .iv (.int .i64 (m.length : Int))), (30, .iv (.int .i64 (k : Int)))]
        [(0, .var (mgI l)), (1, .var (mgI m)), (2, .var (.agg [.sl []])), (3, .arr 173 1 (o2.map u32) false)] 40) _
    have lo : (o2.map u32).length = o2.length := by simp
    by_cases h2 : k < m.length
    · have hy := getD_lt hom.dg k
      have hov := getD_lt hd2 (0 + (i + k))
      have hxy := mul_bound hx hy
      have hxyi : (l.getD i 0 : Int) * (m.getD k 0 : Int) = ((l.getD i 0 * m.getD k 0 : Nat) : Int) := rfl
      obtain ⟨q, hQ⟩ : ∃ q, (c + (l.getD i 0 * m.getD k 0 + o2.getD (0 + (i + k)) 0)) / 1000000000 = q := ⟨_, rfl⟩
      obtain ⟨r, hR⟩ : ∃ q, (c + (l.getD i 0 * m.getD k 0 + o2.getD (0 + (i + k)) 0)) % 1000000000 = q := ⟨_, rfl⟩
      have hq : IntKind.wrap .u64 (((c : Int) + ((l.getD i 0 : Int) * (m.getD k 0 : Int) + (o2.getD (0 + (i + k)) 0 : Int))).tdiv 1000000000) = ((q : Nat) : Int) := by
        rw [hxyi, show (c : Int) + (((l.getD i 0 * m.getD k 0 : Nat) : Int) + (o2.getD (0 + (i + k)) 0 : Int)) = ((c + (l.getD i 0 * m.getD k 0 + o2.getD (0 + (i + k)) 0) : Nat) : Int) by omega, tdivB, hQ]
        exact wu64 (by omega)
      have hm : ((c : Int) + ((l.getD i 0 : Int) * (m.getD k 0 : Int) + (o2.getD (0 + (i + k)) 0 : Int))).tmod 1000000000 = ((r : Nat) : Int) := by
        rw [hxyi, show (c : Int) + (((l.getD i 0 * m.getD k 0 : Nat) : Int) + (o2.getD (0 + (i + k)) 0 : Int)) = ((c + (l.getD i 0 * m.getD k 0 + o2.getD (0 + (i + k)) 0) : Nat) : Int) by omega, tmodB, hR]
      have hz : o2.getD (0 + (i + k)) 0 = o2.getD (i + k) 0 := by rw [Nat.zero_add]
      have hp := tiStep (n := i + m.length) (r := r) (c' := q) (show i + k < i + m.length by omega) (by omega) hs2 (by omega)
      repeat (first | (refine W.RS (by kernel_rfl) ?_; conv => whnf) | (refine W.R (by kernel_rfl) ?_; conv => whnf) | (refine W.S ?_) | (refine W.block ?_) | (refine W.skip ?_; conv => whnf) | (refine W.condT rfl ?_) | (refine ⟨by omega, _, hq, ?_⟩; conv => whnf) | (refine ⟨by omega, _, hm, ?_⟩; conv => whnf) | (refine ⟨rfl, _, w64 (by omega), ?_⟩; conv => whnf) | (refine ⟨rfl, _, wu64 (by omega), ?_⟩; conv => whnf) | (refine ⟨rfl, _, castB _ _, ?_⟩; conv => whnf) | (refine ⟨_, _, rfl, getu (by omega), rfl, ?_⟩; conv => whnf) | (refine ⟨_, getu (by omega), ?_⟩; conv => whnf) | (refine ⟨List.not_mem_nil, _, getu (by omega), ?_⟩; conv => whnf) | (refine ⟨_, w32 (by omega), ?_⟩; conv => whnf) | (refine ⟨_, wu64 (by omega), ?_⟩; conv => whnf) | (refine ⟨true, decide_eq_true (by omega), ?_⟩; conv => whnf) | (refine ⟨rfl, ?_⟩; conv => whnf) | (refine And.intro (by omega) ?_; conv => whnf))
      exact ⟨⟨(k + 1, q, o2.set (i + k) r), by dsimp only; omega, by dsimp only; omega, by dsimp only; rw [List.length_set]; exact ho2, hd2.set (by simp only [B9]; omega), hp⟩,
        Wk.tab [] ⟨⟨rfl, rfl⟩, ⟨rfl, rfl⟩, ⟨rfl, rfl⟩, ⟨rfl, rfl⟩, ⟨rfl, rfl⟩, ⟨rfl, rfl⟩, ⟨rfl, rfl⟩, ⟨rfl, rfl⟩, ⟨rfl, rfl⟩, ⟨rfl, rfl⟩, ⟨rfl, rfl⟩, ⟨rfl, rfl⟩, ⟨rfl, rfl⟩, trivial⟩ ⟨rfl, rfl, rfl, arrSet (by omega) (by omega), trivial⟩ rfl, by dsimp only; omega⟩
    · have hkm : k = m.length := by omega
      have hp : nv B9 ((o2.set (i + m.length) c).take (i + 1 + m.length)) = nv B9 (l.take (i + 1)) * nv B9 m := by
        rw [show i + 1 + m.length = (i + m.length) + 1 by omega, set_take_succ (by omega), nv_snoc]
        have e : (o2.take (i + m.length)).length = i + m.length := by rw [List.length_take]; omega
        rw [e]
        rw [hkm, List.take_of_length_le (Nat.le_refl m.length)] at hs2
        rw [hs2, nv_take_getD l i, Nat.add_mul, Nat.mul_assoc]
      repeat (first | (refine W.RS (by kernel_rfl) ?_; conv => whnf) | (refine W.R (by kernel_rfl) ?_; conv => whnf) | (refine W.S ?_) | (refine W.exit ?_; conv => whnf) | (refine W.condF rfl ?_) | (refine ⟨rfl, _, w64 (by omega), ?_⟩; conv => whnf) | (refine ⟨rfl, _, castB _ _, ?_⟩; conv => whnf) | (refine ⟨List.not_mem_nil, _, getu (by omega), ?_⟩; conv => whnf) | (refine ⟨_, w32 (by omega), ?_⟩; conv => whnf) | (refine ⟨false, decide_eq_false (by omega), ?_⟩; conv => whnf) | (refine ⟨_, rfl, ?_⟩; conv => whnf) | (refine ⟨rfl, ?_⟩; conv => whnf) | (refine And.intro (by omega) ?_; conv => whnf))
      exact ⟨⟨(i + 1, o2.set (i + m.length) c), by dsimp only; omega, by dsimp only; rw [List.length_set]; exact ho2, hd2.set (by simp only [B9]; omega), hp⟩,
        Wk.tab [] ⟨⟨rfl, rfl⟩, ⟨rfl, rfl⟩, ⟨rfl, rfl⟩, ⟨rfl, rfl⟩, ⟨rfl, rfl⟩, ⟨rfl, rfl⟩, ⟨rfl, rfl⟩, trivial⟩ ⟨rfl, rfl, rfl, arrSet (by omega) (by omega), trivial⟩ rfl, by dsimp only; omega⟩
  · have hil : i = l.length := by omega
    have hfin : nv B9 o = a * b := by
      rw [hil, List.take_of_length_le (by omega), List.take_of_length_le (Nat.le_refl _), hvl, hvm] at hs
      exact hs
    repeat (first | (refine W.RS (by kernel_rfl) ?_; conv => whnf) | (refine W.S ?_) | (refine W.ret ?_; conv => whnf) | (refine W.exit ?_; conv => whnf) | (refine W.condF rfl ?_) | (refine ⟨_, f188_at J (l := o) (by rw [List.drop_zero, List.take_of_length_le (by simp; omega)]) (by omega), ?_⟩; conv => whnf) | (refine ⟨false, decide_eq_false (by omega), ?_⟩; conv => whnf) | (refine ⟨rfl, ?_⟩; conv => whnf))
    exact congrArg mgI (dg_strip hd hfin)
end Go.Proofs.Fl
namespace Go.Proofs.Fl
open Go.RowKit Go.Proofs.Dig
attribute [local irreducible] IntKind.wrap PureC MutC MakC IterC
theorem nv_inj_len : ∀ {a b : List Nat}, Dg B9 a → Dg B9 b → a.length = b.length → nv B9 a = nv B9 b → a = b
  | [], [], _, _, _, _ => rfl
  | [], _ :: _, _, _, hl, _ => by simp at hl
  | _ :: _, [], _, _, hl, _ => by simp at hl
  | d :: a, e :: b, ha, hb, hl, h => by
    simp only [nv_cons] at h
    have h1 := ha d (by simp)
    have h2 := hb e (by simp)
    have h3 : d = e := by
      have := congrArg (· % B9) h
      simpa [Nat.add_mul_mod_self_left, Nat.mod_eq_of_lt h1, Nat.mod_eq_of_lt h2] using this
    subst h3
    have h4 : nv B9 a = nv B9 b := by
      have : B9 * nv B9 a = B9 * nv B9 b := by omega
      exact Nat.eq_of_mul_eq_mul_left (by decide) this
    rw [nv_inj_len (fun x hx => ha x (by simp [hx])) (fun x hx => hb x (by simp [hx])) (by simpa using hl) h4]
theorem pad_ex (n x : Nat) : ∃ l : List Nat, l.length = n ∧ Dg B9 l ∧ nv B9 l = x % B9 ^ n := by
  induction n generalizing x with
  | zero => exact ⟨[], rfl, Dg.nil _, by simp [nv, Nat.mod_one]⟩
  | succ n ih =>
    obtain ⟨l, h1, h2, h3⟩ := ih (x / B9)
    refine ⟨x % B9 :: l, by simp [h1], ?_, ?_⟩
    · intro d hd
      rcases List.mem_cons.1 hd with rfl | hd
      · exact Nat.mod_lt _ (by decide)
      · exact h2 d hd
    · rw [nv_cons, h3, Nat.pow_succ, Nat.mul_comm (B9 ^ n) B9, Nat.mod_mul]
noncomputable def pad (n x : Nat) : List Nat := (pad_ex n x).choose
theorem pad_len (n x : Nat) : (pad n x).length = n := (pad_ex n x).choose_spec.1
theorem pad_dg (n x : Nat) : Dg B9 (pad n x) := (pad_ex n x).choose_spec.2.1
theorem pad_nv (n x : Nat) : nv B9 (pad n x) = x % B9 ^ n := (pad_ex n x).choose_spec.2.2
theorem pad_of {l : List Nat} {n x : Nat} (h : Dg B9 l) (hl : l.length = n) (hv : nv B9 l = x % B9 ^ n) : l = pad n x :=
  nv_inj_len h (pad_dg n x) (by rw [hl, pad_len]) (by rw [hv, pad_nv])
theorem mid_get {pre o post : List Nat} {i : Nat} (h : i < o.length) : (pre ++ o ++ post).getD (pre.length + i) 0 = o.getD i 0 := by
  rw [List.getD_eq_getElem?_getD, List.getD_eq_getElem?_getD, List.append_assoc, List.getElem?_append_right (by omega), Nat.add_sub_cancel_left, List.getElem?_append_left h]
theorem mid_set {pre o post : List Nat} {i d : Nat} (h : i < o.length) : (pre ++ o ++ post).set (pre.length + i) d = pre ++ o.set i d ++ post := by
  simp [h]
theorem arrMid {pre o post : List Nat} {i d : Nat} {x : Int} (h : i < o.length) (hx : x = (d : Int)) : some (Bx.arr 173 1 (((pre ++ o ++ post).map u32).set (pre.length + i) (.int .u32 x)) false) = some (Bx.arr 173 1 ((pre ++ o.set i d ++ post).map u32) false) := by
  rw [set_u32 hx, mid_set h]
theorem f212_ok (J : Keep) {pre mid post v : List Nat} (hm : Dg B9 mid) (hv : Dg B9 v) (hl : v.length ≤ mid.length) (hs0 : (pre ++ mid ++ post).length < 2 ^ 50) :
    MutC Tryz.prog J.I 212 173 1 pre.length mid.length ((pre ++ mid ++ post).map u32) [.sl (v.map u32)] ((pre ++ pad mid.length (nv B9 mid + nv B9 v) ++ post).map u32) (.bool (decide (B9 ^ mid.length ≤ nv B9 mid + nv B9 v))) := by
  have lb : (v.map u32).length = v.length := by simp
  have hs1 : mid.length < 2 ^ 50 := by simp at hs0; omega
  refine fm_ok Tryz.func212 rfl rfl rfl ?_
  repeat (first | (refine W.RS (by kernel_rfl) ?_; conv => whnf) | (refine W.S ?_) | (refine W.block ?_) | (refine ⟨_, rfl, ?_⟩; conv => whnf))
  refine W.loop (G := { p : Nat × Nat × List Nat // p.1 ≤ mid.length ∧ p.2.1 ≤ 1 ∧ p.2.2.length = mid.length ∧ Dg B9 p.2.2 ∧ nv B9 (p.2.2.take p.1) + B9 ^ p.1 * p.2.1 = nv B9 (mid.take p.1) + nv B9 (v.take p.1) ∧ p.2.2.drop p.1 = mid.drop p.1 })
    (fun p => mkA [(0, .ref pinId pre.length mid.length false), (1, .iv (.sl (v.map u32))), (5, .iv (.int .u32 (p.1.2.1 : Int))), (9, .iv (.int .i64 (mid.length : Int))), (10, .iv (.int .i64 (p.1.1 : Int)))]
      [(pinId, .arr 173 1 ((pre ++ p.1.2.2 ++ post).map u32) false)] 10) (fun p => mid.length - p.1.1)
    ⟨(0, 0, mid), by simp, by simp, rfl, hm, by simp [nv], rfl⟩
    (Wk.tab [] ⟨⟨rfl, rfl⟩, ⟨rfl, rfl⟩, ⟨rfl, rfl⟩, ⟨rfl, rfl⟩, ⟨rfl, rfl⟩, trivial⟩ ⟨rfl, trivial⟩ rfl) ?_
  rintro ⟨⟨i, c, o⟩, hi, hc, ho, hd, hs, hdr⟩
  dsimp only at hi hc ho hd hs hdr
  show W J _ _ (mkA [(0, .ref pinId pre.length mid.length false), (1, .iv (.sl (v.map u32))), (5, .iv (.int .u32 (c : Int))), (9, .iv (.int .i64 (mid.length : Int))), (10, .iv (.int .i64 (i : Int)))]
      [(pinId, .arr 173 1 ((pre ++ o ++ post).map u32) false)] 10) _
  have lo : ((pre ++ o ++ post).map u32).length = pre.length + o.length + post.length := by simp; omega
  have lo2 : (pre ++ o ++ post).length = pre.length + o.length + post.length := by simp; omega
  by_cases h : i < mid.length
  · have hx := getD_lt hm i
    have hox : (pre ++ o ++ post).getD (pre.length + i) 0 = mid.getD i 0 := by rw [mid_get (by omega)]; exact drop_getD hdr
    by_cases h2 : i < v.length
    · have hy := getD_lt hv i
      by_cases h3 : 1000000000 ≤ mid.getD i 0 + c + v.getD i 0
      · have hp := plStep (d := mid.getD i 0 + c + v.getD i 0 - 1000000000) (c' := 1) (show i < o.length by omega) hs (by omega)
        have hq := drop_set (d := mid.getD i 0 + c + v.getD i 0 - 1000000000) hdr
        repeat (first | (refine W.RS (by kernel_rfl) ?_; conv => whnf) | (refine W.R (by kernel_rfl) ?_; conv => whnf) | (refine W.S ?_) | (refine W.block ?_) | (refine W.skip ?_; conv => whnf) | (refine W.condT rfl ?_) | (refine ⟨rfl, _, w64 (by omega), ?_⟩; conv => whnf) | (refine ⟨rfl, _, w32 (by omega), ?_⟩; conv => whnf) | (refine ⟨_, _, rfl, getu (by omega), rfl, ?_⟩; conv => whnf) | (refine ⟨(rfl : (_ : Nat) = _), _, rfl, by omega, ?_⟩; conv => whnf) | (refine ⟨_, getu (by omega), ?_⟩; conv => whnf) | (refine ⟨List.not_mem_nil, _, getu (by omega), ?_⟩; conv => whnf) | (refine ⟨true, decide_eq_true (by omega), ?_⟩; conv => whnf) | (refine ⟨_, rfl, ?_⟩; conv => whnf) | (refine ⟨rfl, ?_⟩; conv => whnf))
        exact ⟨⟨(i + 1, 1, o.set i (mid.getD i 0 + c + v.getD i 0 - 1000000000)), by dsimp only; omega, by dsimp only; omega, by dsimp only; rw [List.length_set]; exact ho, hd.set (by simp only [B9]; omega), hp, hq⟩,
          Wk.tab [] ⟨⟨rfl, rfl⟩, ⟨rfl, rfl⟩, ⟨rfl, rfl⟩, ⟨rfl, rfl⟩, ⟨rfl, rfl⟩, trivial⟩ ⟨arrMid (by omega) (by omega), trivial⟩ rfl, by dsimp only; omega⟩
      · have hp := plStep (d := mid.getD i 0 + c + v.getD i 0) (c' := 0) (show i < o.length by omega) hs (by omega)
        have hq := drop_set (d := mid.getD i 0 + c + v.getD i 0) hdr
        repeat (first | (refine W.RS (by kernel_rfl) ?_; conv => whnf) | (refine W.R (by kernel_rfl) ?_; conv => whnf) | (refine W.S ?_) | (refine W.block ?_) | (refine W.skip ?_; conv => whnf) | (refine W.condF rfl ?_) | (refine W.condT rfl ?_) | (refine ⟨rfl, _, w64 (by omega), ?_⟩; conv => whnf) | (refine ⟨rfl, _, w32 (by omega), ?_⟩; conv => whnf) | (refine ⟨_, _, rfl, getu (by omega), rfl, ?_⟩; conv => whnf) | (refine ⟨(rfl : (_ : Nat) = _), _, rfl, by omega, ?_⟩; conv => whnf) | (refine ⟨_, getu (by omega), ?_⟩; conv => whnf) | (refine ⟨List.not_mem_nil, _, getu (by omega), ?_⟩; conv => whnf) | (refine ⟨true, decide_eq_true (by omega), ?_⟩; conv => whnf) | (refine ⟨false, decide_eq_false (by omega), ?_⟩; conv => whnf) | (refine ⟨_, rfl, ?_⟩; conv => whnf) | (refine ⟨rfl, ?_⟩; conv => whnf))
        exact ⟨⟨(i + 1, 0, o.set i (mid.getD i 0 + c + v.getD i 0)), by dsimp only; omega, by dsimp only; omega, by dsimp only; rw [List.length_set]; exact ho, hd.set (by simp only [B9]; omega), hp, hq⟩,
          Wk.tab [] ⟨⟨rfl, rfl⟩, ⟨rfl, rfl⟩, ⟨rfl, rfl⟩, ⟨rfl, rfl⟩, ⟨rfl, rfl⟩, trivial⟩ ⟨arrMid (by omega) (by omega), trivial⟩ rfl, by dsimp only; omega⟩
    · have hy : v.getD i 0 = 0 := by simp [Nat.not_lt.1 h2]
      by_cases h3 : 1000000000 ≤ mid.getD i 0 + c
      · have hp := plStep (d := mid.getD i 0 + c - 1000000000) (c' := 1) (show i < o.length by omega) hs (by omega)
        have hq := drop_set (d := mid.getD i 0 + c - 1000000000) hdr
        repeat (first | (refine W.RS (by kernel_rfl) ?_; conv => whnf) | (refine W.R (by kernel_rfl) ?_; conv => whnf) | (refine W.S ?_) | (refine W.block ?_) | (refine W.skip ?_; conv => whnf) | (refine W.condF rfl ?_) | (refine W.condT rfl ?_) | (refine ⟨rfl, _, w64 (by omega), ?_⟩; conv => whnf) | (refine ⟨rfl, _, w32 (by omega), ?_⟩; conv => whnf) | (refine ⟨(rfl : (_ : Nat) = _), _, rfl, by omega, ?_⟩; conv => whnf) | (refine ⟨_, getu (by omega), ?_⟩; conv => whnf) | (refine ⟨List.not_mem_nil, _, getu (by omega), ?_⟩; conv => whnf) | (refine ⟨true, decide_eq_true (by omega), ?_⟩; conv => whnf) | (refine ⟨false, decide_eq_false (by omega), ?_⟩; conv => whnf) | (refine ⟨_, rfl, ?_⟩; conv => whnf) | (refine ⟨rfl, ?_⟩; conv => whnf))
        exact ⟨⟨(i + 1, 1, o.set i (mid.getD i 0 + c - 1000000000)), by dsimp only; omega, by dsimp only; omega, by dsimp only; rw [List.length_set]; exact ho, hd.set (by simp only [B9]; omega), hp, hq⟩,
          Wk.tab [] ⟨⟨rfl, rfl⟩, ⟨rfl, rfl⟩, ⟨rfl, rfl⟩, ⟨rfl, rfl⟩, ⟨rfl, rfl⟩, trivial⟩ ⟨arrMid (by omega) (by omega), trivial⟩ rfl, by dsimp only; omega⟩
      · have hp := plStep (d := mid.getD i 0 + c) (c' := 0) (show i < o.length by omega) hs (by omega)
        have hq := drop_set (d := mid.getD i 0 + c) hdr
        repeat (first | (refine W.RS (by kernel_rfl) ?_; conv => whnf) | (refine W.R (by kernel_rfl) ?_; conv => whnf) | (refine W.S ?_) | (refine W.block ?_) | (refine W.skip ?_; conv => whnf) | (refine W.condF rfl ?_) | (refine W.condT rfl ?_) | (refine ⟨rfl, _, w64 (by omega), ?_⟩; conv => whnf) | (refine ⟨rfl, _, w32 (by omega), ?_⟩; conv => whnf) | (refine ⟨(rfl : (_ : Nat) = _), _, rfl, by omega, ?_⟩; conv => whnf) | (refine ⟨_, getu (by omega), ?_⟩; conv => whnf) | (refine ⟨List.not_mem_nil, _, getu (by omega), ?_⟩; conv => whnf) | (refine ⟨true, decide_eq_true (by omega), ?_⟩; conv => whnf) | (refine ⟨false, decide_eq_false (by omega), ?_⟩; conv => whnf) | (refine ⟨_, rfl, ?_⟩; conv => whnf) | (refine ⟨rfl, ?_⟩; conv => whnf))
        exact ⟨⟨(i + 1, 0, o.set i (mid.getD i 0 + c)), by dsimp only; omega, by dsimp only; omega, by dsimp only; rw [List.length_set]; exact ho, hd.set (by simp only [B9]; omega), hp, hq⟩,
          Wk.tab [] ⟨⟨rfl, rfl⟩, ⟨rfl, rfl⟩, ⟨rfl, rfl⟩, ⟨rfl, rfl⟩, ⟨rfl, rfl⟩, trivial⟩ ⟨arrMid (by omega) (by omega), trivial⟩ rfl, by dsimp only; omega⟩
  · have hil : i = mid.length := by omega
    have hlt := nv_lt hd
    rw [ho] at hlt
    rw [hil, List.take_of_length_le (by omega), List.take_of_length_le (Nat.le_refl _), List.take_of_length_le (by omega)] at hs
    have hpad : o = pad mid.length (nv B9 mid + nv B9 v) := pad_of hd ho (by rw [← hs, Nat.add_mul_mod_self_left, Nat.mod_eq_of_lt hlt])
    by_cases hc0 : c = 0
    · subst hc0
      repeat (first | (refine W.RS (by kernel_rfl) ?_; conv => whnf) | (refine W.S ?_) | (refine W.ret ?_; conv => whnf) | (refine W.exit ?_; conv => whnf) | (refine W.condF rfl ?_) | (refine ⟨false, decide_eq_false (by omega), ?_⟩; conv => whnf) | (refine ⟨false, bne_eq_false_iff_eq.2 (by omega), ?_⟩; conv => whnf) | (refine ⟨rfl, ?_⟩; conv => whnf))
      refine ⟨?_, ?_, rfl⟩
      · refine congrArg IV.bool (decide_eq_false ?_).symm
        omega
      · rw [← hpad]; rfl
    · have hc1 : c = 1 := by omega
      subst hc1
      repeat (first | (refine W.RS (by kernel_rfl) ?_; conv => whnf) | (refine W.S ?_) | (refine W.ret ?_; conv => whnf) | (refine W.exit ?_; conv => whnf) | (refine W.condF rfl ?_) | (refine ⟨false, decide_eq_false (by omega), ?_⟩; conv => whnf) | (refine ⟨true, bne_iff_ne.2 (by omega), ?_⟩; conv => whnf) | (refine ⟨rfl, ?_⟩; conv => whnf))
      refine ⟨?_, ?_, rfl⟩
      · refine congrArg IV.bool (decide_eq_true ?_).symm
        omega
      · rw [← hpad]; rfl
end Go.Proofs.Fl
namespace Go.Proofs.Fl
open Go.RowKit Go.Proofs.Dig
attribute [local irreducible] IntKind.wrap PureC MutC MakC IterC
theorem suStep {mid v o : List Nat} {i c w x q r w' t : Nat} (hi : i < o.length) (hs : nv B9 (o.take i) + t * nv B9 (v.take i) = nv B9 (mid.take i) + B9 ^ i * (c + w)) (hC : c + t * v.getD i 0 = r + 1000000000 * q) (hx : x + r + w = mid.getD i 0 + 1000000000 * w') :
    nv B9 ((o.set i x).take (i + 1)) + t * nv B9 (v.take (i + 1)) = nv B9 (mid.take (i + 1)) + B9 ^ (i + 1) * (q + w') := by
  rw [set_take_succ hi, nv_take_getD v, nv_take_getD mid, Nat.mul_add, Nat.mul_left_comm t]
  have := borrow_step (B := B9) (A := o.take i) (x := x) (s := t * v.getD i 0) (y := mid.getD i 0) (c' := q + w') (by simp; omega) hs (by simp only [B9]; omega)
  omega
theorem suCarry {v : List Nat} {i c q r t : Nat} (hs : B9 ^ i * c ≤ t * nv B9 (v.take i)) (hC : c + t * v.getD i 0 = r + 1000000000 * q) : B9 ^ (i + 1) * q ≤ t * nv B9 (v.take (i + 1)) := by
  rw [nv_take_getD v, Nat.mul_add, Nat.mul_left_comm t, Nat.pow_succ, Nat.mul_assoc]
  have e : B9 ^ i * (c + t * v.getD i 0) = B9 ^ i * (r + B9 * q) := by rw [hC]
  rw [Nat.mul_add, Nat.mul_add] at e
  omega
theorem f211_ok (J : Keep) {pre mid post v : List Nat} {t : Nat} (ht : t < 1000000000) (hm : Dg B9 mid) (hv : Dg B9 v) (hl : v.length + 1 ≤ mid.length) (hs0 : (pre ++ mid ++ post).length < 2 ^ 50) :
    MutC Tryz.prog J.I 211 173 1 pre.length mid.length ((pre ++ mid ++ post).map u32) [.sl (v.map u32), .int .u64 t] ((pre ++ pad mid.length (nv B9 mid + B9 ^ mid.length - t * nv B9 v) ++ post).map u32) (.bool (decide (nv B9 mid < t * nv B9 v))) := by
  have lb : (v.map u32).length = v.length := by simp
  have hs1 : mid.length < 2 ^ 50 := by simp at hs0; omega
  refine fm_ok Tryz.func211 rfl rfl rfl ?_
  repeat (first | (refine W.RS (by kernel_rfl) ?_; conv => whnf) | (refine W.S ?_) | (refine W.block ?_) | (refine ⟨_, rfl, ?_⟩; conv => whnf))
  refine W.loop (G := { p : Nat × Nat × Nat × List Nat // p.1 ≤ mid.length ∧ p.2.1 < 1000000000 ∧ p.2.2.1 ≤ 1 ∧ p.2.2.2.length = mid.length ∧ Dg B9 p.2.2.2 ∧ nv B9 (p.2.2.2.take p.1) + t * nv B9 (v.take p.1) = nv B9 (mid.take p.1) + B9 ^ p.1 * (p.2.1 + p.2.2.1) ∧ B9 ^ p.1 * p.2.1 ≤ t * nv B9 (v.take p.1) ∧ p.2.2.2.drop p.1 = mid.drop p.1 })
    (fun p => mkA [(0, .ref pinId pre.length mid.length false), (1, .iv (.sl (v.map u32))), (2, .iv (.int .u64 (t : Int))), (7, .iv (.int .u64 (p.1.2.1 : Int))), (8, .iv (.int .i64 (p.1.2.2.1 : Int))), (12, .iv (.int .i64 (mid.length : Int))), (13, .iv (.int .i64 (p.1.1 : Int)))]
      [(pinId, .arr 173 1 ((pre ++ p.1.2.2.2 ++ post).map u32) false)] 10) (fun p => mid.length - p.1.1)
    ⟨(0, 0, 0, mid), by simp, by simp, by simp, rfl, hm, by simp [nv], by simp, rfl⟩
    (Wk.tab [] ⟨⟨rfl, rfl⟩, ⟨rfl, rfl⟩, ⟨rfl, rfl⟩, ⟨rfl, rfl⟩, ⟨rfl, rfl⟩, ⟨rfl, rfl⟩, ⟨rfl, rfl⟩, trivial⟩ ⟨rfl, trivial⟩ rfl) ?_
  rintro ⟨⟨i, c, w, o⟩, hi, hc, hw, ho, hd, hs, hcs, hdr⟩
  dsimp only at hi hc hw ho hd hs hcs hdr
  show W J _ _ (mkA [(0, .ref pinId pre.length mid.length false), (1, .iv (.sl (v.map u32))), (2, .iv (.int .u64 (t : Int))), (7, .iv (.int .u64 (c : Int))), (8, .iv (.int .i64 (w : Int))), (12, .iv (.int .i64 (mid.length : Int))), (13, .iv (.int .i64 (i : Int)))]
      [(pinId, .arr 173 1 ((pre ++ o ++ post).map u32) false)] 10) _
  have lo : ((pre ++ o ++ post).map u32).length = pre.length + o.length + post.length := by simp; omega
  have lo2 : (pre ++ o ++ post).length = pre.length + o.length + post.length := by simp; omega
  by_cases h : i < mid.length
  · have hx := getD_lt hm i
    have hox : (pre ++ o ++ post).getD (pre.length + i) 0 = mid.getD i 0 := by rw [mid_get (by omega)]; exact drop_getD hdr
    have hy := getD_lt hv i
    have hxy := mul_bound ht hy
    have hxyi : (t : Int) * (v.getD i 0 : Int) = ((t * v.getD i 0 : Nat) : Int) := rfl
    obtain ⟨q, hQ⟩ : ∃ q, (c + t * v.getD i 0) / 1000000000 = q := ⟨_, rfl⟩
    obtain ⟨r, hR⟩ : ∃ q, (c + t * v.getD i 0) % 1000000000 = q := ⟨_, rfl⟩
    have hCC : c + t * v.getD i 0 = r + 1000000000 * q := by omega
    by_cases h2 : i < v.length
    · have hq : IntKind.wrap .u64 (((c : Int) + (t : Int) * (v.getD i 0 : Int)).tdiv 1000000000) = ((q : Nat) : Int) := by
        rw [hxyi, show (c : Int) + ((t * v.getD i 0 : Nat) : Int) = ((c + t * v.getD i 0 : Nat) : Int) by omega, tdivB, hQ]
        exact wu64 (by omega)
      have hm' : ((c : Int) + (t : Int) * (v.getD i 0 : Int)).tmod 1000000000 = ((r : Nat) : Int) := by
        rw [hxyi, show (c : Int) + ((t * v.getD i 0 : Nat) : Int) = ((c + t * v.getD i 0 : Nat) : Int) by omega, tmodB, hR]
      by_cases h3 : mid.getD i 0 < r + w
      · have hp := suStep (x := mid.getD i 0 + 1000000000 - r - w) (w' := 1) (show i < o.length by omega) hs hCC (by omega)
        have hcq := suCarry hcs hCC
        have hdq := drop_set (d := mid.getD i 0 + 1000000000 - r - w) hdr
        repeat (first | (refine W.RS (by kernel_rfl) ?_; conv => whnf) | (refine W.R (by kernel_rfl) ?_; conv => whnf) | (refine W.S ?_) | (refine W.block ?_) | (refine W.skip ?_; conv => whnf) | (refine W.condT rfl ?_) | (refine ⟨by omega, _, hq, ?_⟩; conv => whnf) | (refine ⟨by omega, _, hm', ?_⟩; conv => whnf) | (refine ⟨rfl, _, w64 (by omega), ?_⟩; conv => whnf) | (refine ⟨rfl, _, wu64 (by omega), ?_⟩; conv => whnf) | (refine ⟨_, _, rfl, getu (by omega), rfl, ?_⟩; conv => whnf) | (refine ⟨(rfl : (_ : Nat) = _), _, rfl, by omega, ?_⟩; conv => whnf) | (refine ⟨_, getu (by omega), ?_⟩; conv => whnf) | (refine ⟨List.not_mem_nil, _, getu (by omega), ?_⟩; conv => whnf) | (refine ⟨_, w64 (by omega), ?_⟩; conv => whnf) | (refine ⟨_, w32 (by omega), ?_⟩; conv => whnf) | (refine ⟨_, wu64 (by omega), ?_⟩; conv => whnf) | (refine ⟨true, decide_eq_true (by omega), ?_⟩; conv => whnf) | (refine ⟨_, rfl, ?_⟩; conv => whnf) | (refine ⟨rfl, ?_⟩; conv => whnf))
        exact ⟨⟨(i + 1, q, 1, o.set i (mid.getD i 0 + 1000000000 - r - w)), by dsimp only; omega, by dsimp only; omega, by dsimp only; omega, by dsimp only; rw [List.length_set]; exact ho, hd.set (by simp only [B9]; omega), hp, hcq, hdq⟩,
          Wk.tab [] ⟨⟨rfl, rfl⟩, ⟨rfl, rfl⟩, ⟨rfl, rfl⟩, ⟨rfl, rfl⟩, ⟨rfl, rfl⟩, ⟨rfl, rfl⟩, ⟨rfl, rfl⟩, trivial⟩ ⟨arrMid (by omega) (by omega), trivial⟩ rfl, by dsimp only; omega⟩
      · have hp := suStep (x := mid.getD i 0 - r - w) (w' := 0) (show i < o.length by omega) hs hCC (by omega)
        have hcq := suCarry hcs hCC
        have hdq := drop_set (d := mid.getD i 0 - r - w) hdr
        repeat (first | (refine W.RS (by kernel_rfl) ?_; conv => whnf) | (refine W.R (by kernel_rfl) ?_; conv => whnf) | (refine W.S ?_) | (refine W.block ?_) | (refine W.skip ?_; conv => whnf) | (refine W.condF rfl ?_) | (refine W.condT rfl ?_) | (refine ⟨by omega, _, hq, ?_⟩; conv => whnf) | (refine ⟨by omega, _, hm', ?_⟩; conv => whnf) | (refine ⟨rfl, _, w64 (by omega), ?_⟩; conv => whnf) | (refine ⟨rfl, _, wu64 (by omega), ?_⟩; conv => whnf) | (refine ⟨_, _, rfl, getu (by omega), rfl, ?_⟩; conv => whnf) | (refine ⟨(rfl : (_ : Nat) = _), _, rfl, by omega, ?_⟩; conv => whnf) | (refine ⟨_, getu (by omega), ?_⟩; conv => whnf) | (refine ⟨List.not_mem_nil, _, getu (by omega), ?_⟩; conv => whnf) | (refine ⟨_, w64 (by omega), ?_⟩; conv => whnf) | (refine ⟨_, w32 (by omega), ?_⟩; conv => whnf) | (refine ⟨_, wu64 (by omega), ?_⟩; conv => whnf) | (refine ⟨true, decide_eq_true (by omega), ?_⟩; conv => whnf) | (refine ⟨false, decide_eq_false (by omega), ?_⟩; conv => whnf) | (refine ⟨_, rfl, ?_⟩; conv => whnf) | (refine ⟨rfl, ?_⟩; conv => whnf))
        exact ⟨⟨(i + 1, q, 0, o.set i (mid.getD i 0 - r - w)), by dsimp only; omega, by dsimp only; omega, by dsimp only; omega, by dsimp only; rw [List.length_set]; exact ho, hd.set (by simp only [B9]; omega), hp, hcq, hdq⟩,
          Wk.tab [] ⟨⟨rfl, rfl⟩, ⟨rfl, rfl⟩, ⟨rfl, rfl⟩, ⟨rfl, rfl⟩, ⟨rfl, rfl⟩, ⟨rfl, rfl⟩, ⟨rfl, rfl⟩, trivial⟩ ⟨arrMid (by omega) (by omega), trivial⟩ rfl, by dsimp only; omega⟩
    · have hy0 : v.getD i 0 = 0 := by simp [Nat.not_lt.1 h2]
      rw [hy0, Nat.mul_zero, Nat.add_zero] at hQ hR
      have hq : IntKind.wrap .u64 ((c : Int).tdiv 1000000000) = ((q : Nat) : Int) := by
        rw [tdivB, hQ]
        exact wu64 (by omega)
      have hm' : (c : Int).tmod 1000000000 = ((r : Nat) : Int) := by
        rw [tmodB, hR]
      by_cases h3 : mid.getD i 0 < r + w
      · have hp := suStep (x := mid.getD i 0 + 1000000000 - r - w) (w' := 1) (show i < o.length by omega) hs hCC (by omega)
        have hcq := suCarry hcs hCC
        have hdq := drop_set (d := mid.getD i 0 + 1000000000 - r - w) hdr
        repeat (first | (refine W.RS (by kernel_rfl) ?_; conv => whnf) | (refine W.R (by kernel_rfl) ?_; conv => whnf) | (refine W.S ?_) | (refine W.block ?_) | (refine W.skip ?_; conv => whnf) | (refine W.condF rfl ?_) | (refine W.condT rfl ?_) | (refine ⟨by omega, _, hq, ?_⟩; conv => whnf) | (refine ⟨by omega, _, hm', ?_⟩; conv => whnf) | (refine ⟨rfl, _, w64 (by omega), ?_⟩; conv => whnf) | (refine ⟨(rfl : (_ : Nat) = _), _, rfl, by omega, ?_⟩; conv => whnf) | (refine ⟨_, getu (by omega), ?_⟩; conv => whnf) | (refine ⟨List.not_mem_nil, _, getu (by omega), ?_⟩; conv => whnf) | (refine ⟨_, w64 (by omega), ?_⟩; conv => whnf) | (refine ⟨_, w32 (by omega), ?_⟩; conv => whnf) | (refine ⟨true, decide_eq_true (by omega), ?_⟩; conv => whnf) | (refine ⟨false, decide_eq_false (by omega), ?_⟩; conv => whnf) | (refine ⟨_, rfl, ?_⟩; conv => whnf) | (refine ⟨rfl, ?_⟩; conv => whnf))
        exact ⟨⟨(i + 1, q, 1, o.set i (mid.getD i 0 + 1000000000 - r - w)), by dsimp only; omega, by dsimp only; omega, by dsimp only; omega, by dsimp only; rw [List.length_set]; exact ho, hd.set (by simp only [B9]; omega), hp, hcq, hdq⟩,
          Wk.tab [] ⟨⟨rfl, rfl⟩, ⟨rfl, rfl⟩, ⟨rfl, rfl⟩, ⟨rfl, rfl⟩, ⟨rfl, rfl⟩, ⟨rfl, rfl⟩, ⟨rfl, rfl⟩, trivial⟩ ⟨arrMid (by omega) (by omega), trivial⟩ rfl, by dsimp only; omega⟩
      · have hp := suStep (x := mid.getD i 0 - r - w) (w' := 0) (show i < o.length by omega) hs hCC (by omega)
        have hcq := suCarry hcs hCC
        have hdq := drop_set (d := mid.getD i 0 - r - w) hdr
        repeat (first | (refine W.RS (by kernel_rfl) ?_; conv => whnf) | (refine W.R (by kernel_rfl) ?_; conv => whnf) | (refine W.S ?_) | (refine W.block ?_) | (refine W.skip ?_; conv => whnf) | (refine W.condF rfl ?_) | (refine W.condT rfl ?_) | (refine ⟨by omega, _, hq, ?_⟩; conv => whnf) | (refine ⟨by omega, _, hm', ?_⟩; conv => whnf) | (refine ⟨rfl, _, w64 (by omega), ?_⟩; conv => whnf) | (refine ⟨(rfl : (_ : Nat) = _), _, rfl, by omega, ?_⟩; conv => whnf) | (refine ⟨_, getu (by omega), ?_⟩; conv => whnf) | (refine ⟨List.not_mem_nil, _, getu (by omega), ?_⟩; conv => whnf) | (refine ⟨_, w64 (by omega), ?_⟩; conv => whnf) | (refine ⟨_, w32 (by omega), ?_⟩; conv => whnf) | (refine ⟨true, decide_eq_true (by omega), ?_⟩; conv => whnf) | (refine ⟨false, decide_eq_false (by omega), ?_⟩; conv => whnf) | (refine ⟨_, rfl, ?_⟩; conv => whnf) | (refine ⟨rfl, ?_⟩; conv => whnf))
        exact ⟨⟨(i + 1, q, 0, o.set i (mid.getD i 0 - r - w)), by dsimp only; omega, by dsimp only; omega, by dsimp only; omega, by dsimp only; rw [List.length_set]; exact ho, hd.set (by simp only [B9]; omega), hp, hcq, hdq⟩,
          Wk.tab [] ⟨⟨rfl, rfl⟩, ⟨rfl, rfl⟩, ⟨rfl, rfl⟩, ⟨rfl, rfl⟩, ⟨rfl, rfl⟩, ⟨rfl, rfl⟩, ⟨rfl, rfl⟩, trivial⟩ ⟨arrMid (by omega) (by omega), trivial⟩ rfl, by dsimp only; omega⟩
  · have hil : i = mid.length := by omega
    have hlt := nv_lt hd
    rw [ho] at hlt
    rw [hil, List.take_of_length_le (by omega), List.take_of_length_le (Nat.le_refl _), List.take_of_length_le (by omega)] at hs
    rw [hil, List.take_of_length_le (by omega)] at hcs
    have hvlt := nv_lt hv
    have htv : t * nv B9 v < B9 ^ mid.length := by
      have e1 : t * nv B9 v ≤ B9 * nv B9 v := Nat.mul_le_mul_right _ (Nat.le_of_lt ht)
      have e2 : B9 * nv B9 v < B9 * B9 ^ v.length := Nat.mul_lt_mul_of_pos_left hvlt (by decide)
      have e3 : B9 * B9 ^ v.length ≤ B9 ^ mid.length := by rw [Nat.mul_comm, ← Nat.pow_succ]; exact Nat.pow_le_pow_right (by decide) hl
      omega
    have hc0 : c = 0 := by
      apply Classical.byContradiction
      intro hne
      have : B9 ^ mid.length * 1 ≤ B9 ^ mid.length * c := Nat.mul_le_mul_left _ (by omega)
      omega
    rw [hc0, Nat.zero_add] at hs
    by_cases hw0 : w = 0
    · rw [hw0, Nat.mul_zero] at hs
      have hpad : o = pad mid.length (nv B9 mid + B9 ^ mid.length - t * nv B9 v) := pad_of hd ho (by
        rw [show nv B9 mid + B9 ^ mid.length - t * nv B9 v = nv B9 o + B9 ^ mid.length by omega, Nat.add_mod_right, Nat.mod_eq_of_lt hlt])
      subst hw0
      repeat (first | (refine W.RS (by kernel_rfl) ?_; conv => whnf) | (refine W.S ?_) | (refine W.ret ?_; conv => whnf) | (refine W.exit ?_; conv => whnf) | (refine W.condF rfl ?_) | (refine ⟨false, decide_eq_false (by omega), ?_⟩; conv => whnf) | (refine ⟨false, bne_eq_false_iff_eq.2 (by omega), ?_⟩; conv => whnf) | (refine ⟨rfl, ?_⟩; conv => whnf))
      refine ⟨?_, ?_, rfl⟩
      · refine congrArg IV.bool (decide_eq_false ?_).symm
        omega
      · rw [← hpad]; rfl
    · have hw1 : w = 1 := by omega
      rw [hw1, Nat.mul_one] at hs
      have hpad : o = pad mid.length (nv B9 mid + B9 ^ mid.length - t * nv B9 v) := pad_of hd ho (by
        rw [← hs, Nat.add_sub_cancel, Nat.mod_eq_of_lt hlt])
      subst hw1
      repeat (first | (refine W.RS (by kernel_rfl) ?_; conv => whnf) | (refine W.S ?_) | (refine W.ret ?_; conv => whnf) | (refine W.exit ?_; conv => whnf) | (refine W.condF rfl ?_) | (refine ⟨false, decide_eq_false (by omega), ?_⟩; conv => whnf) | (refine ⟨true, bne_iff_ne.2 (by omega), ?_⟩; conv => whnf) | (refine ⟨rfl, ?_⟩; conv => whnf))
      refine ⟨?_, ?_, rfl⟩
      · refine congrArg IV.bool (decide_eq_true ?_).symm
        omega
      · rw [← hpad]; rfl
end Go.Proofs.Fl
namespace Go.Proofs.Fl
open Go.RowKit Go.Proofs.Dig
attribute [local irreducible] IntKind.wrap PureC MutC MakC IterC
theorem dg_len {x n : Nat} (h1 : B9 ^ n ≤ x) (h2 : x < B9 ^ (n + 1)) : (dg x).length = n + 1 := by
  have e1 := len_le_of_lt (by decide) (dg_ok x) (k := n + 1) (by rw [dg_nv]; exact h2)
  have e2 := nv_lt (dg_ok x).dg
  rw [dg_nv] at e2
  apply Nat.le_antisymm e1
  apply Classical.byContradiction
  intro hn
  have : B9 ^ (dg x).length ≤ B9 ^ n := Nat.pow_le_pow_right (by decide) (by omega)
  omega
theorem top_split {m : List Nat} {n : Nat} (hl : m.length = n + 1) : nv B9 m = nv B9 (m.take n) + B9 ^ n * m.getD n 0 := by
  have := nv_take_getD m n
  rwa [List.take_of_length_le (by omega)] at this
theorem top_pos {m : List Nat} {n : Nat} (hm : Ok B9 m) (hl : m.length = n + 1) : 1 ≤ m.getD n 0 := by
  have h1 := nv_ge hm.nm (by intro e; rw [e] at hl; cases hl) (B := B9)
  rw [hl, Nat.add_sub_cancel, top_split hl] at h1
  have h2 := nv_lt (hm.dg.take n)
  rw [List.length_take, hl, Nat.min_eq_left (by omega)] at h2
  apply Classical.byContradiction
  intro h0
  have e : m.getD n 0 = 0 := by omega
  rw [e, Nat.mul_zero] at h1
  omega
theorem norm {m : List Nat} {n s : Nat} (hm : Ok B9 m) (hl : m.length = n + 1) (hs : s = 1000000000 / (m.getD n 0 + 1)) :
    1 ≤ s ∧ s < 1000000000 ∧ B9 ^ n ≤ nv B9 m * s ∧ nv B9 m * s < B9 ^ (n + 1) := by
  have ht := top_pos hm hl
  have ht2 := getD_lt hm.dg n
  have h1 : 1 ≤ s := by rw [hs]; exact (Nat.one_le_div_iff (by omega)).2 (by omega)
  have h2 : s < 1000000000 := by rw [hs]; exact Nat.div_lt_self (by omega) (by omega)
  have h3 := nv_ge hm.nm (by intro e; rw [e] at hl; cases hl) (B := B9)
  rw [hl, Nat.add_sub_cancel] at h3
  refine ⟨h1, h2, Nat.le_trans h3 (Nat.le_mul_of_pos_right _ h1), ?_⟩
  have h4 := nv_lt (hm.dg.take n)
  rw [List.length_take, hl, Nat.min_eq_left (by omega)] at h4
  have h5 : nv B9 m < B9 ^ n * (m.getD n 0 + 1) := by rw [top_split hl, Nat.mul_add, Nat.mul_one]; omega
  have h6 : s * (m.getD n 0 + 1) ≤ B9 := by rw [hs]; exact Nat.div_mul_le_self _ _
  have h7 : nv B9 m * s < B9 ^ n * (m.getD n 0 + 1) * s := Nat.mul_lt_mul_of_pos_right h5 h1
  have h8 : B9 ^ n * (m.getD n 0 + 1) * s ≤ B9 ^ (n + 1) := by
    rw [Nat.mul_assoc, Nat.mul_comm (m.getD n 0 + 1), Nat.pow_succ]
    exact Nat.mul_le_mul_left _ h6
  omega
theorem ini {a s V la n : Nat} {R : List Nat} {b : Nat} (ha : a < B9 ^ la) (hb : B9 ^ n ≤ b) (hs : 1 ≤ s) (hV : V = b * s) (hR : nv B9 R = a * s) (hRl : R.length = la + 1) (hn : n ≤ la) : nv B9 (R.drop (la - n)) < V := by
  have h1 := nv_take_add B9 R (la - n) (by omega)
  have h2 : a * s < B9 ^ la * s := Nat.mul_lt_mul_of_pos_right ha hs
  have h3 : B9 ^ la = B9 ^ (la - n) * B9 ^ n := by rw [← Nat.pow_add]; congr 1; omega
  have h4 : B9 ^ n * s ≤ V := by rw [hV]; exact Nat.mul_le_mul_right _ hb
  apply Nat.lt_of_mul_lt_mul_left (a := B9 ^ (la - n))
  have h5 : B9 ^ (la - n) * (B9 ^ n * s) ≤ B9 ^ (la - n) * V := Nat.mul_le_mul_left _ h4
  rw [← Nat.mul_assoc, ← h3] at h5
  omega
theorem part_val {R : List Nat} {k n V : Nat} (hR : Dg B9 R) (hl : k + n + 1 < R.length) (hV : V < B9 ^ (n + 1)) (hlt : nv B9 (R.drop (k + 1)) < V) :
    nv B9 (R.drop k) = nv B9 ((R.drop k).take (n + 2)) ∧ nv B9 (R.drop (k + (n + 2))) = 0 ∧ nv B9 (R.drop k) < B9 * V ∧
    R.getD (k + (n + 1)) 0 * 1000000000 + R.getD (k + n) 0 = nv B9 (R.drop k) / B9 ^ n := by
  have e1 : nv B9 (R.drop k) = R.getD k 0 + B9 * nv B9 (R.drop (k + 1)) := by
    rw [nv_drop B9 R k (by omega), List.getD_eq_getElem?_getD, List.getElem?_eq_getElem (by omega)]; rfl
  have hd := getD_lt hR k
  have h3 : nv B9 (R.drop k) < B9 * V := by
    have : B9 * (nv B9 (R.drop (k + 1)) + 1) ≤ B9 * V := Nat.mul_le_mul_left _ hlt
    rw [Nat.mul_add] at this
    simp only [B9] at this e1 ⊢
    omega
  have h4 := nv_take_add B9 (R.drop k) (n + 2) (by rw [List.length_drop]; omega)
  rw [List.drop_drop] at h4
  have h5 : nv B9 (R.drop (k + (n + 2))) = 0 := by
    apply Classical.byContradiction
    intro hne
    have e : B9 ^ (n + 2) * 1 ≤ B9 ^ (n + 2) * nv B9 (R.drop (k + (n + 2))) := Nat.mul_le_mul_left _ (by omega)
    have e2 : B9 * V < B9 * B9 ^ (n + 1) := Nat.mul_lt_mul_of_pos_left hV (by decide)
    have e3 : B9 * B9 ^ (n + 1) = B9 ^ (n + 2) := by rw [Nat.mul_comm B9 (B9 ^ (n + 1)), ← Nat.pow_succ]
    omega
  rw [h5, Nat.mul_zero, Nat.add_zero] at h4
  refine ⟨h4, h5, h3, ?_⟩
  have g1 : (R.drop k).getD n 0 = R.getD (k + n) 0 := by simp [List.getD_eq_getElem?_getD]
  have g2 : (R.drop k).getD (n + 1) 0 = R.getD (k + (n + 1)) 0 := by simp [List.getD_eq_getElem?_getD]
  have h6 := nv_take_getD (R.drop k) (n + 1)
  have h7 := nv_take_getD (R.drop k) n
  rw [g1] at h7
  rw [g2, h7, ← h4, Nat.pow_succ, Nat.mul_assoc] at h6
  have h8 := nv_lt ((hR.drop k).take n)
  rw [List.length_take, List.length_drop, Nat.min_eq_left (by omega)] at h8
  have h9 : nv B9 (R.drop k) = B9 ^ n * (R.getD (k + (n + 1)) 0 * 1000000000 + R.getD (k + n) 0) + nv B9 ((R.drop k).take n) := by
    rw [h6, Nat.mul_add, Nat.mul_comm (R.getD (k + (n + 1)) 0) 1000000000]
    simp only [B9]
    omega
  rw [h9, Nat.mul_add_div (Nat.pow_pos (by decide)), Nat.div_eq_of_lt h8]
  exact (Nat.add_zero _).symm
theorem guess_ge {P V n vt : Nat} (hV0 : 0 < V) (hvt : vt = V / B9 ^ n) (hv1 : 1 ≤ vt) (hlt : P < B9 * V) : P / V ≤ min (P / B9 ^ n / vt) 999999999 := by
  apply Nat.le_min.2
  constructor
  · rw [Nat.le_div_iff_mul_le (by omega), Nat.le_div_iff_mul_le (Nat.pow_pos (by decide))]
    have h1 : vt * B9 ^ n ≤ V := by rw [hvt]; exact Nat.div_mul_le_self _ _
    have h2 : P / V * V ≤ P := Nat.div_mul_le_self _ _
    have h3 : P / V * (vt * B9 ^ n) ≤ P / V * V := Nat.mul_le_mul_left _ h1
    rw [Nat.mul_assoc]
    omega
  · have : P / V < B9 := (Nat.div_lt_iff_lt_mul hV0).2 hlt
    simp only [B9] at this
    omega
theorem ovStep {R O part' : List Nat} {k N V A : Nat} (hkR : k ≤ R.length) (hkO : k < O.length) (h0 : nv B9 (R.drop (k + N)) = 0) (hp : nv B9 part' = nv B9 (R.drop k) % V) (hA : nv B9 R + B9 ^ (k + 1) * (V * nv B9 (O.drop (k + 1))) = A) :
    nv B9 (R.take k ++ part' ++ R.drop (k + N)) + B9 ^ k * (V * nv B9 ((O.set k (nv B9 (R.drop k) / V)).drop k)) = A ∧ nv B9 ((R.take k ++ part' ++ R.drop (k + N)).drop k) = nv B9 (R.drop k) % V := by
  have hl : (R.take k).length = k := by rw [List.length_take, Nat.min_eq_left hkR]
  have e1 : (R.take k ++ part' ++ R.drop (k + N)).drop k = part' ++ R.drop (k + N) := by
    rw [List.append_assoc, List.drop_append_of_le_length (by omega), List.drop_of_length_le (by omega), List.nil_append]
  have e2 : nv B9 (part' ++ R.drop (k + N)) = nv B9 (R.drop k) % V := by rw [nv_append, h0, Nat.mul_zero, hp]; exact Nat.add_zero _
  refine ⟨?_, by rw [e1, e2]⟩
  rw [List.append_assoc, nv_append, hl, e2, set_drop_self hkO, nv_cons]
  have h1 := nv_take_add B9 R k hkR
  have h2 := Nat.div_add_mod (nv B9 (R.drop k)) V
  rw [← hA, h1, Nat.pow_succ]
  generalize nv B9 (R.drop k) / V = q at *
  generalize nv B9 (R.drop k) % V = r at *
  rw [← h2, Nat.mul_add, Nat.mul_add, Nat.mul_add, Nat.mul_assoc (B9 ^ k) B9, Nat.mul_left_comm V B9]
  omega
theorem cmpL_dg (a b : Nat) : cmpL (dg a) (dg b) = cmpI a b := by unfold cmpL; rw [dg_nv, dg_nv]
theorem cmpI_lt {a b : Nat} (h : a < b) : cmpI a b = -1 := by unfold cmpI; rw [if_pos (by omega)]
theorem cmpI_ge {a b : Nat} (h : b ≤ a) : 0 ≤ cmpI a b := by unfold cmpI; split <;> (try split) <;> omega
theorem f188_mag (J : Keep) {l : List Nat} {es : List IV} {x : Nat} (h : es = l.map u32) (hl : l.length < 2 ^ 60) (hd : Dg B9 l) (hv : nv B9 l = x) : C J 188 [.sl es] (mag x) := by
  rw [show mag x = mgI (strip l) by rw [dg_strip hd hv]]
  exact f188_at J h hl
theorem f186_small (J : Keep) {a b : Nat} (hb : 0 < b) (hab : a < b ∨ b < 1000000000) (ha : ln a < 2 ^ 44) : C J 186 [mag a, mag b] (.tup [mag (a / b), mag (a % b)]) := by
  have ha' := ha
  unfold ln at ha
  have la : ((dg a).map u32).length = (dg a).length := by simp
  have lb : ((dg b).map u32).length = (dg b).length := by simp
  refine fn_ok Tryz.func186 rfl rfl rfl ?_
  by_cases h : a < b
  · have hc := cmpI_lt h
    rw [← cmpL_dg] at hc
    repeat (first | (refine W.RS (by kernel_rfl) ?_; conv => whnf) | (refine W.S ?_) | (refine W.block ?_) | (refine W.ret ?_; conv => whnf) | (refine W.condT rfl ?_) | (refine ⟨_, f133_ok J (dg_ok a) (dg_ok b) (by omega), ?_⟩; conv => whnf) | (refine ⟨true, decide_eq_true (by omega), ?_⟩; conv => whnf) | (refine ⟨rfl, ?_⟩; conv => whnf))
    rw [Nat.div_eq_of_lt h, Nat.mod_eq_of_lt h]
    show IV.tup [.agg [.sl []], mag a] = _
    rw [show mag 0 = .agg [.sl []] by rw [show mag 0 = mgI (dg 0) from rfl, dg_zero]; rfl]
  · have hb1 : b < 1000000000 := by omega
    have hc := cmpI_ge (Nat.not_lt.1 h)
    rw [← cmpL_dg] at hc
    have hd : dg b = [b] := (dg_of ⟨Dg.single hb1, by intro d hd; simp at hd; omega⟩ (by simp [nv])).symm
    have hl : (dg b).length = 1 := by rw [hd]; rfl
    have he : (dg b).getD 0 0 = b := by rw [hd]; rfl
    repeat (first | (refine W.RS (by kernel_rfl) ?_; conv => whnf) | (refine W.S ?_) | (refine W.block ?_) | (refine W.ret ?_; conv => whnf) | (refine W.condF rfl ?_) | (refine W.condT rfl ?_) | (refine ⟨_, f133_ok J (dg_ok a) (dg_ok b) (by omega), ?_⟩; conv => whnf) | (refine ⟨_, f210_ok J (a := a) (d := (dg b).getD 0 0) (by omega) (by omega) ha', ?_⟩; conv => whnf) | (refine ⟨0, _, rfl, getu (by omega), rfl, ?_⟩; conv => whnf) | (refine ⟨true, decide_eq_true (by omega), ?_⟩; conv => whnf) | (refine ⟨false, decide_eq_false (by omega), ?_⟩; conv => whnf) | (refine ⟨_, rfl, ?_⟩; conv => whnf) | (refine ⟨rfl, ?_⟩; conv => whnf))
    rw [he]
    rfl
end Go.Proofs.Fl
namespace Go.Proofs.Fl
open Go.RowKit Go.Proofs.Dig
attribute [local irreducible] IntKind.wrap PureC MutC MakC IterC
theorem copyPre {x : List Nat} {N : Nat} (h : x.length ≤ N) : splice (List.replicate N (u32 0)) 0 (List.take (Nat.min (x.map u32).length N) (x.map u32)) = (x ++ List.replicate (N - x.length) 0).map u32 := by
  unfold splice
  have e : Nat.min (x.map u32).length N = x.length := by rw [List.length_map]; exact Nat.min_eq_left h
  rw [e, List.take_zero, List.nil_append, List.take_of_length_le (by simp), Nat.zero_add, List.length_map, List.drop_replicate, List.map_append, List.map_replicate]
theorem top_div {x n : Nat} (hl : (dg x).length = n + 1) : (dg x).getD n 0 = x / B9 ^ n := by
  have h1 := top_split hl
  rw [dg_nv] at h1
  have h2 := nv_lt ((dg_ok x).dg.take n)
  rw [List.length_take, hl, Nat.min_eq_left (by omega)] at h2
  have h3 : x / B9 ^ n = (nv B9 ((dg x).take n) + B9 ^ n * (dg x).getD n 0) / B9 ^ n := by rw [← h1]
  rw [h3, Nat.add_mul_div_left _ _ (Nat.pow_pos (by decide)), Nat.div_eq_of_lt h2]
  exact (Nat.zero_add _).symm
theorem beq_no {a b : Nat} (h : a ≠ b) : Nat.beq a b = false := by
  cases hb : Nat.beq a b
  · rfl
  · exact absurd (Nat.eq_of_beq_eq_true hb) h
theorem ln_mul_le (a s : Nat) : ln (a * s) ≤ ln a + ln s := ln_le (by
  rw [Nat.pow_add]
  exact Nat.mul_lt_mul'' (lt_ln a) (lt_ln s))
set_option maxHeartbeats 4000000 in
theorem f186_big (J : Keep) {a b : Nat} (hab : b ≤ a) (hb : 1000000000 ≤ b) (ha : ln a < 2 ^ 40) : C J 186 [mag a, mag b] (.tup [mag (a / b), mag (a % b)]) := by
  have ha' := ha
  unfold ln at ha
  obtain ⟨l, hl0⟩ : ∃ l, l = dg a := ⟨_, rfl⟩
  obtain ⟨m, hm0⟩ : ∃ m, m = dg b := ⟨_, rfl⟩
  have hol : Ok B9 l := by rw [hl0]; exact dg_ok a
  have hom : Ok B9 m := by rw [hm0]; exact dg_ok b
  have hvl : nv B9 l = a := by rw [hl0]; exact dg_nv a
  have hvm : nv B9 m = b := by rw [hm0]; exact dg_nv b
  have hml : m.length ≤ l.length := len_le_of_lt (by decide) hom (by have := nv_lt hol.dg; omega)
  obtain ⟨n, hn⟩ : ∃ n, m.length = n + 2 := by
    refine ⟨m.length - 2, ?_⟩
    have h9 := nv_lt hom.dg
    have h2 : 2 ≤ m.length := by
      apply Classical.byContradiction
      intro hh
      have h8 : B9 ^ m.length ≤ B9 ^ 1 := Nat.pow_le_pow_right (by decide) (by omega)
      rw [Nat.pow_one] at h8
      have h7 : B9 = 1000000000 := rfl
      omega
    omega
  have hc := cmpI_ge hab
  rw [← cmpL_dg] at hc
  have la : ((dg a).map u32).length = l.length := by rw [hl0]; simp
  have lb : ((dg b).map u32).length = n + 2 := by rw [← hm0]; simp [hn]
  have lb2 : (dg b).length = n + 2 := by rw [← hm0]; exact hn
  have hlen : l.length < 2 ^ 40 := by rw [hl0]; exact ha
  obtain ⟨s, hs⟩ : ∃ s, s = 1000000000 / (m.getD (n + 1) 0 + 1) := ⟨_, rfl⟩
  obtain ⟨hs1, hs2, hV1, hV2⟩ := norm hom hn hs
  rw [hvm] at hV1 hV2
  have hvt := getD_lt hom.dg (n + 1)
  have hvt2 : (dg b).getD (n + 1) 0 < 1000000000 := by rw [← hm0]; exact hvt
  have hsc : IntKind.wrap .u32 ((1000000000 : Int).tdiv (((dg b).getD (n + 1) 0 : Int) + 1)) = ((s : Nat) : Int) := by
    rw [← hm0, show ((m.getD (n + 1) 0 : Nat) : Int) + 1 = ((m.getD (n + 1) 0 + 1 : Nat) : Int) by omega, show (1000000000 : Int) = ((1000000000 : Nat) : Int) from rfl, tdivN, ← hs]
    exact w32 (by omega)
  have hls : ln s ≤ 1 := ln_le (by simp only [B9]; omega)
  have hlb : ln b = n + 2 := lb2
  have hvl2 : ln a = l.length := by rw [hl0]; rfl
  have lv : (dg (b * s)).length = n + 2 := dg_len hV1 hV2
  have lv2 : ((dg (b * s)).map u32).length = n + 2 := by simp [lv]
  refine fn_ok Tryz.func186 rfl rfl rfl ?_
  repeat (first | (refine W.RS (by kernel_rfl) ?_; conv => whnf) | (refine W.S ?_) | (refine W.block ?_) | (refine W.skip ?_; conv => whnf) | (refine W.condF rfl ?_) | (refine ⟨_, f133_ok J (dg_ok a) (dg_ok b) (by omega), ?_⟩; conv => whnf) | (refine ⟨by omega, _, hsc, ?_⟩; conv => whnf) | (refine ⟨n + 1, _, by omega, getu (by omega), rfl, ?_⟩; conv => whnf) | (refine ⟨rfl, _, w64 (by omega), ?_⟩; conv => whnf) | (refine ⟨rfl, _, w32 (by omega), ?_⟩; conv => whnf) | (refine ⟨_, wu64 (by omega), ?_⟩; conv => whnf) | (refine ⟨false, decide_eq_false (by omega), ?_⟩; conv => whnf) | (refine ⟨_, rfl, ?_⟩; conv => whnf) | (refine ⟨rfl, ?_⟩; conv => whnf))
  refine ⟨_, f134_ok J (n := s) (by omega), ?_⟩
  conv => whnf
  refine W.weak (σ' := mkA [(2, .ptr 0 0), (3, .ptr 1 0), (4, .ptr 2 0), (5, .ptr 3 0), (6, .ptr 4 0)] [(0, .var (mag a)), (1, .var (mag b)), (2, .var (.agg [.sl []])), (3, .var (.agg [.sl []])), (4, .var (mag s))] 30)
    (Wk.tab [(4, 26)] ⟨⟨rfl, rfl⟩, ⟨rfl, rfl⟩, ⟨rfl, rfl⟩, ⟨rfl, rfl⟩, ⟨rfl, rfl⟩, trivial⟩ ⟨rfl, rfl, rfl, rfl, rfl, trivial⟩ rfl) ?_
  clear hsc hvt hvt2 hc
  refine W.RS (by kernel_rfl) ?_
  conv => whnf
  refine ⟨_, f136_ok J (a := b) (b := s) (by omega), ?_⟩
  conv => whnf
  refine W.RS (by kernel_rfl) ?_
  conv => whnf
  refine ⟨_, rfl, ?_⟩
  conv => whnf
  refine W.RS (by kernel_rfl) ?_
  conv => whnf
  refine ⟨_, rfl, ?_⟩
  conv => whnf
  refine ⟨rfl, _, w64 (by omega), ?_⟩
  conv => whnf
  refine ⟨rfl, _, castA _, ?_⟩
  conv => whnf
  refine ⟨by show 4 * _ ≤ (281474976710656 : Nat); omega, by unfold maxLen; omega, ?_⟩
  conv => whnf
  refine W.RS (by kernel_rfl) ?_
  conv => whnf
  refine ⟨_, f136_ok J (a := a) (b := s) (by omega), ?_⟩
  conv => whnf
  refine ⟨List.not_mem_nil, rfl, all32, ?_, _, rfl, ?_⟩
  · rw [List.length_replicate]; omega
  conv => whnf
  refine W.RS (by kernel_rfl) ?_
  conv => whnf
  refine ⟨_, rfl, ?_⟩
  conv => whnf
  refine ⟨rfl, _, w64 (by omega), ?_⟩
  conv => whnf
  refine ⟨rfl, l.length - (n + 1), by omega, ?_⟩
  refine ⟨by show 4 * _ ≤ (281474976710656 : Nat); omega, by unfold maxLen; omega, ?_⟩
  conv => whnf
  refine W.S ?_
  refine W.RS (by kernel_rfl) ?_
  conv => whnf
  refine ⟨_, rfl, ?_⟩
  conv => whnf
  refine ⟨rfl, _, w64 (by omega), ?_⟩
  conv => whnf
  have hR0l : (dg (a * s)).length ≤ l.length + 1 := by
    have h1 := ln_mul_le a s
    unfold ln at h1 hls hvl2
    omega
  have hR0 : nv B9 (dg (a * s) ++ List.replicate (l.length + 1 - (dg (a * s)).length) 0) = a * s := by
    rw [nv_append, nv_replicate, dg_nv]; exact Nat.add_zero _
  have hR0len : (dg (a * s) ++ List.replicate (l.length + 1 - (dg (a * s)).length) 0).length = l.length + 1 := by simp; omega
  have hini := ini (n := n + 1) (la := l.length) (V := b * s) (a := a) (b := b) (by have := nv_lt hol.dg; rwa [hvl] at this) (by
    have := nv_ge hom.nm (by intro e; rw [e] at hn; cases hn) (B := B9)
    rwa [hn, hvm] at this) hs1 rfl hR0 hR0len (by omega)
  repeat (first | (refine W.S ?_) | (refine W.block ?_))
  refine W.loop (G := { p : Nat × List Nat × List Nat // p.1 ≤ l.length - (n + 1) ∧ p.2.1.length = l.length + 1 ∧ Dg B9 p.2.1 ∧ p.2.2.length = l.length - (n + 1) ∧ Dg B9 p.2.2 ∧ nv B9 p.2.1 + B9 ^ p.1 * (b * s * nv B9 (p.2.2.drop p.1)) = a * s ∧ nv B9 (p.2.1.drop p.1) < b * s })
    (fun p => mkA [(2, .ptr 0 0), (3, .ptr 1 0), (4, .ptr 2 0), (5, .ptr 3 0), (6, .ptr 4 0), (7, .iv (.sl ((dg (b * s)).map u32))), (8, .iv (.int .i64 ((n + 2 : Nat) : Int))), (9, .ref 5 0 (l.length + 1) true), (10, .ref 6 0 (l.length - (n + 1)) true), (11, .iv (.int .i64 ((p.1.1 : Int) - 1)))]
      [(0, .var (mag a)), (1, .var (mag b)), (2, .var (.agg [.sl []])), (3, .var (.agg [.sl []])), (4, .var (mag s)), (5, .arr 173 1 (p.1.2.1.map u32) false), (6, .arr 173 1 (p.1.2.2.map u32) false)] 70) (fun p => p.1.1)
    ⟨(l.length - (n + 1), dg (a * s) ++ List.replicate (l.length + 1 - (dg (a * s)).length) 0, List.replicate (l.length - (n + 1)) 0), Nat.le_refl _, hR0len, (dg_ok _).dg.append (Dg.replicate (by decide) _), by simp, Dg.replicate (by decide) _,
      by dsimp only; rw [hR0, List.drop_of_length_le (by simp), nv_nil, Nat.mul_zero, Nat.mul_zero, Nat.add_zero], hini⟩
    (Wk.tab [(5, 42), (6, 54)] ⟨⟨rfl, rfl⟩, ⟨rfl, rfl⟩, ⟨rfl, rfl⟩, ⟨rfl, rfl⟩, ⟨rfl, rfl⟩, ⟨rfl, rfl⟩, ⟨ivEq (by omega), rfl⟩, ⟨refEq (by omega), rfl⟩, ⟨refEq (by omega), rfl⟩, ⟨rfl, rfl⟩, trivial⟩
      ⟨rfl, rfl, rfl, rfl, rfl, arrEq ?_, arrEq ?_, trivial⟩ rfl) ?_
  · rw [la]
    exact copyPre (by simpa using hR0l)
  · rw [List.map_replicate]; rfl
  rintro ⟨⟨k, R, O⟩, hk, hRl, hRd, hOl, hOd, hA, hlt⟩
  dsimp only at hk hRl hRd hOl hOd hA hlt
  show W J _ _ (mkA [(2, .ptr 0 0), (3, .ptr 1 0), (4, .ptr 2 0), (5, .ptr 3 0), (6, .ptr 4 0), (7, .iv (.sl ((dg (b * s)).map u32))), (8, .iv (.int .i64 ((n + 2 : Nat) : Int))), (9, .ref 5 0 (l.length + 1) true), (10, .ref 6 0 (l.length - (n + 1)) true), (11, .iv (.int .i64 ((k : Int) - 1)))]
      [(0, .var (mag a)), (1, .var (mag b)), (2, .var (.agg [.sl []])), (3, .var (.agg [.sl []])), (4, .var (mag s)), (5, .arr 173 1 (R.map u32) false), (6, .arr 173 1 (O.map u32) false)] 70) _
  clear hini hR0 hR0l hR0len
  have lR : (R.map u32).length = R.length := by simp
  have lO : (O.map u32).length = O.length := by simp
  by_cases h : k = 0
  · subst h
    simp only [List.drop_zero, Nat.pow_zero, Nat.one_mul] at hA hlt
    have hb0 : 0 < b := by omega
    have hbs : 0 < b * s := Nat.mul_pos hb0 hs1
    have e1 : nv B9 O = a / b := by
      have : a * s / (b * s) = nv B9 O := by rw [← hA, Nat.add_mul_div_left _ _ hbs, Nat.div_eq_of_lt hlt, Nat.zero_add]
      rw [← this, Nat.mul_div_mul_right _ _ hs1]
    have e2 : nv B9 R = a % b * s := by
      have : a * s % (b * s) = nv B9 R := by rw [← hA, Nat.add_mul_mod_self_left, Nat.mod_eq_of_lt hlt]
      rw [← this, Nat.mul_mod_mul_right]
    have h3 : ln (a % b * s) < 2 ^ 44 := by
      have h1 := ln_mul_le (a % b) s
      have h2 : ln (a % b) ≤ l.length := ln_le (Nat.lt_of_le_of_lt (Nat.mod_le _ _) (by have := nv_lt hol.dg; rwa [hvl] at this))
      omega
    repeat (first | (refine W.RS (by kernel_rfl) ?_; conv => whnf) | (refine W.S ?_) | (refine W.ret ?_; conv => whnf) | (refine W.exit ?_; conv => whnf) | (refine W.condF rfl ?_) | (refine ⟨_, f188_mag J (l := R) (es := List.take (l.length + 1) (List.drop 0 (R.map u32))) (x := a % b * s) (by rw [List.drop_zero, List.take_of_length_le (by omega)]) (by omega) hRd e2, ?_⟩; conv => whnf) | (refine ⟨_, f186_small J (a := a % b * s) (b := s) hs1 (.inr hs2) h3, ?_⟩; conv => whnf) | (refine ⟨_, f188_mag J (l := O) (es := List.take (l.length - (n + 1)) (List.drop 0 (O.map u32))) (x := a / b) (by rw [List.drop_zero, List.take_of_length_le (by omega)]) (by omega) hOd e1, ?_⟩; conv => whnf) | (refine ⟨false, decide_eq_false (by omega), ?_⟩; conv => whnf) | (refine ⟨rfl, ?_⟩; conv => whnf))
    rw [Nat.mul_div_cancel _ hs1]
    rfl
  · obtain ⟨k, rfl⟩ : ∃ j, k = j + 1 := ⟨k - 1, by omega⟩
    have hO : k < O.length := by omega
    obtain ⟨p1, p2, p3, p4⟩ := part_val (n := n + 1) (k := k) hRd (by omega) hV2 hlt
    have hvt3 := top_div lv
    have hVpos : 0 < b * s := Nat.lt_of_lt_of_le (Nat.pow_pos (by decide)) hV1
    have hvt1 : 1 ≤ (dg (b * s)).getD (n + 1) 0 := by rw [hvt3]; exact (Nat.one_le_div_iff (Nat.pow_pos (by decide))).2 hV1
    have hvt4 := getD_lt (dg_ok (b * s)).dg (n + 1)
    have hgg := guess_ge hVpos hvt3 hvt1 p3
    obtain ⟨P, hP⟩ : ∃ P, nv B9 (R.drop k) = P := ⟨_, rfl⟩
    obtain ⟨gq, hgq0⟩ : ∃ q, (R.getD (0 + (k + (n + 2))) 0 * 1000000000 + R.getD (0 + (k + (n + 1))) 0) / (dg (b * s)).getD (n + 1) 0 = q := ⟨_, rfl⟩
    have z1 : R.getD (0 + (k + (n + 2))) 0 = R.getD (k + (n + 2)) 0 := by rw [Nat.zero_add]
    have z2 : R.getD (0 + (k + (n + 1))) 0 = R.getD (k + (n + 1)) 0 := by rw [Nat.zero_add]
    have d1 := getD_lt hRd (0 + (k + (n + 2)))
    have d2 := getD_lt hRd (0 + (k + (n + 1)))
    have hgq1 : gq ≤ R.getD (0 + (k + (n + 2))) 0 * 1000000000 + R.getD (0 + (k + (n + 1))) 0 := by rw [← hgq0]; exact Nat.div_le_self _ _
    rw [hP] at p1 p3 p4 hgg
    have hgq2 : P / B9 ^ (n + 1) / (dg (b * s)).getD (n + 1) 0 = gq := by rw [← p4, ← hgq0, z1, z2]
    rw [hgq2] at hgg
    have hgq : IntKind.wrap .u64 (((R.getD (0 + (k + (n + 2))) 0 : Int) * 1000000000 + (R.getD (0 + (k + (n + 1))) 0 : Int)).tdiv ((dg (b * s)).getD (n + 1) 0 : Int)) = ((gq : Nat) : Int) := by
      rw [show (R.getD (0 + (k + (n + 2))) 0 : Int) * 1000000000 + (R.getD (0 + (k + (n + 1))) 0 : Int) = ((R.getD (0 + (k + (n + 2))) 0 * 1000000000 + R.getD (0 + (k + (n + 1))) 0 : Nat) : Int) by omega, tdivN, hgq0]
      exact wu64 (by omega)
    obtain ⟨g, hg⟩ : ∃ g, min gq 999999999 = g := ⟨_, rfl⟩
    rw [hg] at hgg
    have hmin : (if (999999999 : Int) < (gq : Int) then (999999999 : Int) else (gq : Int)) = (g : Int) := by rw [← hg]; split <;> omega
    have hg1 : g < 1000000000 := by omega
    clear hgq0 hgq1 hgq2 hvt3 p4
    obtain ⟨mid, hmid⟩ : ∃ x, x = (R.drop k).take (n + 3) := ⟨_, rfl⟩
    have hmidl : mid.length = n + 3 := by rw [hmid, List.length_take, List.length_drop]; omega
    have hmidd : Dg B9 mid := by rw [hmid]; exact (hRd.drop k).take _
    have hmidv : nv B9 mid = P := by rw [hmid]; exact p1.symm
    have hprel : (R.take k).length = 0 + k := by rw [List.length_take]; omega
    have hRe : R.take k ++ mid ++ R.drop (k + (n + 3)) = R := by
      rw [hmid, List.append_assoc, ← List.drop_drop, List.take_append_drop, List.take_append_drop]
    have hsub : MutC Tryz.prog J.I 211 173 1 (0 + k) (k + (n + 2) + 1 - k) (R.map u32) [.sl ((dg (b * s)).map u32), .int .u64 g] ((R.take k ++ pad (n + 3) (P + B9 ^ (n + 3) - g * (b * s)) ++ R.drop (k + (n + 3))).map u32) (.bool (decide (P < g * (b * s)))) := by
      have h := f211_ok J (pre := R.take k) (mid := mid) (post := R.drop (k + (n + 3))) (v := dg (b * s)) (t := g) hg1 hmidd (dg_ok _).dg (by omega) (by rw [hRe]; omega)
      rw [hRe, hprel, hmidl, hmidv, dg_nv] at h
      rw [show k + (n + 2) + 1 - k = n + 3 by omega]
      exact h
    have hlenp : ∀ x : List Nat, x.length = n + 3 → (R.take k ++ x ++ R.drop (k + (n + 3))).length = R.length := fun x hx => by
      rw [List.length_append, List.length_append, List.length_drop, hprel, hx]; omega
    have hgive : ∀ part : List Nat, part.length = n + 3 → Dg B9 part → MutC Tryz.prog J.I 212 173 1 (0 + k) (k + (n + 2) + 1 - k) ((R.take k ++ part ++ R.drop (k + (n + 3))).map u32) [.sl ((dg (b * s)).map u32)] ((R.take k ++ pad (n + 3) (nv B9 part + b * s) ++ R.drop (k + (n + 3))).map u32) (.bool (decide (B9 ^ (n + 3) ≤ nv B9 part + b * s))) := fun part h1 h2 => by
      have h := f212_ok J (pre := R.take k) (mid := part) (post := R.drop (k + (n + 3))) (v := dg (b * s)) h2 (dg_ok _).dg (by omega) (by rw [hlenp part h1]; omega)
      rw [hprel, h1, dg_nv] at h
      rw [show k + (n + 2) + 1 - k = n + 3 by omega]
      exact h
    have hgV : g * (b * s) < B9 ^ (n + 3) := by
      have e1 : g * (b * s) ≤ B9 * (b * s) := Nat.mul_le_mul_right _ (Nat.le_of_lt hg1)
      have e2 : B9 * (b * s) < B9 * B9 ^ (n + 2) := Nat.mul_lt_mul_of_pos_left hV2 (by decide)
      have e3 : B9 * B9 ^ (n + 2) = B9 ^ (n + 3) := by rw [Nat.mul_comm B9 (B9 ^ (n + 2)), ← Nat.pow_succ]
      omega
    have hPN : P < B9 ^ (n + 3) := by
      have e2 : B9 * (b * s) < B9 * B9 ^ (n + 2) := Nat.mul_lt_mul_of_pos_left hV2 (by decide)
      have e3 : B9 * B9 ^ (n + 2) = B9 ^ (n + 3) := by rw [Nat.mul_comm B9 (B9 ^ (n + 2)), ← Nat.pow_succ]
      omega
    have hqV : P / (b * s) * (b * s) ≤ P := Nat.div_mul_le_self _ _
    have hVN : b * s < B9 ^ (n + 3) := Nat.lt_of_lt_of_le hV2 (Nat.pow_le_pow_right (by decide) (by omega))
    have hend : ∀ part' : List Nat, part'.length = n + 3 → Dg B9 part' → nv B9 part' = P % (b * s) → ∀ q, q = P / (b * s) →
        (k ≤ l.length - (n + 1) ∧ (R.take k ++ part' ++ R.drop (k + (n + 3))).length = l.length + 1 ∧ Dg B9 (R.take k ++ part' ++ R.drop (k + (n + 3))) ∧ (O.set k q).length = l.length - (n + 1) ∧ Dg B9 (O.set k q) ∧
          nv B9 (R.take k ++ part' ++ R.drop (k + (n + 3))) + B9 ^ k * (b * s * nv B9 ((O.set k q).drop k)) = a * s ∧ nv B9 ((R.take k ++ part' ++ R.drop (k + (n + 3))).drop k) < b * s) := by
      intro part' h1 h2 h3 q hq
      obtain ⟨o1, o2⟩ := ovStep (part' := part') (N := n + 3) (A := a * s) (V := b * s) (show k ≤ R.length by omega) hO p2 (by rw [h3, hP]) hA
      rw [hP, ← hq] at o1
      rw [hP] at o2
      refine ⟨by omega, ?_, ((hRd.take k).append h2).append (hRd.drop _), by rw [List.length_set]; exact hOl, hOd.set ?_, o1, by rw [o2]; exact Nat.mod_lt _ hVpos⟩
      · rw [List.length_append, List.length_append, List.length_drop, h1]; omega
      · have : P / (b * s) < B9 := (Nat.div_lt_iff_lt_mul hVpos).2 p3
        omega
    rw [show (((k + 1 : Nat) : Int) - 1) = (k : Int) by omega]
    clear hs hls hlb hvl2 ha' hs2 hV1 hV2 ha la lb lb2 hmidv hmidl hmidd hRe
    repeat (first | (refine W.RS (by kernel_rfl) ?_; conv => whnf) | (refine W.S ?_) | (refine W.block ?_) | (refine W.skip ?_; conv => whnf) | (refine W.condT rfl ?_) | (refine ⟨by omega, _, hgq, ?_⟩; conv => whnf) | (refine ⟨(rfl : (_ : Nat) = _), k + (n + 2), castB _ _, by omega, ?_⟩; conv => whnf) | (refine ⟨(rfl : (_ : Nat) = _), k + (n + 1), by omega, by omega, ?_⟩; conv => whnf) | (refine ⟨n + 1, _, by omega, getu (by omega), rfl, ?_⟩; conv => whnf) | (refine ⟨(g : Int), hmin, ?_⟩; conv => whnf) | (refine ⟨(rfl : (_ : Nat) = _), k + (n + 2) + 1, by omega, k + (n + 2) + 1, by omega, k, rfl, by omega, by omega, by omega, .inr (by simp), false, beq_no (by omega), ?_⟩; conv => whnf) | (refine ⟨rfl, _, w64 (by omega), ?_⟩; conv => whnf) | (refine ⟨rfl, _, wu64 (by omega), ?_⟩; conv => whnf) | (refine ⟨_, getu (by omega), ?_⟩; conv => whnf) | (refine ⟨_, wu64 (by omega), ?_⟩; conv => whnf) | (refine ⟨true, decide_eq_true (by omega), ?_⟩; conv => whnf) | (refine ⟨rfl, ?_⟩; conv => whnf))
    by_cases hlt2 : P < g * (b * s)
    · rw [decide_eq_true hlt2] at hsub
      refine ⟨List.not_mem_nil, _, _, hsub, by rw [List.length_map, List.length_map, hlenp _ (pad_len _ _)], ?_⟩
      conv => whnf
      repeat (first | (refine W.RS (by kernel_rfl) ?_; conv => whnf) | (refine W.block ?_) | (refine W.condT rfl ?_))
      refine W.loop (G := { p : Bool × Nat × List Nat // p.2.2.length = n + 3 ∧ Dg B9 p.2.2 ∧ (p.1 = false → nv B9 p.2.2 + p.2.1 * (b * s) = P + B9 ^ (n + 3) ∧ P < p.2.1 * (b * s) ∧ p.2.1 < 1000000000) ∧ (p.1 = true → nv B9 p.2.2 = P % (b * s) ∧ p.2.1 = P / (b * s)) })
        (fun p => mkA [(2, .ptr 0 0), (3, .ptr 1 0), (4, .ptr 2 0), (5, .ptr 3 0), (6, .ptr 4 0), (7, .iv (.sl ((dg (b * s)).map u32))), (8, .iv (.int .i64 ((n + 2 : Nat) : Int))), (9, .ref 5 0 (l.length + 1) true), (10, .ref 6 0 (l.length - (n + 1)) true), (11, .iv (.int .i64 (k : Int))), (13, .iv (.int .u64 (p.1.2.1 : Int))), (14, .ref 5 (0 + k) (k + (n + 2) + 1 - k) false), (15, .iv (.bool p.1.1))]
          [(0, .var (mag a)), (1, .var (mag b)), (2, .var (.agg [.sl []])), (3, .var (.agg [.sl []])), (4, .var (mag s)), (5, .arr 173 1 ((R.take k ++ p.1.2.2 ++ R.drop (k + (n + 3))).map u32) false), (6, .arr 173 1 (O.map u32) false)] 300) (fun p => bif p.1.1 then 0 else p.1.2.1)
        ⟨(false, g, pad (n + 3) (P + B9 ^ (n + 3) - g * (b * s))), pad_len _ _, pad_dg _ _, fun _ => ⟨by
            dsimp only
            rw [pad_nv, Nat.mod_eq_of_lt (by omega)]
            omega, hlt2, hg1⟩, fun e => by cases e⟩
        (Wk.tab [] ⟨⟨rfl, rfl⟩, ⟨rfl, rfl⟩, ⟨rfl, rfl⟩, ⟨rfl, rfl⟩, ⟨rfl, rfl⟩, ⟨rfl, rfl⟩, ⟨rfl, rfl⟩, ⟨rfl, rfl⟩, ⟨rfl, rfl⟩, ⟨rfl, rfl⟩, ⟨rfl, rfl⟩, ⟨rfl, rfl⟩, ⟨rfl, rfl⟩, trivial⟩ ⟨rfl, rfl, rfl, rfl, rfl, rfl, rfl, trivial⟩ rfl) ?_
      rintro ⟨⟨made, g', part⟩, hpl, hpd, hpf, hpt⟩
      dsimp only at hpl hpd hpf hpt
      show W J _ _ (mkA [(2, .ptr 0 0), (3, .ptr 1 0), (4, .ptr 2 0), (5, .ptr 3 0), (6, .ptr 4 0), (7, .iv (.sl ((dg (b * s)).map u32))), (8, .iv (.int .i64 ((n + 2 : Nat) : Int))), (9, .ref 5 0 (l.length + 1) true), (10, .ref 6 0 (l.length - (n + 1)) true), (11, .iv (.int .i64 (k : Int))), (13, .iv (.int .u64 (g' : Int))), (14, .ref 5 (0 + k) (k + (n + 2) + 1 - k) false), (15, .iv (.bool made))]
          [(0, .var (mag a)), (1, .var (mag b)), (2, .var (.agg [.sl []])), (3, .var (.agg [.sl []])), (4, .var (mag s)), (5, .arr 173 1 ((R.take k ++ part ++ R.drop (k + (n + 3))).map u32) false), (6, .arr 173 1 (O.map u32) false)] 300) _
      cases made with
      | true =>
        obtain ⟨hv1, hq1⟩ := hpt rfl
        have hq9 : P / (b * s) < 1000000000 := (Nat.div_lt_iff_lt_mul hVpos).2 (by simp only [B9] at p3; exact p3)
        repeat (first | (refine W.RS (by kernel_rfl) ?_; conv => whnf) | (refine W.R (by kernel_rfl) ?_; conv => whnf) | (refine W.S ?_) | (refine W.exit ?_; conv => whnf) | (refine W.condF rfl ?_) | (refine ⟨rfl, _, w64 (by omega), ?_⟩; conv => whnf) | (refine ⟨(rfl : (_ : Nat) = _), _, rfl, by omega, ?_⟩; conv => whnf) | (refine ⟨List.not_mem_nil, _, getu (by omega), ?_⟩; conv => whnf) | (refine ⟨_, w32 (by omega), ?_⟩; conv => whnf) | (refine ⟨false, beq_eq_false_iff_ne.2 (by omega), ?_⟩; conv => whnf))
        have he := hend part hpl hpd hv1 g' hq1
        exact ⟨⟨(k, R.take k ++ part ++ R.drop (k + (n + 3)), O.set k g'), he⟩,
          Wk.tab [] ⟨⟨rfl, rfl⟩, ⟨rfl, rfl⟩, ⟨rfl, rfl⟩, ⟨rfl, rfl⟩, ⟨rfl, rfl⟩, ⟨rfl, rfl⟩, ⟨rfl, rfl⟩, ⟨rfl, rfl⟩, ⟨rfl, rfl⟩, ⟨rfl, rfl⟩, trivial⟩ ⟨rfl, rfl, rfl, rfl, rfl, rfl, arrSet (by omega) (by omega), trivial⟩ rfl, by dsimp only; omega⟩
      | false =>
        obtain ⟨hv1, hl1, hg9⟩ := hpf rfl
        have hg0 : 0 < g' := by
          apply Classical.byContradiction
          intro hh
          have : g' = 0 := by omega
          rw [this, Nat.zero_mul] at hl1
          omega
        obtain ⟨g', rfl⟩ : ∃ j, g' = j + 1 := ⟨g' - 1, by omega⟩
        rw [Nat.add_mul, Nat.one_mul] at hv1 hl1
        have hgi := hgive part hpl hpd
        have hgl : ((R.take k ++ pad (n + 3) (nv B9 part + b * s) ++ R.drop (k + (n + 3))).map u32).length = ((R.take k ++ part ++ R.drop (k + (n + 3))).map u32).length := by
          rw [List.length_map, List.length_map, hlenp _ (pad_len _ _), hlenp _ hpl]
        by_cases hmd : B9 ^ (n + 3) ≤ nv B9 part + b * s
        · rw [decide_eq_true hmd] at hgi
          have hgood : nv B9 (pad (n + 3) (nv B9 part + b * s)) = P % (b * s) ∧ g' = P / (b * s) := by
            have e1 : g' * (b * s) ≤ P := by omega
            have e2 : nv B9 (pad (n + 3) (nv B9 part + b * s)) = P - g' * (b * s) := by
              rw [pad_nv, show nv B9 part + b * s = (P - g' * (b * s)) + B9 ^ (n + 3) by omega, Nat.add_mod_right, Nat.mod_eq_of_lt (by omega)]
            have e3 : g' = P / (b * s) := (Nat.div_eq_of_lt_le e1 (by rw [Nat.add_mul, Nat.one_mul]; exact hl1)).symm
            refine ⟨?_, e3⟩
            have e := Nat.div_add_mod P (b * s)
            rw [← e3, Nat.mul_comm] at e
            omega
          repeat (first | (refine W.RS (by kernel_rfl) ?_; conv => whnf) | (refine W.R (by kernel_rfl) ?_; conv => whnf) | (refine W.S ?_) | (refine W.block ?_) | (refine W.skip ?_; conv => whnf) | (refine W.condT rfl ?_) | (refine ⟨List.not_mem_nil, _, _, hgi, hgl, ?_⟩; conv => whnf) | (refine ⟨rfl, _, wu64 (by omega), ?_⟩; conv => whnf) | (refine ⟨_, rfl, ?_⟩; conv => whnf))
          refine ⟨⟨(true, g', pad (n + 3) (nv B9 part + b * s)), pad_len _ _, pad_dg _ _, fun e => (by cases e), fun _ => hgood⟩,
            Wk.tab [] ⟨⟨rfl, rfl⟩, ⟨rfl, rfl⟩, ⟨rfl, rfl⟩, ⟨rfl, rfl⟩, ⟨rfl, rfl⟩, ⟨rfl, rfl⟩, ⟨rfl, rfl⟩, ⟨rfl, rfl⟩, ⟨rfl, rfl⟩, ⟨rfl, rfl⟩, ⟨ivEq (by dsimp only; omega), rfl⟩, ⟨rfl, rfl⟩, ⟨rfl, rfl⟩, trivial⟩ ⟨rfl, rfl, rfl, rfl, rfl, rfl, rfl, trivial⟩ rfl, ?_⟩
          show 0 < g' + 1
          omega
        · rw [decide_eq_false hmd] at hgi
          have hgood : nv B9 (pad (n + 3) (nv B9 part + b * s)) + g' * (b * s) = P + B9 ^ (n + 3) ∧ P < g' * (b * s) ∧ g' < 1000000000 := by
            have e2 : nv B9 (pad (n + 3) (nv B9 part + b * s)) = nv B9 part + b * s := by
              rw [pad_nv, Nat.mod_eq_of_lt (by omega)]
            rw [e2]
            omega
          repeat (first | (refine W.RS (by kernel_rfl) ?_; conv => whnf) | (refine W.R (by kernel_rfl) ?_; conv => whnf) | (refine W.S ?_) | (refine W.block ?_) | (refine W.skip ?_; conv => whnf) | (refine W.condT rfl ?_) | (refine ⟨List.not_mem_nil, _, _, hgi, hgl, ?_⟩; conv => whnf) | (refine ⟨rfl, _, wu64 (by omega), ?_⟩; conv => whnf) | (refine ⟨_, rfl, ?_⟩; conv => whnf))
          refine ⟨⟨(false, g', pad (n + 3) (nv B9 part + b * s)), pad_len _ _, pad_dg _ _, fun _ => hgood, fun e => (by cases e)⟩,
            Wk.tab [] ⟨⟨rfl, rfl⟩, ⟨rfl, rfl⟩, ⟨rfl, rfl⟩, ⟨rfl, rfl⟩, ⟨rfl, rfl⟩, ⟨rfl, rfl⟩, ⟨rfl, rfl⟩, ⟨rfl, rfl⟩, ⟨rfl, rfl⟩, ⟨rfl, rfl⟩, ⟨ivEq (by dsimp only; omega), rfl⟩, ⟨rfl, rfl⟩, ⟨rfl, rfl⟩, trivial⟩ ⟨rfl, rfl, rfl, rfl, rfl, rfl, rfl, trivial⟩ rfl, ?_⟩
          show g' < g' + 1
          omega
    · rw [decide_eq_false hlt2] at hsub
      have hq : g = P / (b * s) := by
        have e := (Nat.le_div_iff_mul_le hVpos).2 (Nat.not_lt.1 hlt2)
        omega
      have hpv : nv B9 (pad (n + 3) (P + B9 ^ (n + 3) - g * (b * s))) = P % (b * s) := by
        rw [pad_nv, show P + B9 ^ (n + 3) - g * (b * s) = (P - g * (b * s)) + B9 ^ (n + 3) by omega, Nat.add_mod_right, Nat.mod_eq_of_lt (by omega)]
        have e := Nat.div_add_mod P (b * s)
        rw [← hq, Nat.mul_comm] at e
        omega
      refine ⟨List.not_mem_nil, _, _, hsub, by rw [List.length_map, List.length_map, hlenp _ (pad_len _ _)], ?_⟩
      repeat (first | (refine W.R (by kernel_rfl) ?_; conv => whnf) | (refine W.skip ?_; conv => whnf) | (refine W.condF rfl ?_) | (refine ⟨rfl, _, w64 (by omega), ?_⟩; conv => whnf) | (refine ⟨(rfl : (_ : Nat) = _), _, rfl, by omega, ?_⟩; conv => whnf) | (refine ⟨List.not_mem_nil, _, getu (by omega), ?_⟩; conv => whnf) | (refine ⟨_, w32 (by omega), ?_⟩; conv => whnf))
      have he := hend _ (pad_len _ _) (pad_dg _ _) hpv g hq
      exact ⟨⟨(k, R.take k ++ pad (n + 3) (P + B9 ^ (n + 3) - g * (b * s)) ++ R.drop (k + (n + 3)), O.set k (g)), he⟩,
        Wk.tab [] ⟨⟨rfl, rfl⟩, ⟨rfl, rfl⟩, ⟨rfl, rfl⟩, ⟨rfl, rfl⟩, ⟨rfl, rfl⟩, ⟨rfl, rfl⟩, ⟨rfl, rfl⟩, ⟨rfl, rfl⟩, ⟨rfl, rfl⟩, ⟨rfl, rfl⟩, trivial⟩ ⟨rfl, rfl, rfl, rfl, rfl, rfl, arrSet (by omega) (by omega), trivial⟩ rfl, by dsimp only; omega⟩
theorem f186_ok (J : Keep) {a b : Nat} (hb : 0 < b) (ha : ln a < 2 ^ 40) : C J 186 [mag a, mag b] (.tup [mag (a / b), mag (a % b)]) := by
  by_cases h : a < b ∨ b < 1000000000
  · exact f186_small J hb h (by omega)
  · exact f186_big J (by omega) (by omega) ha
end Go.Proofs.Fl
namespace Go.Proofs.Fl
open Go.RowKit Go.Proofs.Dig
attribute [local irreducible] IntKind.wrap PureC MutC MakC IterC
theorem ln_mono {a b : Nat} (h : a ≤ b) : ln a ≤ ln b := ln_le (Nat.lt_of_le_of_lt h (lt_ln b))
theorem ln_two {a : Nat} (h : ln a ≤ 2) : a < 1000000000000000000 := by
  have h1 := lt_ln a
  have h2 : B9 ^ ln a ≤ B9 ^ 2 := Nat.pow_le_pow_right (by decide) h
  have h3 : B9 ^ 2 = 1000000000000000000 := by decide
  omega
theorem ln_zero {a : Nat} (h : ln a = 0) : a = 0 := by
  have h1 := lt_ln a
  rw [h, Nat.pow_zero] at h1
  omega
theorem ln_pos {a : Nat} (h : 0 < a) : 0 < ln a := by
  apply Classical.byContradiction
  intro hh
  have := ln_zero (a := a) (by omega)
  omega
theorem f184_ok (J : Keep) (hw : ∀ n, ln n ≤ 2 → C J 135 [mag n] (.int .u64 n)) {a b : Nat} (ha : ln a < 2 ^ 40) (hb : ln b < 2 ^ 40) : C J 184 [mag a, mag b] (mag (Nat.gcd a b)) := by
  refine fn_ok Tryz.func184 rfl rfl rfl ?_
  repeat (first | (refine W.RS (by kernel_rfl) ?_; conv => whnf) | (refine W.S ?_) | (refine W.block ?_))
  refine W.loop (G := { p : Nat × Nat // Nat.gcd p.1 p.2 = Nat.gcd a b ∧ ln p.1 < 2 ^ 40 ∧ ln p.2 < 2 ^ 40 }) (fun p => mkA [(2, .ptr 0 0), (3, .ptr 1 0), (4, .ptr 2 0)] [(0, .var (mag p.1.1)), (1, .var (mag p.1.2)), (2, .var (.agg [.sl []]))] 10) (fun p => p.1.2)
    ⟨(a, b), rfl, ha, hb⟩ (Wk.tab [] ⟨⟨rfl, rfl⟩, ⟨rfl, rfl⟩, ⟨rfl, rfl⟩, trivial⟩ ⟨rfl, rfl, rfl, trivial⟩ rfl) ?_
  rintro ⟨⟨x, y⟩, hg, hx, hy⟩
  dsimp only at hg hx hy
  show W J _ _ (mkA [(2, .ptr 0 0), (3, .ptr 1 0), (4, .ptr 2 0)] [(0, .var (mag x)), (1, .var (mag y)), (2, .var (.agg [.sl []]))] 10) _
  have lx : ((dg x).map u32).length = ln x := by simp [ln]
  have ly : ((dg y).map u32).length = ln y := by simp [ln]
  by_cases h0 : y = 0
  · have hly : ln y = 0 := by subst h0; unfold ln; rw [dg_zero]; rfl
    have hz : ((((dg y).map u32).length : Int) == 0) = true := by rw [ly, hly]; rfl
    have hz2 := f163_ok J ((dg y).map u32)
    rw [hz] at hz2
    repeat (first | (refine W.RS (by kernel_rfl) ?_; conv => whnf) | (refine W.S ?_) | (refine W.ret ?_; conv => whnf) | (refine W.exit ?_; conv => whnf) | (refine W.condF rfl ?_) | (refine ⟨_, hz2, ?_⟩; conv => whnf) | (refine ⟨_, rfl, ?_⟩; conv => whnf))
    rw [← hg, h0, Nat.gcd_zero_right]
    rfl
  · have hlp := ln_pos (a := y) (by omega)
    have hz : ((((dg y).map u32).length : Int) == 0) = false := by rw [ly]; exact beq_eq_false_iff_ne.2 (by omega)
    have hz2 := f163_ok J ((dg y).map u32)
    rw [hz] at hz2
    have hbig : C J 186 [mag x, mag y] (.tup [mag (x / y), mag (x % y)]) := f186_ok J (by omega) hx
    have hym : x % y < y := Nat.mod_lt _ (by omega)
    have hgn : Nat.gcd y (x % y) = Nat.gcd a b := by rw [← hg, Nat.gcd_comm x y, Nat.gcd_rec y x, Nat.gcd_comm]
    have hlm : ln (x % y) < 2 ^ 40 := Nat.lt_of_le_of_lt (ln_mono (Nat.le_of_lt hym)) hy
    by_cases h1 : ln x ≤ 2
    · by_cases h2 : ln y ≤ 2
      · have bx := ln_two h1
        have bY := ln_two h2
        repeat (first | (refine W.RS (by kernel_rfl) ?_; conv => whnf) | (refine W.S ?_) | (refine W.block ?_) | (refine W.skip ?_; conv => whnf) | (refine W.condT rfl ?_) | (refine ⟨_, hz2, ?_⟩; conv => whnf) | (refine ⟨_, hw x h1, ?_⟩; conv => whnf) | (refine ⟨_, hw y h2, ?_⟩; conv => whnf) | (refine ⟨true, decide_eq_true (by omega), ?_⟩; conv => whnf) | (refine ⟨_, rfl, ?_⟩; conv => whnf) | (refine ⟨rfl, ?_⟩; conv => whnf) | (refine ⟨_, fun _ => rfl, fun h => absurd h.symm Bool.false_ne_true, ?_⟩; conv => whnf))
        refine W.loop (G := { p : Nat × Nat // Nat.gcd p.1 p.2 = Nat.gcd a b ∧ p.1 < 1000000000000000000 ∧ p.2 < 1000000000000000000 }) (fun p => mkA [(2, .ptr 0 0), (3, .ptr 1 0), (4, .ptr 2 0), (5, .iv (.int .u64 (p.1.1 : Int))), (6, .iv (.int .u64 (p.1.2 : Int)))] [(0, .var (mag x)), (1, .var (mag y)), (2, .var (.agg [.sl []]))] 40) (fun p => p.1.2)
          ⟨(x, y), hg, bx, bY⟩ (Wk.tab [] ⟨⟨rfl, rfl⟩, ⟨rfl, rfl⟩, ⟨rfl, rfl⟩, ⟨rfl, rfl⟩, ⟨rfl, rfl⟩, trivial⟩ ⟨rfl, rfl, rfl, trivial⟩ rfl) ?_
        rintro ⟨⟨u, v⟩, hg2, hu, hv⟩
        dsimp only at hg2 hu hv
        show W J _ _ (mkA [(2, .ptr 0 0), (3, .ptr 1 0), (4, .ptr 2 0), (5, .iv (.int .u64 (u : Int))), (6, .iv (.int .u64 (v : Int)))] [(0, .var (mag x)), (1, .var (mag y)), (2, .var (.agg [.sl []]))] 40) _
        by_cases h3 : v = 0
        · subst h3
          repeat (first | (refine W.RS (by kernel_rfl) ?_; conv => whnf) | (refine W.S ?_) | (refine W.ret ?_; conv => whnf) | (refine W.exit ?_; conv => whnf) | (refine W.condF rfl ?_) | (refine ⟨_, f134_ok J (n := u) (by omega), ?_⟩; conv => whnf) | (refine ⟨false, bne_eq_false_iff_eq.2 (by omega), ?_⟩; conv => whnf) | (refine ⟨rfl, ?_⟩; conv => whnf))
          rw [← hg2, Nat.gcd_zero_right]
          rfl
        · have hvm : u % v < v := Nat.mod_lt _ (by omega)
          have hm := tmodN u v
          obtain ⟨r, hr⟩ : ∃ r, u % v = r := ⟨_, rfl⟩
          rw [hr] at hm hvm
          repeat (first | (refine W.RS (by kernel_rfl) ?_; conv => whnf) | (refine W.R (by kernel_rfl) ?_; conv => whnf) | (refine W.S ?_) | (refine W.block ?_) | (refine W.skip ?_; conv => whnf) | (refine W.condT rfl ?_) | (refine ⟨by omega, _, hm, ?_⟩; conv => whnf) | (refine ⟨true, bne_iff_ne.2 (by omega), ?_⟩; conv => whnf) | (refine ⟨rfl, ?_⟩; conv => whnf))
          exact ⟨⟨(v, r), by rw [← hg2, ← hr, Nat.gcd_comm u v, Nat.gcd_rec v u, Nat.gcd_comm], hv, by dsimp only; omega⟩, Wk.tab [] ⟨⟨rfl, rfl⟩, ⟨rfl, rfl⟩, ⟨rfl, rfl⟩, ⟨rfl, rfl⟩, ⟨rfl, rfl⟩, trivial⟩ ⟨rfl, rfl, rfl, trivial⟩ rfl, hvm⟩
      · repeat (first | (refine W.RS (by kernel_rfl) ?_; conv => whnf) | (refine W.R (by kernel_rfl) ?_; conv => whnf) | (refine W.S ?_) | (refine W.block ?_) | (refine W.skip ?_; conv => whnf) | (refine W.condF rfl ?_) | (refine W.condT rfl ?_) | (refine ⟨_, hz2, ?_⟩; conv => whnf) | (refine ⟨_, hbig, ?_⟩; conv => whnf) | (refine ⟨true, decide_eq_true (by omega), ?_⟩; conv => whnf) | (refine ⟨false, decide_eq_false (by omega), ?_⟩; conv => whnf) | (refine ⟨_, rfl, ?_⟩; conv => whnf) | (refine ⟨rfl, ?_⟩; conv => whnf) | (refine ⟨_, fun _ => rfl, fun h => absurd h.symm Bool.false_ne_true, ?_⟩; conv => whnf))
        exact ⟨⟨(y, x % y), hgn, hy, hlm⟩, Wk.tab [] ⟨⟨rfl, rfl⟩, ⟨rfl, rfl⟩, ⟨rfl, rfl⟩, trivial⟩ ⟨rfl, rfl, rfl, trivial⟩ rfl, hym⟩
    · repeat (first | (refine W.RS (by kernel_rfl) ?_; conv => whnf) | (refine W.R (by kernel_rfl) ?_; conv => whnf) | (refine W.S ?_) | (refine W.block ?_) | (refine W.skip ?_; conv => whnf) | (refine W.condF rfl ?_) | (refine W.condT rfl ?_) | (refine ⟨_, hz2, ?_⟩; conv => whnf) | (refine ⟨_, hbig, ?_⟩; conv => whnf) | (refine ⟨false, decide_eq_false (by omega), ?_⟩; conv => whnf) | (refine ⟨_, rfl, ?_⟩; conv => whnf) | (refine ⟨rfl, ?_⟩; conv => whnf) | (refine ⟨_, fun h => absurd h Bool.false_ne_true, fun _ => rfl, ?_⟩; conv => whnf))
      exact ⟨⟨(y, x % y), hgn, hy, hlm⟩, Wk.tab [] ⟨⟨rfl, rfl⟩, ⟨rfl, rfl⟩, ⟨rfl, rfl⟩, trivial⟩ ⟨rfl, rfl, rfl, trivial⟩ rfl, hym⟩
end Go.Proofs.Fl
namespace Go.Proofs.Fl
open Go.RowKit Go.Proofs.Dig
attribute [local irreducible] IntKind.wrap PureC MutC MakC IterC
theorem varEq {x y : Nat} (h : x = y) : some (Bx.var (mag x)) = some (Bx.var (mag y)) := by rw [h]
theorem ln_one : ln 1 = 1 := by
  have h1 := ln_le (n := 1) (k := 1) (by decide)
  have h2 := ln_pos (a := 1) (by omega)
  omega
theorem ln_pow (a k : Nat) : ln (a ^ k) ≤ k * ln a + 1 := by
  induction k with
  | zero => rw [Nat.pow_zero, ln_one]; omega
  | succ k ih =>
    have h1 := ln_le (n := a ^ (k + 1)) (k := (k + 1) * ln a + 1) (by
      have e : ∀ k, a ^ (k + 1) < B9 ^ ((k + 1) * ln a + 1) := fun k => by
        rw [Nat.mul_comm, Nat.pow_succ B9, Nat.pow_mul]
        have h2 : a ^ (k + 1) ≤ (B9 ^ ln a) ^ (k + 1) := Nat.pow_le_pow_left (Nat.le_of_lt (lt_ln a)) _
        have h3 : 0 < (B9 ^ ln a) ^ (k + 1) := Nat.pow_pos (Nat.pow_pos (by decide))
        have h4 : (B9 ^ ln a) ^ (k + 1) * 2 ≤ (B9 ^ ln a) ^ (k + 1) * B9 := Nat.mul_le_mul_left _ (by decide)
        omega
      exact e k)
    exact h1
theorem f137_ok (J : Keep) {a n : Nat} (hn : n < 2 ^ 30) (hl : (n + 1) * ln a < 2 ^ 40) : C J 137 [mag a, .int .i64 n] (mag (a ^ n)) := by
  refine fn_ok Tryz.func137 rfl rfl rfl ?_
  repeat (first | (refine W.RS (by kernel_rfl) ?_; conv => whnf) | (refine W.S ?_) | (refine W.block ?_) | (refine ⟨_, f134_ok J (n := 1) (by omega), ?_⟩; conv => whnf))
  refine W.loop (G := { p : Nat × Nat × Nat // p.1 + p.2.1 * p.2.2 = n ∧ p.2.1 ≤ n + 1 ∧ p.2.2 ≤ n }) (fun p => mkA [(1, .iv (.int .i64 (p.1.2.2 : Int))), (2, .ptr 0 0), (4, .ptr 1 0), (5, .ptr 2 0)] [(0, .var (mag (a ^ p.1.2.1))), (1, .var (.agg [.sl []])), (2, .var (mag (a ^ p.1.1)))] 10) (fun p => p.1.2.2)
    ⟨(0, 1, n), by dsimp only; omega, by dsimp only; omega, Nat.le_refl _⟩ (Wk.tab [(2, 3)] ⟨⟨rfl, rfl⟩, ⟨rfl, rfl⟩, ⟨rfl, rfl⟩, ⟨rfl, rfl⟩, trivial⟩ ⟨varEq (by rw [Nat.pow_one]), rfl, varEq (by rw [Nat.pow_zero]), trivial⟩ rfl) ?_
  rintro ⟨⟨u, w, m⟩, he, hw, hmn⟩
  dsimp only at he hw hmn
  show W J _ _ (mkA [(1, .iv (.int .i64 (m : Int))), (2, .ptr 0 0), (4, .ptr 1 0), (5, .ptr 2 0)] [(0, .var (mag (a ^ w))), (1, .var (.agg [.sl []])), (2, .var (mag (a ^ u)))] 10) _
  have hu : u ≤ n := by omega
  have l1 : ln (a ^ u) ≤ 2 ^ 40 + 1 := by
    have h1 := ln_pow a u
    have h2 : u * ln a ≤ (n + 1) * ln a := Nat.mul_le_mul_right _ (by omega)
    omega
  have l2 : ln (a ^ w) ≤ 2 ^ 40 + 1 := by
    have h1 := ln_pow a w
    have h2 : w * ln a ≤ (n + 1) * ln a := Nat.mul_le_mul_right _ hw
    omega
  have hm2 : (m : Int).tmod 2 = ((m % 2 : Nat) : Int) := tmodN m 2
  have hq2 : IntKind.wrap .i64 ((m : Int).tdiv 2) = ((m / 2 : Nat) : Int) := by
    rw [show (2 : Int) = ((2 : Nat) : Int) from rfl, tdivN]
    exact w64 (by omega)
  obtain ⟨q, hq⟩ : ∃ q, m / 2 = q := ⟨_, rfl⟩
  obtain ⟨r, hr⟩ : ∃ r, m % 2 = r := ⟨_, rfl⟩
  rw [hq] at hq2
  rw [hr] at hm2
  have c1 : C J 136 [mag (a ^ u), mag (a ^ w)] (mag (a ^ (u + w))) := by
    rw [Nat.pow_add]; exact f136_ok J (by omega)
  have c2 : C J 136 [mag (a ^ w), mag (a ^ w)] (mag (a ^ (w + w))) := by
    rw [Nat.pow_add]; exact f136_ok J (by omega)
  have hww : w * m = 2 * (w * q) + w * r := by
    have : m = 2 * q + r := by omega
    rw [this, Nat.mul_add, Nat.mul_left_comm]
  have hdd : (w + w) * q = 2 * (w * q) := by rw [← Nat.two_mul, Nat.mul_assoc]
  have hle : w * 2 ≤ w * m ∨ m < 2 := by
    rcases Nat.lt_or_ge m 2 with h | h
    · exact .inr h
    · exact .inl (Nat.mul_le_mul_left _ h)
  by_cases h0 : m = 0
  · subst h0
    repeat (first | (refine W.RS (by kernel_rfl) ?_; conv => whnf) | (refine W.S ?_) | (refine W.ret ?_; conv => whnf) | (refine W.exit ?_; conv => whnf) | (refine W.condF rfl ?_) | (refine ⟨false, decide_eq_false (by omega), ?_⟩; conv => whnf) | (refine ⟨rfl, ?_⟩; conv => whnf))
    rw [show n = u by omega]
    rfl
  · by_cases h1 : r = 1
    · rw [h1, Nat.mul_one] at hww
      by_cases h2 : m = 1
      · have hq0 : q = 0 := by omega
        rw [hq0, Nat.mul_zero] at hww
        repeat (first | (refine W.RS (by kernel_rfl) ?_; conv => whnf) | (refine W.R (by kernel_rfl) ?_; conv => whnf) | (refine W.S ?_) | (refine W.block ?_) | (refine W.skip ?_; conv => whnf) | (refine W.condF rfl ?_) | (refine W.condT rfl ?_) | (refine ⟨by omega, _, hm2, ?_⟩; conv => whnf) | (refine ⟨_, c1, ?_⟩; conv => whnf) | (refine ⟨by omega, _, hq2, ?_⟩; conv => whnf) | (refine ⟨true, decide_eq_true (by omega), ?_⟩; conv => whnf) | (refine ⟨false, decide_eq_false (by omega), ?_⟩; conv => whnf) | (refine ⟨rfl, ?_⟩; conv => whnf))
        exact ⟨⟨(u + w, w, q), by dsimp only; rw [hq0, Nat.mul_zero]; omega, hw, by dsimp only; omega⟩, Wk.tab [] ⟨⟨rfl, rfl⟩, ⟨rfl, rfl⟩, ⟨rfl, rfl⟩, ⟨rfl, rfl⟩, trivial⟩ ⟨rfl, rfl, rfl, trivial⟩ rfl, by dsimp only; omega⟩
      · repeat (first | (refine W.RS (by kernel_rfl) ?_; conv => whnf) | (refine W.R (by kernel_rfl) ?_; conv => whnf) | (refine W.S ?_) | (refine W.block ?_) | (refine W.skip ?_; conv => whnf) | (refine W.condT rfl ?_) | (refine ⟨by omega, _, hm2, ?_⟩; conv => whnf) | (refine ⟨_, c1, ?_⟩; conv => whnf) | (refine ⟨_, c2, ?_⟩; conv => whnf) | (refine ⟨by omega, _, hq2, ?_⟩; conv => whnf) | (refine ⟨true, decide_eq_true (by omega), ?_⟩; conv => whnf) | (refine ⟨rfl, ?_⟩; conv => whnf))
        exact ⟨⟨(u + w, w + w, q), by dsimp only; omega, by dsimp only; omega, by dsimp only; omega⟩, Wk.tab [] ⟨⟨rfl, rfl⟩, ⟨rfl, rfl⟩, ⟨rfl, rfl⟩, ⟨rfl, rfl⟩, trivial⟩ ⟨rfl, rfl, rfl, trivial⟩ rfl, by dsimp only; omega⟩
    · have hr0 : r = 0 := by omega
      rw [hr0, Nat.mul_zero] at hww
      repeat (first | (refine W.RS (by kernel_rfl) ?_; conv => whnf) | (refine W.R (by kernel_rfl) ?_; conv => whnf) | (refine W.S ?_) | (refine W.block ?_) | (refine W.skip ?_; conv => whnf) | (refine W.condF rfl ?_) | (refine W.condT rfl ?_) | (refine ⟨by omega, _, hm2, ?_⟩; conv => whnf) | (refine ⟨_, c2, ?_⟩; conv => whnf) | (refine ⟨by omega, _, hq2, ?_⟩; conv => whnf) | (refine ⟨true, decide_eq_true (by omega), ?_⟩; conv => whnf) | (refine ⟨false, decide_eq_false (by omega), ?_⟩; conv => whnf) | (refine ⟨rfl, ?_⟩; conv => whnf))
      exact ⟨⟨(u, w + w, q), by dsimp only; omega, by dsimp only; omega, by dsimp only; omega⟩, Wk.tab [] ⟨⟨rfl, rfl⟩, ⟨rfl, rfl⟩, ⟨rfl, rfl⟩, ⟨rfl, rfl⟩, trivial⟩ ⟨rfl, rfl, rfl, trivial⟩ rfl, by dsimp only; omega⟩
end Go.Proofs.Fl
namespace Go.Proofs.Fl
open Go.RowKit Go.Proofs.Dig
attribute [local irreducible] IntKind.wrap PureC MutC MakC IterC
theorem f163_mag (J : Keep) (n : Nat) : C J 163 [mag n] (.bool (decide (n = 0))) := by
  have h := f163_ok J ((dg n).map u32)
  have e : ((((dg n).map u32).length : Int) == 0) = decide (n = 0) := by
    rw [Bool.eq_iff_iff]
    simp only [List.length_map, beq_iff_eq, decide_eq_true_eq]
    constructor
    · intro h0; exact ln_zero (a := n) (by unfold ln; omega)
    · rintro rfl; rw [dg_zero]; rfl
  rw [e] at h
  exact h
noncomputable abbrev sg (m : Bool) (n : Nat) : IV := .agg [.sl ((dg n).map u32), .bool m]
def sv (m : Bool) (n : Nat) : Int := if m then -(n : Int) else (n : Int)
noncomputable abbrev zd (z : Int) : IV := sg (decide (z < 0)) z.natAbs
theorem sv_neg (z : Int) : sv (decide (z < 0)) z.natAbs = z := by
  unfold sv
  by_cases h : z < 0
  · simp [h]; omega
  · simp [h]; omega
theorem zd_sv {m : Bool} {n : Nat} (h : m = true → n ≠ 0) : zd (sv m n) = sg m n := by
  unfold sv
  cases m with
  | true =>
    have := h rfl
    simp only [if_true]
    have e1 : decide (-(n : Int) < 0) = true := decide_eq_true (by omega)
    have e2 : (-(n : Int)).natAbs = n := by omega
    rw [zd, e1, e2]
  | false =>
    simp only [Bool.false_eq_true, if_false]
    have e1 : decide ((n : Int) < 0) = false := decide_eq_false (by omega)
    rw [zd, e1, Int.natAbs_natCast]
theorem zd_neg_zero : zd (sv true 0) = sg false 0 := by
  have : sv true 0 = sv false 0 := by simp [sv]
  rw [this]; exact zd_sv (by simp)
theorem f130_ok (J : Keep) (m : Bool) (n : Nat) : C J 130 [.bool m, mag n] (zd (sv m n)) := by
  refine fn_ok Tryz.func130 rfl rfl rfl ?_
  have hz := f163_mag J n
  cases m with
  | false =>
    rw [zd_sv (by simp)]
    repeat (first | (refine W.RS (by kernel_rfl) ?_; conv => whnf) | (refine W.ret ?_; conv => whnf) | (refine ⟨rfl, ?_⟩; conv => whnf) | (refine ⟨_, fun h => absurd h Bool.false_ne_true, fun _ => rfl, ?_⟩; conv => whnf))
    rfl
  | true =>
    by_cases h0 : n = 0
    · subst h0
      rw [zd_neg_zero]
      repeat (first | (refine W.RS (by kernel_rfl) ?_; conv => whnf) | (refine W.ret ?_; conv => whnf) | (refine ⟨_, hz, ?_⟩; conv => whnf) | (refine ⟨_, rfl, ?_⟩; conv => whnf) | (refine ⟨rfl, ?_⟩; conv => whnf) | (refine ⟨_, fun _ => rfl, fun h => absurd h.symm Bool.false_ne_true, ?_⟩; conv => whnf))
      rfl
    · rw [decide_eq_false h0] at hz
      rw [zd_sv (fun _ => h0)]
      repeat (first | (refine W.RS (by kernel_rfl) ?_; conv => whnf) | (refine W.ret ?_; conv => whnf) | (refine ⟨_, hz, ?_⟩; conv => whnf) | (refine ⟨_, rfl, ?_⟩; conv => whnf) | (refine ⟨rfl, ?_⟩; conv => whnf) | (refine ⟨_, fun _ => rfl, fun h => absurd h.symm Bool.false_ne_true, ?_⟩; conv => whnf))
      rfl
theorem f149_ok (J : Keep) (z : Int) : C J 149 [zd z] (.int .i64 (cmpI z 0)) := by
  refine fn_ok Tryz.func149 rfl rfl rfl ?_
  have hz := f163_mag J z.natAbs
  by_cases h0 : z = 0
  · subst h0
    repeat (first | (refine W.RS (by kernel_rfl) ?_; conv => whnf) | (refine W.S ?_) | (refine W.block ?_) | (refine W.ret ?_; conv => whnf) | (refine W.condT rfl ?_) | (refine ⟨_, hz, ?_⟩; conv => whnf))
    rfl
  · rw [decide_eq_false (show ¬ z.natAbs = 0 by omega)] at hz
    by_cases h1 : z < 0
    · rw [zd, decide_eq_true h1]
      repeat (first | (refine W.RS (by kernel_rfl) ?_; conv => whnf) | (refine W.S ?_) | (refine W.block ?_) | (refine W.ret ?_; conv => whnf) | (refine W.condF rfl ?_) | (refine W.condT rfl ?_) | (refine ⟨_, hz, ?_⟩; conv => whnf))
      simp [oneOf, cmpI, h1]
    · rw [zd, decide_eq_false h1]
      repeat (first | (refine W.RS (by kernel_rfl) ?_; conv => whnf) | (refine W.S ?_) | (refine W.block ?_) | (refine W.ret ?_; conv => whnf) | (refine W.skip ?_; conv => whnf) | (refine W.condF rfl ?_) | (refine ⟨_, hz, ?_⟩; conv => whnf))
      simp [oneOf, cmpI, h1]; omega
theorem f171_ok (J : Keep) {m m' : Bool} {n n' : Nat} (h : ln n + ln n' < 2 ^ 44) : C J 171 [sg m n, sg m' n'] (zd (sv m n * sv m' n')) := by
  refine fn_ok Tryz.func171 rfl rfl rfl ?_
  have hm := f136_ok J h
  cases m <;> cases m'
  · have e : sv false n * sv false n' = sv false (n * n') := by simp [sv]
    rw [e]
    repeat (first | (refine W.RS (by kernel_rfl) ?_; conv => whnf) | (refine W.ret ?_; conv => whnf) | (refine ⟨_, hm, ?_⟩; conv => whnf) | (refine ⟨_, f130_ok J _ _, ?_⟩; conv => whnf) | (refine ⟨_, rfl, ?_⟩; conv => whnf) | (refine ⟨rfl, ?_⟩; conv => whnf))
    rfl
  · have e : sv false n * sv true n' = sv true (n * n') := by simp [sv, Int.mul_neg]
    rw [e]
    repeat (first | (refine W.RS (by kernel_rfl) ?_; conv => whnf) | (refine W.ret ?_; conv => whnf) | (refine ⟨_, hm, ?_⟩; conv => whnf) | (refine ⟨_, f130_ok J _ _, ?_⟩; conv => whnf) | (refine ⟨_, rfl, ?_⟩; conv => whnf) | (refine ⟨rfl, ?_⟩; conv => whnf))
    rfl
  · have e : sv true n * sv false n' = sv true (n * n') := by simp [sv, Int.neg_mul]
    rw [e]
    repeat (first | (refine W.RS (by kernel_rfl) ?_; conv => whnf) | (refine W.ret ?_; conv => whnf) | (refine ⟨_, hm, ?_⟩; conv => whnf) | (refine ⟨_, f130_ok J _ _, ?_⟩; conv => whnf) | (refine ⟨_, rfl, ?_⟩; conv => whnf) | (refine ⟨rfl, ?_⟩; conv => whnf))
    rfl
  · have e : sv true n * sv true n' = sv false (n * n') := by simp [sv, Int.neg_mul_neg]
    rw [e]
    repeat (first | (refine W.RS (by kernel_rfl) ?_; conv => whnf) | (refine W.ret ?_; conv => whnf) | (refine ⟨_, hm, ?_⟩; conv => whnf) | (refine ⟨_, f130_ok J _ _, ?_⟩; conv => whnf) | (refine ⟨_, rfl, ?_⟩; conv => whnf) | (refine ⟨rfl, ?_⟩; conv => whnf))
    rfl
end Go.Proofs.Fl
namespace Go.Proofs.Fl
open Go.RowKit Go.Proofs.Dig
attribute [local irreducible] IntKind.wrap PureC MutC MakC IterC
theorem f133_mag (J : Keep) {a b : Nat} (h : ln a < 2 ^ 60) : C J 133 [mag a, mag b] (.int .i64 (cmpI a b)) := by
  have := f133_ok J (dg_ok a) (dg_ok b) h
  rwa [cmpL_dg] at this
theorem f172_ok (J : Keep) {m m' : Bool} {n n' : Nat} (h : ln n < 2 ^ 44) (h' : ln n' < 2 ^ 44) : C J 172 [sg m n, sg m' n'] (zd (sv m n + sv m' n')) := by
  refine fn_ok Tryz.func172 rfl rfl rfl ?_
  have hp := f205_ok J h h'
  have hc := f133_mag J (a := n) (b := n') (by omega)
  cases m <;> cases m'
  · have e : sv false n + sv false n' = sv false (n + n') := by simp [sv]
    rw [e]
    repeat (first | (refine W.RS (by kernel_rfl) ?_; conv => whnf) | (refine W.S ?_) | (refine W.block ?_) | (refine W.ret ?_; conv => whnf) | (refine W.condT rfl ?_) | (refine ⟨_, hp, ?_⟩; conv => whnf) | (refine ⟨_, f130_ok J _ _, ?_⟩; conv => whnf) | (refine ⟨_, rfl, ?_⟩; conv => whnf) | (refine ⟨rfl, ?_⟩; conv => whnf))
    rfl
  · by_cases hlt : n < n'
    · have e : sv false n + sv true n' = sv true (n' - n) := by simp [sv]; omega
      rw [e]
      rw [cmpI_lt hlt] at hc
      have hl := f173_ok J (Nat.le_of_lt hlt) h'
      repeat (first | (refine W.RS (by kernel_rfl) ?_; conv => whnf) | (refine W.S ?_) | (refine W.block ?_) | (refine W.ret ?_; conv => whnf) | (refine W.condF rfl ?_) | (refine W.condT rfl ?_) | (refine ⟨_, hc, ?_⟩; conv => whnf) | (refine ⟨_, hl, ?_⟩; conv => whnf) | (refine ⟨_, f130_ok J _ _, ?_⟩; conv => whnf) | (refine ⟨true, decide_eq_true (by omega), ?_⟩; conv => whnf) | (refine ⟨_, rfl, ?_⟩; conv => whnf) | (refine ⟨rfl, ?_⟩; conv => whnf))
      rfl
    · have e : sv false n + sv true n' = sv false (n - n') := by simp [sv]; omega
      rw [e]
      have hge := cmpI_ge (Nat.not_lt.1 hlt)
      have hl := f173_ok J (Nat.not_lt.1 hlt) h
      repeat (first | (refine W.RS (by kernel_rfl) ?_; conv => whnf) | (refine W.S ?_) | (refine W.block ?_) | (refine W.ret ?_; conv => whnf) | (refine W.skip ?_; conv => whnf) | (refine W.condF rfl ?_) | (refine ⟨_, hc, ?_⟩; conv => whnf) | (refine ⟨_, hl, ?_⟩; conv => whnf) | (refine ⟨_, f130_ok J _ _, ?_⟩; conv => whnf) | (refine ⟨false, decide_eq_false (by omega), ?_⟩; conv => whnf) | (refine ⟨_, rfl, ?_⟩; conv => whnf) | (refine ⟨rfl, ?_⟩; conv => whnf))
      rfl
  · by_cases hlt : n < n'
    · have e : sv true n + sv false n' = sv false (n' - n) := by simp [sv]; omega
      rw [e]
      rw [cmpI_lt hlt] at hc
      have hl := f173_ok J (Nat.le_of_lt hlt) h'
      repeat (first | (refine W.RS (by kernel_rfl) ?_; conv => whnf) | (refine W.S ?_) | (refine W.block ?_) | (refine W.ret ?_; conv => whnf) | (refine W.condF rfl ?_) | (refine W.condT rfl ?_) | (refine ⟨_, hc, ?_⟩; conv => whnf) | (refine ⟨_, hl, ?_⟩; conv => whnf) | (refine ⟨_, f130_ok J _ _, ?_⟩; conv => whnf) | (refine ⟨true, decide_eq_true (by omega), ?_⟩; conv => whnf) | (refine ⟨_, rfl, ?_⟩; conv => whnf) | (refine ⟨rfl, ?_⟩; conv => whnf))
      rfl
    · have e : sv true n + sv false n' = sv true (n - n') := by simp [sv]; omega
      rw [e]
      have hge := cmpI_ge (Nat.not_lt.1 hlt)
      have hl := f173_ok J (Nat.not_lt.1 hlt) h
      repeat (first | (refine W.RS (by kernel_rfl) ?_; conv => whnf) | (refine W.S ?_) | (refine W.block ?_) | (refine W.ret ?_; conv => whnf) | (refine W.skip ?_; conv => whnf) | (refine W.condF rfl ?_) | (refine ⟨_, hc, ?_⟩; conv => whnf) | (refine ⟨_, hl, ?_⟩; conv => whnf) | (refine ⟨_, f130_ok J _ _, ?_⟩; conv => whnf) | (refine ⟨false, decide_eq_false (by omega), ?_⟩; conv => whnf) | (refine ⟨_, rfl, ?_⟩; conv => whnf) | (refine ⟨rfl, ?_⟩; conv => whnf))
      rfl
  · have e : sv true n + sv true n' = sv true (n + n') := by simp [sv]; omega
    rw [e]
    repeat (first | (refine W.RS (by kernel_rfl) ?_; conv => whnf) | (refine W.S ?_) | (refine W.block ?_) | (refine W.ret ?_; conv => whnf) | (refine W.condT rfl ?_) | (refine ⟨_, hp, ?_⟩; conv => whnf) | (refine ⟨_, f130_ok J _ _, ?_⟩; conv => whnf) | (refine ⟨_, rfl, ?_⟩; conv => whnf) | (refine ⟨rfl, ?_⟩; conv => whnf))
    rfl
theorem f178_ok (J : Keep) {m : Bool} {n d : Nat} (hd : 0 < d) (h : ln n < 2 ^ 40) : C J 178 [sg m n, mag d] (zd (sv m n / (d : Int))) := by
  refine fn_ok Tryz.func178 rfl rfl rfl ?_
  have ho := f186_ok J hd h
  have hz := f163_mag J (n % d)
  have hdm := Nat.div_add_mod n d
  have hml := Nat.mod_lt n hd
  have hlq : ln (n / d) < 2 ^ 44 := Nat.lt_of_le_of_lt (ln_mono (Nat.div_le_self _ _)) (by omega)
  have h1 : ln 1 < 2 ^ 44 := by rw [ln_one]; omega
  cases m with
  | false =>
    have e : sv false n / (d : Int) = sv false (n / d) := by simp [sv]
    rw [e]
    repeat (first | (refine W.RS (by kernel_rfl) ?_; conv => whnf) | (refine W.S ?_) | (refine W.ret ?_; conv => whnf) | (refine W.skip ?_; conv => whnf) | (refine W.condF rfl ?_) | (refine ⟨_, ho, ?_⟩; conv => whnf) | (refine ⟨_, f130_ok J _ _, ?_⟩; conv => whnf) | (refine ⟨_, fun h => absurd h Bool.false_ne_true, fun _ => rfl, ?_⟩; conv => whnf))
    rfl
  | true =>
    by_cases h0 : n % d = 0
    · rw [decide_eq_true h0] at hz
      have e : sv true n / (d : Int) = sv true (n / d) := by
        simp only [sv, if_true]
        rw [Int.neg_ediv_of_dvd (Int.natCast_dvd_natCast.2 (Nat.dvd_of_mod_eq_zero h0))]
        rfl
      rw [e]
      repeat (first | (refine W.RS (by kernel_rfl) ?_; conv => whnf) | (refine W.S ?_) | (refine W.ret ?_; conv => whnf) | (refine W.skip ?_; conv => whnf) | (refine W.condF rfl ?_) | (refine ⟨_, ho, ?_⟩; conv => whnf) | (refine ⟨_, hz, ?_⟩; conv => whnf) | (refine ⟨_, f130_ok J _ _, ?_⟩; conv => whnf) | (refine ⟨_, rfl, ?_⟩; conv => whnf) | (refine ⟨_, fun _ => rfl, fun h => absurd h.symm Bool.false_ne_true, ?_⟩; conv => whnf))
      rfl
    · rw [decide_eq_false h0] at hz
      have e : sv true n / (d : Int) = sv true (n / d + 1) := by
        simp only [sv, if_true]
        have e1 : (-(n : Int)) = (d : Int) * (-((n / d + 1 : Nat) : Int)) + ((d - n % d : Nat) : Int) := by
          have e2 : (n : Int) = (d : Int) * ((n / d : Nat) : Int) + ((n % d : Nat) : Int) := by
            have := congrArg (fun x : Nat => (x : Int)) hdm
            simpa [Int.natCast_add, Int.natCast_mul] using this.symm
          rw [Int.natCast_add, Int.neg_add, Int.mul_add, Int.mul_neg]
          have e3 : ((d - n % d : Nat) : Int) = (d : Int) - ((n % d : Nat) : Int) := by omega
          rw [e3]
          omega
        rw [e1, Int.add_comm, Int.add_mul_ediv_left _ _ (by omega), Int.ediv_eq_zero_of_lt (by omega) (by omega), Int.zero_add]
      rw [e]
      have hp := f205_ok J hlq h1
      repeat (first | (refine W.RS (by kernel_rfl) ?_; conv => whnf) | (refine W.R (by kernel_rfl) ?_; conv => whnf) | (refine W.S ?_) | (refine W.ret ?_; conv => whnf) | (refine W.condT rfl ?_) | (refine ⟨_, ho, ?_⟩; conv => whnf) | (refine ⟨_, hz, ?_⟩; conv => whnf) | (refine ⟨_, f134_ok J (n := 1) (by omega), ?_⟩; conv => whnf) | (refine ⟨_, hp, ?_⟩; conv => whnf) | (refine ⟨_, f130_ok J _ _, ?_⟩; conv => whnf) | (refine ⟨_, rfl, ?_⟩; conv => whnf) | (refine ⟨rfl, ?_⟩; conv => whnf) | (refine ⟨_, fun _ => rfl, fun h => absurd h.symm Bool.false_ne_true, ?_⟩; conv => whnf))
      rfl
noncomputable abbrev qd (z : Int) (d : Nat) : IV := .agg [.sl ((dg z.natAbs).map u32), .bool (decide (z < 0)), .sl ((dg (d - 1)).map u32)]
theorem f164_ok (J : Keep) {x y : IV} {d : Nat} (hd : 0 < d) (h : ln (d - 1) < 2 ^ 44) : C J 164 [.agg [x, y, .sl ((dg (d - 1)).map u32)]] (mag d) := by
  refine fn_ok Tryz.func164 rfl rfl rfl ?_
  have h1 : ln 1 < 2 ^ 44 := by rw [ln_one]; omega
  have hp := f205_ok J h h1
  rw [show d - 1 + 1 = d by omega] at hp
  repeat (first | (refine W.RS (by kernel_rfl) ?_; conv => whnf) | (refine W.ret ?_; conv => whnf) | (refine ⟨_, f134_ok J (n := 1) (by omega), ?_⟩; conv => whnf) | (refine ⟨_, hp, ?_⟩; conv => whnf) | (refine ⟨rfl, ?_⟩; conv => whnf))
  rfl
end Go.Proofs.Fl
namespace Go.Proofs.Fl
open Go.RowKit Go.Proofs.Dig
attribute [local irreducible] IntKind.wrap PureC MutC MakC IterC
structure Base (J : Keep) : Prop where
  word : ∀ n, ln n ≤ 2 → C J 135 [mag n] (.int .u64 n)
noncomputable abbrev qr (q : Rat) : IV := qd q.num q.den
theorem mkRat_num {z : Int} {d : Nat} (hd : 0 < d) : (mkRat z d).num = sv (decide (z < 0)) (z.natAbs / Nat.gcd z.natAbs d) := by
  have h0 : ¬ d = 0 := by omega
  rw [mkRat, dif_neg h0, Rat.normalize_eq]
  show z / ((Nat.gcd z.natAbs d : Nat) : Int) = _
  have hg : Nat.gcd z.natAbs d ∣ z.natAbs := Nat.gcd_dvd_left _ _
  generalize Nat.gcd z.natAbs d = g at hg
  unfold sv
  by_cases hz : z < 0
  · obtain ⟨n, rfl⟩ : ∃ n : Nat, z = -(n : Int) := ⟨z.natAbs, by omega⟩
    have e : (-(n : Int)).natAbs = n := by omega
    rw [e] at hg ⊢
    rw [decide_eq_true hz, if_pos rfl, Int.neg_ediv_of_dvd (Int.natCast_dvd_natCast.2 hg)]
    rfl
  · obtain ⟨n, rfl⟩ : ∃ n : Nat, z = (n : Int) := ⟨z.natAbs, by omega⟩
    rw [decide_eq_false hz, Int.natAbs_natCast]
    rfl
theorem mkRat_den {z : Int} {d : Nat} (hd : 0 < d) : (mkRat z d).den = d / Nat.gcd z.natAbs d := by
  have h0 : ¬ d = 0 := by omega
  rw [mkRat, dif_neg h0, Rat.normalize_eq]
theorem f129_ok {J : Keep} (B : Base J) {z : Int} {d : Nat} (hd : 0 < d) (hz : ln z.natAbs < 2 ^ 40) (hl : ln d < 2 ^ 40) : C J 129 [zd z, mag d] (qr (mkRat z d)) := by
  refine fn_ok Tryz.func129 rfl rfl rfl ?_
  obtain ⟨g, hg⟩ : ∃ g, Nat.gcd z.natAbs d = g := ⟨_, rfl⟩
  have hg0 : 0 < g := by rw [← hg]; exact Nat.gcd_pos_of_pos_right _ hd
  have hgd : g ∣ d := by rw [← hg]; exact Nat.gcd_dvd_right _ _
  have hgn : g ≤ d := Nat.le_of_dvd hd hgd
  have hdg : 1 ≤ d / g := (Nat.one_le_div_iff hg0).2 hgn
  have c1 := f184_ok J B.word hz hl
  rw [hg] at c1
  have c2 := f185_ok J g
  have hnum := mkRat_num (z := z) hd
  have hden := mkRat_den (z := z) hd
  rw [hg] at hnum hden
  have c5 : C J 130 [.bool (decide (z < 0)), mag (z.natAbs / g)] (zd (mkRat z d).num) := by rw [hnum]; exact f130_ok J _ _
  have c6 : C J 173 [mag (d / g), mag 1] (mag ((mkRat z d).den - 1)) := by
    rw [hden]; exact f173_ok J hdg (Nat.lt_of_le_of_lt (ln_mono (Nat.div_le_self _ _)) (by omega))
  by_cases h1 : g = 1
  · rw [decide_eq_true h1] at c2
    rw [h1, Nat.div_one] at c5 c6
    rw [h1] at c1 c2
    repeat (first | (refine W.RS (by kernel_rfl) ?_; conv => whnf) | (refine W.S ?_) | (refine W.ret ?_; conv => whnf) | (refine W.skip ?_; conv => whnf) | (refine W.condF rfl ?_) | (refine ⟨_, c1, ?_⟩; conv => whnf) | (refine ⟨_, c2, ?_⟩; conv => whnf) | (refine ⟨_, c5, ?_⟩; conv => whnf) | (refine ⟨_, f134_ok J (n := 1) (by omega), ?_⟩; conv => whnf) | (refine ⟨_, c6, ?_⟩; conv => whnf) | (refine ⟨_, rfl, ?_⟩; conv => whnf) | (refine ⟨rfl, ?_⟩; conv => whnf))
    rfl
  · rw [decide_eq_false h1] at c2
    have c3 := f186_ok J (a := z.natAbs) hg0 hz
    have c4 := f186_ok J (a := d) hg0 hl
    repeat (first | (refine W.RS (by kernel_rfl) ?_; conv => whnf) | (refine W.R (by kernel_rfl) ?_; conv => whnf) | (refine W.S ?_) | (refine W.ret ?_; conv => whnf) | (refine W.condT rfl ?_) | (refine ⟨_, c1, ?_⟩; conv => whnf) | (refine ⟨_, c2, ?_⟩; conv => whnf) | (refine ⟨_, c3, ?_⟩; conv => whnf) | (refine ⟨_, c4, ?_⟩; conv => whnf) | (refine ⟨_, c5, ?_⟩; conv => whnf) | (refine ⟨_, f134_ok J (n := 1) (by omega), ?_⟩; conv => whnf) | (refine ⟨_, c6, ?_⟩; conv => whnf) | (refine ⟨_, rfl, ?_⟩; conv => whnf) | (refine ⟨rfl, ?_⟩; conv => whnf))
    rfl
end Go.Proofs.Fl
namespace Go.Proofs.Fl
open Go.RowKit Go.Proofs.Dig
attribute [local irreducible] IntKind.wrap PureC MutC MakC IterC
theorem f171_zd (J : Keep) {x y : Int} (h : ln x.natAbs + ln y.natAbs < 2 ^ 44) : C J 171 [zd x, zd y] (zd (x * y)) := by
  have := f171_ok J (m := decide (x < 0)) (m' := decide (y < 0)) h
  rwa [sv_neg, sv_neg] at this
theorem f171_zn (J : Keep) {x : Int} {n : Nat} (h : ln x.natAbs + ln n < 2 ^ 44) : C J 171 [zd x, sg false n] (zd (x * (n : Int))) := by
  have := f171_ok J (m := decide (x < 0)) (m' := false) h
  rwa [sv_neg] at this
theorem f172_zd (J : Keep) {x y : Int} (h : ln x.natAbs < 2 ^ 44) (h' : ln y.natAbs < 2 ^ 44) : C J 172 [zd x, zd y] (zd (x + y)) := by
  have := f172_ok J (m := decide (x < 0)) (m' := decide (y < 0)) h h'
  rwa [sv_neg, sv_neg] at this
theorem f178_zd (J : Keep) {x : Int} {d : Nat} (hd : 0 < d) (h : ln x.natAbs < 2 ^ 40) : C J 178 [zd x, mag d] (zd (x / (d : Int))) := by
  have := f178_ok J (m := decide (x < 0)) hd h
  rwa [sv_neg] at this
theorem ln_add_le (a b : Nat) : ln (a + b) ≤ ln a + ln b + 1 := ln_le (by
  have h1 := lt_ln a
  have h2 := lt_ln b
  have h3 : B9 ^ ln a ≤ B9 ^ (ln a + ln b) := Nat.pow_le_pow_right (by decide) (by omega)
  have h4 : B9 ^ ln b ≤ B9 ^ (ln a + ln b) := Nat.pow_le_pow_right (by decide) (by omega)
  have h5 : B9 ^ (ln a + ln b) * 2 ≤ B9 ^ (ln a + ln b) * B9 := Nat.mul_le_mul_left _ (by decide)
  rw [Nat.pow_succ]
  omega)
noncomputable def qln (q : Rat) : Nat := ln q.num.natAbs + ln q.den
theorem den_pos (q : Rat) : 0 < q.den := Nat.pos_of_ne_zero q.den_nz
theorem f164_q (J : Keep) {q : Rat} (h : qln q < 2 ^ 44) : C J 164 [qr q] (mag q.den) :=
  f164_ok J (den_pos q) (Nat.lt_of_le_of_lt (ln_mono (Nat.sub_le _ _)) (by unfold qln at h; omega))
theorem f22_ok (J : Keep) (q : Rat) : C J 22 [qr q] (.int .i64 (cmpI q.num 0)) := by
  refine fn_ok Tryz.func22 rfl rfl rfl ?_
  have h := f149_ok J q.num
  repeat (first | (refine W.RS (by kernel_rfl) ?_; conv => whnf) | (refine W.ret ?_; conv => whnf) | (refine ⟨_, h, ?_⟩; conv => whnf))
  rfl
theorem sv_not (z : Int) : sv (!decide (z < 0)) z.natAbs = -z := by
  unfold sv
  by_cases h : z < 0
  · simp [h]; omega
  · simp [h]; omega
theorem f66_ok (J : Keep) (q : Rat) : C J 66 [qr q] (qr (-q)) := by
  refine fn_ok Tryz.func66 rfl rfl rfl ?_
  have h : C J 130 [.bool (!decide (q.num < 0)), mag q.num.natAbs] (zd (-q).num) := by
    rw [Rat.neg_num, ← sv_not]; exact f130_ok J _ _
  repeat (first | (refine W.RS (by kernel_rfl) ?_; conv => whnf) | (refine W.ret ?_; conv => whnf) | (refine ⟨_, h, ?_⟩; conv => whnf) | (refine ⟨_, rfl, ?_⟩; conv => whnf) | (refine ⟨rfl, ?_⟩; conv => whnf))
  rfl
theorem f49_ok {J : Keep} (B : Base J) {a b : Rat} (ha : qln a < 2 ^ 38) (hb : qln b < 2 ^ 38) : C J 49 [qr a, qr b] (qr (a * b)) := by
  refine fn_ok Tryz.func49 rfl rfl rfl ?_
  unfold qln at ha hb
  have c1 := f171_zd J (x := a.num) (y := b.num) (by omega)
  have c2 := f164_q J (q := a) (by unfold qln; omega)
  have c3 := f164_q J (q := b) (by unfold qln; omega)
  have c4 := f136_ok J (a := a.den) (b := b.den) (by omega)
  have h1 := ln_mul_le a.num.natAbs b.num.natAbs
  have h2 := ln_mul_le a.den b.den
  have c5 := f129_ok B (z := a.num * b.num) (d := a.den * b.den) (Nat.mul_pos (den_pos a) (den_pos b)) (by rw [Int.natAbs_mul]; omega) (by omega)
  rw [← Rat.mul_def'] at c5
  repeat (first | (refine W.RS (by kernel_rfl) ?_; conv => whnf) | (refine W.ret ?_; conv => whnf) | (refine ⟨_, c1, ?_⟩; conv => whnf) | (refine ⟨_, c2, ?_⟩; conv => whnf) | (refine ⟨_, c3, ?_⟩; conv => whnf) | (refine ⟨_, c4, ?_⟩; conv => whnf) | (refine ⟨_, c5, ?_⟩; conv => whnf) | (refine ⟨rfl, ?_⟩; conv => whnf))
  rfl
theorem f48_ok {J : Keep} (B : Base J) {a b : Rat} (ha : qln a < 2 ^ 38) (hb : qln b < 2 ^ 38) : C J 48 [qr a, qr b] (qr (a + b)) := by
  refine fn_ok Tryz.func48 rfl rfl rfl ?_
  unfold qln at ha hb
  have c1 := f171_zn J (x := a.num) (n := b.den) (by omega)
  have c1' := f171_zn J (x := b.num) (n := a.den) (by omega)
  have c2 := f164_q J (q := a) (by unfold qln; omega)
  have c3 := f164_q J (q := b) (by unfold qln; omega)
  have c4 := f136_ok J (a := a.den) (b := b.den) (by omega)
  have h1 := ln_mul_le a.num.natAbs b.den
  have h1' := ln_mul_le b.num.natAbs a.den
  have h2 := ln_mul_le a.den b.den
  have e1 : (a.num * (b.den : Int)).natAbs = a.num.natAbs * b.den := by rw [Int.natAbs_mul, Int.natAbs_natCast]
  have e1' : (b.num * (a.den : Int)).natAbs = b.num.natAbs * a.den := by rw [Int.natAbs_mul, Int.natAbs_natCast]
  have c6 := f172_zd J (x := a.num * (b.den : Int)) (y := b.num * (a.den : Int)) (by rw [e1]; omega) (by rw [e1']; omega)
  have c5 := f129_ok B (z := a.num * (b.den : Int) + b.num * (a.den : Int)) (d := a.den * b.den) (Nat.mul_pos (den_pos a) (den_pos b)) (by
    have h3 := ln_add_le (a.num.natAbs * b.den) (b.num.natAbs * a.den)
    have h4 : (a.num * (b.den : Int) + b.num * (a.den : Int)).natAbs ≤ a.num.natAbs * b.den + b.num.natAbs * a.den := by
      rw [← e1, ← e1']; exact Int.natAbs_add_le _ _
    have h5 := ln_mono h4
    omega) (by omega)
  rw [← Rat.add_def'] at c5
  repeat (first | (refine W.RS (by kernel_rfl) ?_; conv => whnf) | (refine W.ret ?_; conv => whnf) | (refine ⟨_, c1, ?_⟩; conv => whnf) | (refine ⟨_, c1', ?_⟩; conv => whnf) | (refine ⟨_, c2, ?_⟩; conv => whnf) | (refine ⟨_, c3, ?_⟩; conv => whnf) | (refine ⟨_, c4, ?_⟩; conv => whnf) | (refine ⟨_, c6, ?_⟩; conv => whnf) | (refine ⟨_, c5, ?_⟩; conv => whnf) | (refine ⟨rfl, ?_⟩; conv => whnf))
  rfl
end Go.Proofs.Fl
namespace Go.Proofs.Fl
theorem wrapU (a : Int) : Go.IntKind.wrap .u64 a = a % 18446744073709551616 := by
  show (let m := a % (18446744073709551616 : Int); if false && decide (m ≥ (9223372036854775808 : Int)) then m - (18446744073709551616 : Int) else m) = _
  simp
open Go.RowKit Go.Proofs.Dig
attribute [local irreducible] IntKind.wrap PureC MutC MakC IterC
theorem qln_neg (q : Rat) : qln (-q) = qln q := by
  unfold qln
  rw [Rat.neg_num, Int.natAbs_neg, Rat.neg_den]
theorem f50_ok {J : Keep} (B : Base J) {a b : Rat} (ha : qln a < 2 ^ 38) (hb : qln b < 2 ^ 38) : C J 50 [qr a, qr b] (qr (a - b)) := by
  refine fn_ok Tryz.func50 rfl rfl rfl ?_
  have c1 := f66_ok J b
  have c2 := f48_ok B ha (b := -b) (by rw [qln_neg]; exact hb)
  rw [← Rat.sub_eq_add_neg] at c2
  repeat (first | (refine W.RS (by kernel_rfl) ?_; conv => whnf) | (refine W.ret ?_; conv => whnf) | (refine ⟨_, c1, ?_⟩; conv => whnf) | (refine ⟨_, c2, ?_⟩; conv => whnf) | (refine ⟨rfl, ?_⟩; conv => whnf))
  rfl
theorem f152_ok {J : Keep} (B : Base J) {a b : Rat} (hb0 : b ≠ 0) (ha : qln a < 2 ^ 38) (hb : qln b < 2 ^ 38) : C J 152 [qr a, qr b] (qr (a / b)) := by
  refine fn_ok Tryz.func152 rfl rfl rfl ?_
  unfold qln at ha hb
  have hn0 : b.num ≠ 0 := fun e => hb0 (Rat.num_eq_zero.1 e)
  have hn1 : 0 < b.num.natAbs := by omega
  have c0 := f130_ok J (decide (b.num < 0)) b.den
  have hsv : sv (decide (b.num < 0)) b.den = b.num.sign * (b.den : Int) := by
    unfold sv
    by_cases h : b.num < 0
    · rw [decide_eq_true h, Int.sign_eq_neg_one_of_neg h]; simp
    · rw [decide_eq_false h, Int.sign_eq_one_of_pos (by omega)]; simp
  rw [hsv] at c0
  have hna : (b.num.sign * (b.den : Int)).natAbs = b.den := by
    rw [← hsv]; unfold sv; split <;> simp
  have c1 := f171_zd J (x := a.num) (y := b.num.sign * (b.den : Int)) (by rw [hna]; omega)
  have c2 := f164_q J (q := a) (by unfold qln; omega)
  have c3 := f164_q J (q := b) (by unfold qln; omega)
  have c4 := f136_ok J (a := a.den) (b := b.num.natAbs) (by omega)
  have h1 := ln_mul_le a.num.natAbs b.den
  have h2 := ln_mul_le a.den b.num.natAbs
  have c5 := f129_ok B (z := a.num * (b.num.sign * (b.den : Int))) (d := a.den * b.num.natAbs) (Nat.mul_pos (den_pos a) hn1) (by rw [Int.natAbs_mul, hna]; omega) (by omega)
  have e : mkRat (a.num * (b.num.sign * (b.den : Int))) (a.den * b.num.natAbs) = a / b := by
    have hi : b⁻¹.num = b.num.sign * (b.den : Int) ∧ b⁻¹.den = b.num.natAbs := by
      show (Rat.inv b).num = _ ∧ (Rat.inv b).den = _
      unfold Rat.inv
      split
      · rename_i h; rw [Int.sign_eq_neg_one_of_neg h]; simp
      · split
        · rename_i h; rw [Int.sign_eq_one_of_pos h]; simp
        · omega
    rw [Rat.div_def, ← hi.1, ← hi.2, Rat.mul_def']
  rw [e] at c5
  repeat (first | (refine W.RS (by kernel_rfl) ?_; conv => whnf) | (refine W.ret ?_; conv => whnf) | (refine ⟨_, c0, ?_⟩; conv => whnf) | (refine ⟨_, c1, ?_⟩; conv => whnf) | (refine ⟨_, c2, ?_⟩; conv => whnf) | (refine ⟨_, c3, ?_⟩; conv => whnf) | (refine ⟨_, c4, ?_⟩; conv => whnf) | (refine ⟨_, c5, ?_⟩; conv => whnf) | (refine ⟨rfl, ?_⟩; conv => whnf))
  rfl
theorem f52_ok {J : Keep} (B : Base J) {a b : Rat} (ha : qln a < 2 ^ 38) (hb : qln b < 2 ^ 38) (hb0 : b ≠ 0) : C J 52 [qr a, qr b] (.tup [qr (a / b), .int .i64 0]) := by
  refine fn_ok Tryz.func52 rfl rfl rfl ?_
  have c1 := f22_ok J b
  have hn0 : b.num ≠ 0 := fun e => hb0 (Rat.num_eq_zero.1 e)
  have hc : cmpI b.num 0 ≠ 0 := fun e => hn0 (cmpI_zero e)
  have c2 := f152_ok B hb0 ha hb
  repeat (first | (refine W.RS (by kernel_rfl) ?_; conv => whnf) | (refine W.S ?_) | (refine W.ret ?_; conv => whnf) | (refine W.skip ?_; conv => whnf) | (refine W.condF rfl ?_) | (refine ⟨_, c1, ?_⟩; conv => whnf) | (refine ⟨_, c2, ?_⟩; conv => whnf) | (refine ⟨false, decide_eq_false (by omega), ?_⟩; conv => whnf) | (refine ⟨rfl, ?_⟩; conv => whnf))
  rfl
theorem dg_zero_qr : qr 0 = .agg [.sl [], .bool false, .sl []] := by
  show IV.agg [.sl ((dg 0).map u32), .bool (decide ((0 : Int) < 0)), .sl ((dg 0).map u32)] = _
  rw [dg_zero]; rfl
theorem f52_zero (J : Keep) (a : Rat) : C J 52 [qr a, qr 0] (.tup [qr 0, .int .i64 9]) := by
  refine fn_ok Tryz.func52 rfl rfl rfl ?_
  have c1 := f22_ok J 0
  have hc : cmpI (0 : Rat).num 0 = 0 := rfl
  rw [hc] at c1
  repeat (first | (refine W.RS (by kernel_rfl) ?_; conv => whnf) | (refine W.S ?_) | (refine W.ret ?_; conv => whnf) | (refine W.condT rfl ?_) | (refine ⟨_, c1, ?_⟩; conv => whnf) | (refine ⟨true, decide_eq_true (by omega), ?_⟩; conv => whnf) | (refine ⟨rfl, ?_⟩; conv => whnf))
  rw [dg_zero_qr]
  rfl
theorem f155_ok (J : Keep) (z : Int) : C J 155 [zd z] (qr (z : Rat)) := by
  refine fn_ok Tryz.func155 rfl rfl rfl ?_
  repeat (first | (refine W.RS (by kernel_rfl) ?_; conv => whnf) | (refine W.ret ?_; conv => whnf))
  show IV.agg [.sl ((dg z.natAbs).map u32), .bool (decide (z < 0)), .sl []] = IV.agg [.sl ((dg z.natAbs).map u32), .bool (decide (z < 0)), .sl ((dg 0).map u32)]
  rw [dg_zero]; rfl
theorem f169_ok (J : Keep) {n : Int} (h1 : -9223372036854775808 ≤ n) (h2 : n ≤ 9223372036854775807) : C J 169 [.int .i64 n] (zd n) := by
  refine fn_ok Tryz.func169 rfl rfl rfl ?_
  by_cases h : n < 0
  · have hw : IntKind.wrap .u64 (0 - IntKind.wrap .u64 n) = ((n.natAbs : Nat) : Int) := by
      rw [wrapU, wrapU]; omega
    have c1 := f134_ok J (n := n.natAbs) (by omega)
    have c2 := f130_ok J true n.natAbs
    rw [show sv true n.natAbs = n by simp [sv]; omega] at c2
    repeat (first | (refine W.RS (by kernel_rfl) ?_; conv => whnf) | (refine W.S ?_) | (refine W.ret ?_; conv => whnf) | (refine W.condT rfl ?_) | (refine ⟨_, hw, ?_⟩; conv => whnf) | (refine ⟨_, c1, ?_⟩; conv => whnf) | (refine ⟨_, c2, ?_⟩; conv => whnf) | (refine ⟨true, decide_eq_true (by omega), ?_⟩; conv => whnf) | (refine ⟨_, rfl, ?_⟩; conv => whnf) | (refine ⟨rfl, ?_⟩; conv => whnf))
    rfl
  · have c1 := f134_ok J (n := n.natAbs) (by omega)
    have c2 := f130_ok J false n.natAbs
    rw [show sv false n.natAbs = n by simp [sv]; omega] at c2
    have hw : IntKind.wrap .u64 n = ((n.natAbs : Nat) : Int) := by rw [wu64 (by omega)]; omega
    repeat (first | (refine W.RS (by kernel_rfl) ?_; conv => whnf) | (refine W.S ?_) | (refine W.ret ?_; conv => whnf) | (refine W.skip ?_; conv => whnf) | (refine W.condF rfl ?_) | (refine ⟨_, hw, ?_⟩; conv => whnf) | (refine ⟨_, c1, ?_⟩; conv => whnf) | (refine ⟨_, c2, ?_⟩; conv => whnf) | (refine ⟨false, decide_eq_false (by omega), ?_⟩; conv => whnf) | (refine ⟨rfl, ?_⟩; conv => whnf))
    rfl
theorem f61_ok (J : Keep) {n : Int} (h1 : -9223372036854775808 ≤ n) (h2 : n ≤ 9223372036854775807) : C J 61 [.int .i64 n] (qr (n : Rat)) := by
  refine fn_ok Tryz.func61 rfl rfl rfl ?_
  have c1 := f169_ok J h1 h2
  have c2 := f155_ok J n
  repeat (first | (refine W.RS (by kernel_rfl) ?_; conv => whnf) | (refine W.ret ?_; conv => whnf) | (refine ⟨_, c1, ?_⟩; conv => whnf) | (refine ⟨_, c2, ?_⟩; conv => whnf))
  rfl
end Go.Proofs.Fl
namespace Go.Proofs.Fl
open Go.RowKit Go.Proofs.Dig
attribute [local irreducible] IntKind.wrap PureC MutC MakC IterC
theorem ln_i64 {n : Nat} (h : n < 1000000000000000000000000000) : ln n ≤ 3 := ln_le (by
  have : B9 ^ 3 = 1000000000000000000000000000 := by decide
  omega)
theorem qln_int (z : Int) : qln (z : Rat) = ln z.natAbs + 1 := by
  show ln z.natAbs + ln 1 = _
  rw [ln_one]
theorem f57_ok {J : Keep} (B : Base J) {n d : Int} (h1 : -9223372036854775808 ≤ n) (h2 : n ≤ 9223372036854775807) (h3 : -9223372036854775808 ≤ d) (h4 : d ≤ 9223372036854775807) (hd : d ≠ 0) : C J 57 [.int .i64 n, .int .i64 d] (.tup [qr ((n : Rat) / (d : Rat)), .int .i64 0]) := by
  refine fn_ok Tryz.func57 rfl rfl rfl ?_
  have c1 := f61_ok J h1 h2
  have c2 := f61_ok J h3 h4
  have l1 := ln_i64 (n := n.natAbs) (by omega)
  have l2 := ln_i64 (n := d.natAbs) (by omega)
  have hd0 : (d : Rat) ≠ 0 := fun e => hd (by have := congrArg Rat.num e; exact this)
  have c3 := f52_ok B (a := (n : Rat)) (b := (d : Rat)) (by rw [qln_int]; omega) (by rw [qln_int]; omega) hd0
  repeat (first | (refine W.RS (by kernel_rfl) ?_; conv => whnf) | (refine W.ret ?_; conv => whnf) | (refine ⟨_, c1, ?_⟩; conv => whnf) | (refine ⟨_, c2, ?_⟩; conv => whnf) | (refine ⟨_, c3, ?_⟩; conv => whnf))
  rfl
theorem f57_zero (J : Keep) {n : Int} (h1 : -9223372036854775808 ≤ n) (h2 : n ≤ 9223372036854775807) : C J 57 [.int .i64 n, .int .i64 0] (.tup [qr 0, .int .i64 9]) := by
  refine fn_ok Tryz.func57 rfl rfl rfl ?_
  have c1 := f61_ok J h1 h2
  have c2 : C J 61 [.int .i64 0] (qr 0) := f61_ok J (n := 0) (by omega) (by omega)
  have c3 := f52_zero J (n : Rat)
  repeat (first | (refine W.RS (by kernel_rfl) ?_; conv => whnf) | (refine W.ret ?_; conv => whnf) | (refine ⟨_, c1, ?_⟩; conv => whnf) | (refine ⟨_, c2, ?_⟩; conv => whnf) | (refine ⟨_, c3, ?_⟩; conv => whnf))
  rfl
theorem f86_ok {J : Keep} {q : Rat} (h : qln q < 2 ^ 40) : C J 86 [qr q] (qr (q.floor : Rat)) := by
  refine fn_ok Tryz.func86 rfl rfl rfl ?_
  have c1 := f164_q J (q := q) (by omega)
  have c2 := f178_zd J (x := q.num) (d := q.den) (den_pos q) (by unfold qln at h; omega)
  rw [show q.num / (q.den : Int) = q.floor by rw [Rat.floor_def]] at c2
  have c3 := f155_ok J q.floor
  repeat (first | (refine W.RS (by kernel_rfl) ?_; conv => whnf) | (refine W.ret ?_; conv => whnf) | (refine ⟨_, c1, ?_⟩; conv => whnf) | (refine ⟨_, c2, ?_⟩; conv => whnf) | (refine ⟨_, c3, ?_⟩; conv => whnf) | (refine ⟨rfl, ?_⟩; conv => whnf))
  rfl
theorem f81_ok (J : Keep) (q : Rat) : C J 81 [qr q] (qr (q.num : Rat)) := by
  refine fn_ok Tryz.func81 rfl rfl rfl ?_
  have c3 := f155_ok J q.num
  repeat (first | (refine W.RS (by kernel_rfl) ?_; conv => whnf) | (refine W.ret ?_; conv => whnf) | (refine ⟨_, c3, ?_⟩; conv => whnf))
  rfl
theorem f84_ok (J : Keep) {q : Rat} (h : qln q < 2 ^ 40) : C J 84 [qr q] (qr ((q.den : Int) : Rat)) := by
  refine fn_ok Tryz.func84 rfl rfl rfl ?_
  have c1 := f164_q J (q := q) (by omega)
  have c3 : C J 155 [sg false q.den] (qr ((q.den : Int) : Rat)) := f155_ok J (q.den : Int)
  repeat (first | (refine W.RS (by kernel_rfl) ?_; conv => whnf) | (refine W.ret ?_; conv => whnf) | (refine ⟨_, c1, ?_⟩; conv => whnf) | (refine ⟨_, c3, ?_⟩; conv => whnf))
  rfl
theorem f54_ok (J : Keep) (q : Rat) : C J 54 [qr q] (qd (q.num.natAbs : Int) q.den) := by
  refine fn_ok Tryz.func54 rfl rfl rfl ?_
  have h : C J 130 [.bool false, mag q.num.natAbs] (zd (q.num.natAbs : Int)) := f130_ok J false _
  repeat (first | (refine W.RS (by kernel_rfl) ?_; conv => whnf) | (refine W.ret ?_; conv => whnf) | (refine ⟨_, h, ?_⟩; conv => whnf) | (refine ⟨rfl, ?_⟩; conv => whnf))
  rfl
end Go.Proofs.Fl
namespace Go.Proofs.Fl
open Go.RowKit Go.Proofs.Dig
attribute [local irreducible] IntKind.wrap PureC MutC MakC IterC
def cmpR (a b : Rat) : Int := cmpI (a.num * (b.den : Int)) (b.num * (a.den : Int))
theorem sgn3 (z : Int) : (z < 0 ∧ cmpI z 0 = -1) ∨ (z = 0 ∧ cmpI z 0 = 0) ∨ (0 < z ∧ cmpI z 0 = 1) := by
  unfold cmpI
  rcases Int.lt_trichotomy z 0 with h | h | h
  · left; exact ⟨h, by rw [if_pos h]⟩
  · right; left; exact ⟨h, by rw [if_neg (by omega), if_neg (by omega)]⟩
  · right; right; exact ⟨h, by rw [if_neg (by omega), if_pos h]⟩
theorem cmpI_of_lt {x y : Int} (h : x < y) : cmpI x y = -1 := by unfold cmpI; rw [if_pos h]
theorem cmpI_of_gt {x y : Int} (h : y < x) : cmpI x y = 1 := by unfold cmpI; rw [if_neg (by omega), if_pos h]
theorem cmpI_of_eq {x y : Int} (h : x = y) : cmpI x y = 0 := by unfold cmpI; rw [if_neg (by omega), if_neg (by omega)]
theorem f37_diff {J : Keep} {a b : Rat} {x y r : Int} (c1 : C J 22 [qr a] (.int .i64 x)) (c2 : C J 22 [qr b] (.int .i64 y)) (hx : -1 ≤ x ∧ x ≤ 1) (hy : -1 ≤ y ∧ y ≤ 1) (hxy : x ≠ y ∨ x = 0)
    (hw : IntKind.wrap .i64 ((x - y).tdiv 2) = r) (hr : -1 ≤ r ∧ r ≤ 1) : C J 37 [qr a, qr b] (.int .i64 (x - y - r)) := by
  refine fn_ok Tryz.func37 rfl rfl rfl ?_
  by_cases h : x ≠ y
  · repeat (first | (refine W.RS (by kernel_rfl) ?_; conv => whnf) | (refine W.S ?_) | (refine W.ret ?_; conv => whnf) | (refine W.condT rfl ?_) | (refine ⟨_, c1, ?_⟩; conv => whnf) | (refine ⟨_, c2, ?_⟩; conv => whnf) | (refine ⟨by omega, _, hw, ?_⟩; conv => whnf) | (refine ⟨rfl, _, w64 (by omega), ?_⟩; conv => whnf) | (refine ⟨true, bne_iff_ne.2 (by omega), ?_⟩; conv => whnf) | (refine ⟨rfl, ?_⟩; conv => whnf) | (refine ⟨_, fun _ => rfl, fun h => absurd h.symm Bool.false_ne_true, ?_⟩; conv => whnf))
    rfl
  · have h0 : x = 0 := by omega
    have h1 : y = 0 := by omega
    subst h0; subst h1
    repeat (first | (refine W.RS (by kernel_rfl) ?_; conv => whnf) | (refine W.S ?_) | (refine W.ret ?_; conv => whnf) | (refine W.condT rfl ?_) | (refine ⟨_, c1, ?_⟩; conv => whnf) | (refine ⟨_, c2, ?_⟩; conv => whnf) | (refine ⟨by omega, _, hw, ?_⟩; conv => whnf) | (refine ⟨rfl, _, w64 (by omega), ?_⟩; conv => whnf) | (refine ⟨true, decide_eq_true (by omega), ?_⟩; conv => whnf) | (refine ⟨false, bne_eq_false_iff_eq.2 (by omega), ?_⟩; conv => whnf) | (refine ⟨rfl, ?_⟩; conv => whnf) | (refine ⟨_, fun h => absurd h Bool.false_ne_true, fun _ => rfl, ?_⟩; conv => whnf))
    rfl
theorem f37_same {J : Keep} {a b : Rat} {x : Int} (c1 : C J 22 [qr a] (.int .i64 x)) (c2 : C J 22 [qr b] (.int .i64 x)) (hx : x = 1 ∨ x = -1) (ha : qln a < 2 ^ 38) (hb : qln b < 2 ^ 38) :
    C J 37 [qr a, qr b] (.int .i64 (x * cmpI ((a.num.natAbs * b.den : Nat) : Int) ((b.num.natAbs * a.den : Nat) : Int))) := by
  refine fn_ok Tryz.func37 rfl rfl rfl ?_
  have d1 := f164_q J (q := a) (by omega)
  have d2 := f164_q J (q := b) (by omega)
  unfold qln at ha hb
  have m1 := f136_ok J (a := a.num.natAbs) (b := b.den) (by omega)
  have m2 := f136_ok J (a := b.num.natAbs) (b := a.den) (by omega)
  have l1 := ln_mul_le a.num.natAbs b.den
  have c3 := f133_mag J (a := a.num.natAbs * b.den) (b := b.num.natAbs * a.den) (by omega)
  obtain ⟨k, hk⟩ : ∃ k, cmpI ((a.num.natAbs * b.den : Nat) : Int) ((b.num.natAbs * a.den : Nat) : Int) = k := ⟨_, rfl⟩
  have hk1 : -1 ≤ k ∧ k ≤ 1 := by rw [← hk]; unfold cmpI; split <;> (try split) <;> omega
  rw [hk] at c3 ⊢
  have hm : IntKind.wrap .i64 (x * k) = x * k := w64 (by rcases hx with rfl | rfl <;> omega)
  rcases hx with rfl | rfl
  · repeat (first | (refine W.RS (by kernel_rfl) ?_; conv => whnf) | (refine W.S ?_) | (refine W.ret ?_; conv => whnf) | (refine W.skip ?_; conv => whnf) | (refine W.condF rfl ?_) | (refine ⟨_, c1, ?_⟩; conv => whnf) | (refine ⟨_, c2, ?_⟩; conv => whnf) | (refine ⟨_, d1, ?_⟩; conv => whnf) | (refine ⟨_, d2, ?_⟩; conv => whnf) | (refine ⟨_, m1, ?_⟩; conv => whnf) | (refine ⟨_, m2, ?_⟩; conv => whnf) | (refine ⟨_, c3, ?_⟩; conv => whnf) | (refine ⟨rfl, _, w64 (by omega), ?_⟩; conv => whnf) | (refine ⟨false, decide_eq_false (by omega), ?_⟩; conv => whnf) | (refine ⟨false, bne_eq_false_iff_eq.2 (by omega), ?_⟩; conv => whnf) | (refine ⟨rfl, ?_⟩; conv => whnf) | (refine ⟨_, fun h => absurd h Bool.false_ne_true, fun _ => rfl, ?_⟩; conv => whnf))
    rfl
  · repeat (first | (refine W.RS (by kernel_rfl) ?_; conv => whnf) | (refine W.S ?_) | (refine W.ret ?_; conv => whnf) | (refine W.skip ?_; conv => whnf) | (refine W.condF rfl ?_) | (refine ⟨_, c1, ?_⟩; conv => whnf) | (refine ⟨_, c2, ?_⟩; conv => whnf) | (refine ⟨_, d1, ?_⟩; conv => whnf) | (refine ⟨_, d2, ?_⟩; conv => whnf) | (refine ⟨_, m1, ?_⟩; conv => whnf) | (refine ⟨_, m2, ?_⟩; conv => whnf) | (refine ⟨_, c3, ?_⟩; conv => whnf) | (refine ⟨rfl, _, w64 (by omega), ?_⟩; conv => whnf) | (refine ⟨false, decide_eq_false (by omega), ?_⟩; conv => whnf) | (refine ⟨false, bne_eq_false_iff_eq.2 (by omega), ?_⟩; conv => whnf) | (refine ⟨rfl, ?_⟩; conv => whnf) | (refine ⟨_, fun h => absurd h Bool.false_ne_true, fun _ => rfl, ?_⟩; conv => whnf))
    rfl
theorem f37_ok {J : Keep} {a b : Rat} (ha : qln a < 2 ^ 38) (hb : qln b < 2 ^ 38) : C J 37 [qr a, qr b] (.int .i64 (cmpR a b)) := by
  have c1 := f22_ok J a
  have c2 := f22_ok J b
  have da : (0 : Int) < (a.den : Int) := by have := den_pos a; omega
  have db : (0 : Int) < (b.den : Int) := by have := den_pos b; omega
  rcases sgn3 a.num with ⟨ha1, e1⟩ | ⟨ha1, e1⟩ | ⟨ha1, e1⟩ <;> rcases sgn3 b.num with ⟨hb1, e2⟩ | ⟨hb1, e2⟩ | ⟨hb1, e2⟩ <;> rw [e1] at c1 <;> rw [e2] at c2
  · have e : cmpR a b = (-1) * cmpI ((a.num.natAbs * b.den : Nat) : Int) ((b.num.natAbs * a.den : Nat) : Int) := by
      unfold cmpR
      have x1 : ((a.num.natAbs * b.den : Nat) : Int) = -(a.num * (b.den : Int)) := by
        rw [Int.natCast_mul, show ((a.num.natAbs : Nat) : Int) = -a.num by omega, Int.neg_mul]
      have x2 : ((b.num.natAbs * a.den : Nat) : Int) = -(b.num * (a.den : Int)) := by
        rw [Int.natCast_mul, show ((b.num.natAbs : Nat) : Int) = -b.num by omega, Int.neg_mul]
      rw [x1, x2]
      unfold cmpI
      split <;> (try split) <;> (try split) <;> (try split) <;> omega
    rw [e]
    exact f37_same c1 c2 (by omega) ha hb
  · have e : cmpR a b = (-1) - 0 - 0 := by
      unfold cmpR
      have p1 := Int.mul_neg_of_neg_of_pos ha1 db
      rw [hb1, Int.zero_mul]
      rw [cmpI_of_lt (by omega)]; rfl
    rw [e]
    exact f37_diff c1 c2 (by omega) (by omega) (by omega) (by kernel_rfl) (by omega)
  · have e : cmpR a b = (-1) - 1 - (-1) := by
      unfold cmpR
      have p1 := Int.mul_neg_of_neg_of_pos ha1 db
      have p2 := Int.mul_pos hb1 da
      rw [cmpI_of_lt (by omega)]; rfl
    rw [e]
    exact f37_diff c1 c2 (by omega) (by omega) (by omega) (by kernel_rfl) (by omega)
  · have e : cmpR a b = 0 - (-1) - 0 := by
      unfold cmpR
      rw [ha1, Int.zero_mul]
      have p2 := Int.mul_neg_of_neg_of_pos hb1 da
      rw [cmpI_of_gt (by omega)]; rfl
    rw [e]
    exact f37_diff c1 c2 (by omega) (by omega) (by omega) (by kernel_rfl) (by omega)
  · have e : cmpR a b = 0 - 0 - 0 := by
      unfold cmpR
      rw [ha1, Int.zero_mul]
      rw [hb1, Int.zero_mul]
      rw [cmpI_of_eq (by omega)]; rfl
    rw [e]
    exact f37_diff c1 c2 (by omega) (by omega) (by omega) (by kernel_rfl) (by omega)
  · have e : cmpR a b = 0 - 1 - 0 := by
      unfold cmpR
      rw [ha1, Int.zero_mul]
      have p2 := Int.mul_pos hb1 da
      rw [cmpI_of_lt (by omega)]; rfl
    rw [e]
    exact f37_diff c1 c2 (by omega) (by omega) (by omega) (by kernel_rfl) (by omega)
  · have e : cmpR a b = 1 - (-1) - 1 := by
      unfold cmpR
      have p1 := Int.mul_pos ha1 db
      have p2 := Int.mul_neg_of_neg_of_pos hb1 da
      rw [cmpI_of_gt (by omega)]; rfl
    rw [e]
    exact f37_diff c1 c2 (by omega) (by omega) (by omega) (by kernel_rfl) (by omega)
  · have e : cmpR a b = 1 - 0 - 0 := by
      unfold cmpR
      have p1 := Int.mul_pos ha1 db
      rw [hb1, Int.zero_mul]
      rw [cmpI_of_gt (by omega)]; rfl
    rw [e]
    exact f37_diff c1 c2 (by omega) (by omega) (by omega) (by kernel_rfl) (by omega)
  · have e : cmpR a b = 1 * cmpI ((a.num.natAbs * b.den : Nat) : Int) ((b.num.natAbs * a.den : Nat) : Int) := by
      unfold cmpR
      have x1 : ((a.num.natAbs * b.den : Nat) : Int) = (a.num * (b.den : Int)) := by
        rw [Int.natCast_mul, show ((a.num.natAbs : Nat) : Int) = a.num by omega]
      have x2 : ((b.num.natAbs * a.den : Nat) : Int) = (b.num * (a.den : Int)) := by
        rw [Int.natCast_mul, show ((b.num.natAbs : Nat) : Int) = b.num by omega]
      rw [x1, x2]
      unfold cmpI
      split <;> (try split) <;> (try split) <;> (try split) <;> omega
    rw [e]
    exact f37_same c1 c2 (by omega) ha hb
end Go.Proofs.Fl
namespace Go.Proofs.Fl
open Go.RowKit Go.Proofs.Dig
attribute [local irreducible] IntKind.wrap PureC MutC MakC IterC
def intoN (n : Int) (most : Nat) : Nat := (min n (most : Int)).toNat
theorem intoN_le (n : Int) (most : Nat) : intoN n most ≤ most := by unfold intoN; omega
theorem f154_ok (J : Keep) (n : Int) (most : Nat) : C J 154 [.int .i64 n, .int .i64 most] (.int .i64 (intoN n most : Nat)) := by
  refine fn_ok Tryz.func154 rfl rfl rfl ?_
  have e1 : (if (most : Int) < n then (most : Int) else n) = min n (most : Int) := by split <;> omega
  have e2 : (if min n (most : Int) > 0 then min n (most : Int) else 0) = ((intoN n most : Nat) : Int) := by unfold intoN; split <;> omega
  repeat (first | (refine W.RS (by kernel_rfl) ?_; conv => whnf) | (refine W.ret ?_; conv => whnf) | (refine ⟨_, e1, ?_⟩; conv => whnf) | (refine ⟨_, e2, ?_⟩; conv => whnf))
  rfl
theorem f170_ok (J : Keep) (k : Int) : C J 170 [.int .i64 k] (mag (2 ^ intoN k 256)) := by
  refine fn_ok Tryz.func170 rfl rfl rfl ?_
  have hk := intoN_le k 256
  have h2 : ln 2 ≤ 1 := ln_le (by decide)
  have c1 := f154_ok J k 256
  have c2 := f137_ok J (a := 2) (n := intoN k 256) (by omega) (by
    have : (intoN k 256 + 1) * ln 2 ≤ 257 * 1 := Nat.mul_le_mul (by omega) h2
    omega)
  repeat (first | (refine W.RS (by kernel_rfl) ?_; conv => whnf) | (refine W.ret ?_; conv => whnf) | (refine ⟨_, f134_ok J (n := 2) (by omega), ?_⟩; conv => whnf) | (refine ⟨_, c1, ?_⟩; conv => whnf) | (refine ⟨_, c2, ?_⟩; conv => whnf))
  rfl
theorem ln_two_pow (k : Int) : ln (2 ^ intoN k 256) ≤ 257 := by
  have h1 := ln_pow 2 (intoN k 256)
  have h2 : ln 2 ≤ 1 := ln_le (by decide)
  have h3 := intoN_le k 256
  have : intoN k 256 * ln 2 ≤ 256 * 1 := Nat.mul_le_mul h3 h2
  omega
theorem two_pow_pos (k : Int) : 0 < 2 ^ intoN k 256 := Nat.pow_pos (by decide)
theorem f46_ok {J : Keep} (B : Base J) (k : Int) : C J 46 [.int .i64 k] (qr (mkRat 1 (2 ^ intoN k 256))) := by
  refine fn_ok Tryz.func46 rfl rfl rfl ?_
  have c1 := f169_ok J (n := 1) (by omega) (by omega)
  have c2 := f170_ok J k
  have l1 := ln_two_pow k
  have c3 := f129_ok B (z := 1) (d := 2 ^ intoN k 256) (two_pow_pos k) (by have := ln_one; show ln 1 < _; omega) (by omega)
  repeat (first | (refine W.RS (by kernel_rfl) ?_; conv => whnf) | (refine W.ret ?_; conv => whnf) | (refine ⟨_, c1, ?_⟩; conv => whnf) | (refine ⟨_, c2, ?_⟩; conv => whnf) | (refine ⟨_, c3, ?_⟩; conv => whnf))
  rfl
theorem f167_ok {J : Keep} (B : Base J) {q : Rat} (h : qln q < 2 ^ 38) (k : Int) : C J 167 [qr q, .int .i64 k] (qr (q * (((2 ^ intoN k 256 : Nat) : Int) : Rat))) := by
  refine fn_ok Tryz.func167 rfl rfl rfl ?_
  have c2 := f170_ok J k
  have c3 : C J 155 [sg false (2 ^ intoN k 256)] (qr (((2 ^ intoN k 256 : Nat) : Int) : Rat)) := f155_ok J ((2 ^ intoN k 256 : Nat) : Int)
  have l1 := ln_two_pow k
  have c4 := f49_ok B h (b := (((2 ^ intoN k 256 : Nat) : Int) : Rat)) (by rw [qln_int, Int.natAbs_natCast]; omega)
  repeat (first | (refine W.RS (by kernel_rfl) ?_; conv => whnf) | (refine W.ret ?_; conv => whnf) | (refine ⟨_, c2, ?_⟩; conv => whnf) | (refine ⟨_, c3, ?_⟩; conv => whnf) | (refine ⟨_, c4, ?_⟩; conv => whnf) | (refine ⟨rfl, ?_⟩; conv => whnf))
  rfl
theorem f88_ok {J : Keep} {q : Rat} (h : qln q < 2 ^ 38) : C J 88 [qr q] (qr (-(((-q).floor : Int) : Rat))) := by
  refine fn_ok Tryz.func88 rfl rfl rfl ?_
  have c1 := f66_ok J q
  have c2 := f86_ok (J := J) (q := -q) (by rw [qln_neg]; omega)
  have c3 := f66_ok J (((-q).floor : Int) : Rat)
  repeat (first | (refine W.RS (by kernel_rfl) ?_; conv => whnf) | (refine W.ret ?_; conv => whnf) | (refine ⟨_, c1, ?_⟩; conv => whnf) | (refine ⟨_, c2, ?_⟩; conv => whnf) | (refine ⟨_, c3, ?_⟩; conv => whnf))
  rfl
noncomputable abbrev sd (a b : Rat) : IV := .agg [.sl ((dg a.num.natAbs).map u32), .bool (decide (a.num < 0)), .sl ((dg (a.den - 1)).map u32), .sl ((dg b.num.natAbs).map u32), .bool (decide (b.num < 0)), .sl ((dg (b.den - 1)).map u32)]
theorem f90_ok (J : Keep) (q : Rat) : C J 90 [qr q] (sd q q) := by
  refine fn_ok Tryz.func90 rfl rfl rfl ?_
  repeat (first | (refine W.RS (by kernel_rfl) ?_; conv => whnf) | (refine W.ret ?_; conv => whnf))
  rfl
theorem f93_ok {J : Keep} (B : Base J) {a b : Rat} (ha : qln a < 2 ^ 38) (hb : qln b < 2 ^ 38) : C J 93 [sd a b] (qr (b - a)) := by
  refine fn_ok Tryz.func93 rfl rfl rfl ?_
  have c1 := f50_ok B hb ha
  repeat (first | (refine W.RS (by kernel_rfl) ?_; conv => whnf) | (refine W.ret ?_; conv => whnf) | (refine ⟨_, c1, ?_⟩; conv => whnf))
  rfl
theorem f55_ok {J : Keep} {a b : Rat} (ha : qln a < 2 ^ 38) (hb : qln b < 2 ^ 38) : C J 55 [sd a b] (.bool (decide (cmpR a b ≤ 0))) := by
  refine fn_ok Tryz.func55 rfl rfl rfl ?_
  have c1 := f37_ok (J := J) ha hb
  repeat (first | (refine W.RS (by kernel_rfl) ?_; conv => whnf) | (refine W.ret ?_; conv => whnf) | (refine ⟨_, c1, ?_⟩; conv => whnf) | (refine ⟨_, rfl, ?_⟩; conv => whnf) | (refine ⟨rfl, ?_⟩; conv => whnf))
  rfl
end Go.Proofs.Fl
namespace Go.Proofs.Fl
open Go.RowKit Go.Proofs.Dig
attribute [local irreducible] IntKind.wrap PureC MutC MakC IterC
theorem f30_ok {J : Keep} {a b q : Rat} (ha : qln a < 2 ^ 38) (hb : qln b < 2 ^ 38) (hq : qln q < 2 ^ 38) : C J 30 [sd a b, qr q] (.bool (decide (cmpR a q ≤ 0) && decide (cmpR q b ≤ 0))) := by
  refine fn_ok Tryz.func30 rfl rfl rfl ?_
  have c1 := f37_ok (J := J) ha hq
  have c2 := f37_ok (J := J) hq hb
  by_cases h : cmpR a q ≤ 0
  · rw [decide_eq_true h]
    repeat (first | (refine W.RS (by kernel_rfl) ?_; conv => whnf) | (refine W.ret ?_; conv => whnf) | (refine ⟨_, c1, ?_⟩; conv => whnf) | (refine ⟨_, c2, ?_⟩; conv => whnf) | (refine ⟨true, decide_eq_true (by omega), ?_⟩; conv => whnf) | (refine ⟨_, rfl, ?_⟩; conv => whnf) | (refine ⟨rfl, ?_⟩; conv => whnf) | (refine ⟨_, fun _ => rfl, fun h => absurd h.symm Bool.false_ne_true, ?_⟩; conv => whnf))
    rfl
  · rw [decide_eq_false h]
    repeat (first | (refine W.RS (by kernel_rfl) ?_; conv => whnf) | (refine W.ret ?_; conv => whnf) | (refine ⟨_, c1, ?_⟩; conv => whnf) | (refine ⟨false, decide_eq_false (by omega), ?_⟩; conv => whnf) | (refine ⟨rfl, ?_⟩; conv => whnf) | (refine ⟨_, fun h => absurd h Bool.false_ne_true, fun _ => rfl, ?_⟩; conv => whnf))
    rfl
theorem f53_ok {J : Keep} {a b c d : Rat} (ha : qln a < 2 ^ 38) (hb : qln b < 2 ^ 38) (hc : qln c < 2 ^ 38) (hd : qln d < 2 ^ 38) : C J 53 [sd a b, sd c d] (.bool (decide (cmpR c a ≤ 0) && decide (cmpR b d ≤ 0))) := by
  refine fn_ok Tryz.func53 rfl rfl rfl ?_
  have c1 := f37_ok (J := J) hc ha
  have c2 := f37_ok (J := J) hb hd
  by_cases h : cmpR c a ≤ 0
  · rw [decide_eq_true h]
    repeat (first | (refine W.RS (by kernel_rfl) ?_; conv => whnf) | (refine W.ret ?_; conv => whnf) | (refine ⟨_, c1, ?_⟩; conv => whnf) | (refine ⟨_, c2, ?_⟩; conv => whnf) | (refine ⟨true, decide_eq_true (by omega), ?_⟩; conv => whnf) | (refine ⟨_, rfl, ?_⟩; conv => whnf) | (refine ⟨rfl, ?_⟩; conv => whnf) | (refine ⟨_, fun _ => rfl, fun h => absurd h.symm Bool.false_ne_true, ?_⟩; conv => whnf))
    rfl
  · rw [decide_eq_false h]
    repeat (first | (refine W.RS (by kernel_rfl) ?_; conv => whnf) | (refine W.ret ?_; conv => whnf) | (refine ⟨_, c1, ?_⟩; conv => whnf) | (refine ⟨false, decide_eq_false (by omega), ?_⟩; conv => whnf) | (refine ⟨rfl, ?_⟩; conv => whnf) | (refine ⟨_, fun h => absurd h Bool.false_ne_true, fun _ => rfl, ?_⟩; conv => whnf))
    rfl
theorem qln_ratio {z : Int} {d : Nat} (hd : 0 < d) : qln (mkRat z d) ≤ ln z.natAbs + ln d := by
  unfold qln
  rw [mkRat_num hd, mkRat_den hd]
  have h1 : (sv (decide (z < 0)) (z.natAbs / Nat.gcd z.natAbs d)).natAbs ≤ z.natAbs := by
    have h2 := Nat.div_le_self z.natAbs (Nat.gcd z.natAbs d)
    generalize z.natAbs / Nat.gcd z.natAbs d = t at h2 ⊢
    unfold sv
    split <;> omega
  have h2 := ln_mono h1
  have h3 := ln_mono (Nat.div_le_self d (Nat.gcd z.natAbs d))
  omega
theorem qln_mul (a b : Rat) : qln (a * b) ≤ qln a + qln b := by
  rw [Rat.mul_def']
  have h := qln_ratio (z := a.num * b.num) (d := a.den * b.den) (Nat.mul_pos (den_pos a) (den_pos b))
  have h1 := ln_mul_le a.num.natAbs b.num.natAbs
  have h2 := ln_mul_le a.den b.den
  rw [Int.natAbs_mul] at h
  unfold qln at *
  omega
theorem qln_add (a b : Rat) : qln (a + b) ≤ 2 * qln a + 2 * qln b + 1 := by
  rw [Rat.add_def']
  have h := qln_ratio (z := a.num * (b.den : Int) + b.num * (a.den : Int)) (d := a.den * b.den) (Nat.mul_pos (den_pos a) (den_pos b))
  have h1 := ln_mul_le a.num.natAbs b.den
  have h1' := ln_mul_le b.num.natAbs a.den
  have h2 := ln_mul_le a.den b.den
  have e1 : (a.num * (b.den : Int)).natAbs = a.num.natAbs * b.den := by rw [Int.natAbs_mul, Int.natAbs_natCast]
  have e1' : (b.num * (a.den : Int)).natAbs = b.num.natAbs * a.den := by rw [Int.natAbs_mul, Int.natAbs_natCast]
  have h3 := ln_add_le (a.num.natAbs * b.den) (b.num.natAbs * a.den)
  have h4 : (a.num * (b.den : Int) + b.num * (a.den : Int)).natAbs ≤ a.num.natAbs * b.den + b.num.natAbs * a.den := by
    rw [← e1, ← e1']; exact Int.natAbs_add_le _ _
  have h5 := ln_mono h4
  unfold qln at *
  omega
def gk (k : Int) : Nat := 2 ^ intoN k 256
theorem qln_fine (k : Int) : qln (mkRat 1 (gk k)) ≤ 258 := by
  have h := qln_ratio (z := 1) (d := gk k) (two_pow_pos k)
  have h1 := ln_two_pow k
  have h2 := ln_one
  have h3 : ln (1 : Int).natAbs = ln 1 := rfl
  unfold gk at *
  omega
theorem qln_floor {q : Rat} : qln ((q.floor : Int) : Rat) ≤ ln q.num.natAbs + 1 := by
  rw [qln_int, Rat.floor_def]
  have h1 := ln_mono (Int.natAbs_ediv_le_natAbs q.num (q.den : Int))
  omega
theorem f40_ok {J : Keep} (B : Base J) {q : Rat} (h : qln q < 2 ^ 30) (k : Int) : C J 40 [qr q, .int .i64 k] (qr (((q * (((gk k : Nat) : Int) : Rat)).floor : Rat) * mkRat 1 (gk k))) := by
  refine fn_ok Tryz.func40 rfl rfl rfl ?_
  have c1 := f167_ok B (q := q) (by omega) k
  have h1 := qln_mul q (((gk k : Nat) : Int) : Rat)
  have h2 : qln (((gk k : Nat) : Int) : Rat) ≤ 258 := by
    have := ln_two_pow k
    rw [qln_int, Int.natAbs_natCast]; unfold gk; omega
  have c2 := f86_ok (J := J) (q := q * (((gk k : Nat) : Int) : Rat)) (by omega)
  have c3 := f46_ok B k
  have h3 := qln_floor (q := q * (((gk k : Nat) : Int) : Rat))
  have h4 := qln_fine k
  have c4 := f49_ok B (a := (((q * (((gk k : Nat) : Int) : Rat)).floor : Int) : Rat)) (b := mkRat 1 (gk k)) (by unfold qln at h1 h2 h; unfold qln at h3 ⊢; omega) (by omega)
  repeat (first | (refine W.RS (by kernel_rfl) ?_; conv => whnf) | (refine W.ret ?_; conv => whnf) | (refine ⟨_, c1, ?_⟩; conv => whnf) | (refine ⟨_, c2, ?_⟩; conv => whnf) | (refine ⟨_, c3, ?_⟩; conv => whnf) | (refine ⟨_, c4, ?_⟩; conv => whnf))
  rfl
end Go.Proofs.Fl
namespace Go.Proofs.Fl
open Go.RowKit Go.Proofs.Dig
attribute [local irreducible] IntKind.wrap PureC MutC MakC IterC
theorem f41_ok {J : Keep} (B : Base J) {q : Rat} (h : qln q < 2 ^ 30) (k : Int) : C J 41 [qr q, .int .i64 k] (qr (-((-(q * (((gk k : Nat) : Int) : Rat))).floor : Rat) * mkRat 1 (gk k))) := by
  refine fn_ok Tryz.func41 rfl rfl rfl ?_
  have c1 := f167_ok B (q := q) (by omega) k
  have h1 := qln_mul q (((gk k : Nat) : Int) : Rat)
  have h2 : qln (((gk k : Nat) : Int) : Rat) ≤ 258 := by
    have := ln_two_pow k
    rw [qln_int, Int.natAbs_natCast]; unfold gk; omega
  have c2 := f88_ok (J := J) (q := q * (((gk k : Nat) : Int) : Rat)) (by omega)
  have c3 := f46_ok B k
  have h3 := qln_floor (q := -(q * (((gk k : Nat) : Int) : Rat)))
  rw [Rat.neg_num, Int.natAbs_neg] at h3
  have h4 := qln_fine k
  have c4 := f49_ok B (a := -(((-(q * (((gk k : Nat) : Int) : Rat))).floor : Int) : Rat)) (b := mkRat 1 (gk k)) (by rw [qln_neg]; unfold qln at h1 h2 h; unfold qln at h3 ⊢; omega) (by omega)
  repeat (first | (refine W.RS (by kernel_rfl) ?_; conv => whnf) | (refine W.ret ?_; conv => whnf) | (refine ⟨_, c1, ?_⟩; conv => whnf) | (refine ⟨_, c2, ?_⟩; conv => whnf) | (refine ⟨_, c3, ?_⟩; conv => whnf) | (refine ⟨_, c4, ?_⟩; conv => whnf))
  rfl
theorem f96_ok {J : Keep} (B : Base J) {a b c d : Rat} (ha : qln a < 2 ^ 38) (hb : qln b < 2 ^ 38) (hc : qln c < 2 ^ 38) (hd : qln d < 2 ^ 38) : C J 96 [sd a b, sd c d] (sd (a + c) (b + d)) := by
  refine fn_ok Tryz.func96 rfl rfl rfl ?_
  have c1 := f48_ok B ha hc
  have c2 := f48_ok B hb hd
  repeat (first | (refine W.RS (by kernel_rfl) ?_; conv => whnf) | (refine W.ret ?_; conv => whnf) | (refine ⟨_, c1, ?_⟩; conv => whnf) | (refine ⟨_, c2, ?_⟩; conv => whnf) | (refine ⟨rfl, ?_⟩; conv => whnf))
  rfl
theorem f102_ok (J : Keep) (a b : Rat) : C J 102 [sd a b] (sd (-b) (-a)) := by
  refine fn_ok Tryz.func102 rfl rfl rfl ?_
  have c1 := f66_ok J a
  have c2 := f66_ok J b
  repeat (first | (refine W.RS (by kernel_rfl) ?_; conv => whnf) | (refine W.ret ?_; conv => whnf) | (refine ⟨_, c1, ?_⟩; conv => whnf) | (refine ⟨_, c2, ?_⟩; conv => whnf) | (refine ⟨rfl, ?_⟩; conv => whnf))
  rfl
theorem f98_ok {J : Keep} (B : Base J) {a b c d : Rat} (ha : qln a < 2 ^ 38) (hb : qln b < 2 ^ 38) (hc : qln c < 2 ^ 38) (hd : qln d < 2 ^ 38) : C J 98 [sd a b, sd c d] (sd (a - d) (b - c)) := by
  refine fn_ok Tryz.func98 rfl rfl rfl ?_
  have c1 := f102_ok J c d
  have c2 := f96_ok B ha hb (c := -d) (d := -c) (by rw [qln_neg]; exact hd) (by rw [qln_neg]; exact hc)
  rw [← Rat.sub_eq_add_neg, ← Rat.sub_eq_add_neg] at c2
  repeat (first | (refine W.RS (by kernel_rfl) ?_; conv => whnf) | (refine W.ret ?_; conv => whnf) | (refine ⟨_, c1, ?_⟩; conv => whnf) | (refine ⟨_, c2, ?_⟩; conv => whnf) | (refine ⟨rfl, ?_⟩; conv => whnf))
  rfl
theorem f94_ok {J : Keep} (B : Base J) {a b : Rat} (ha : qln a < 2 ^ 30) (hb : qln b < 2 ^ 30) : C J 94 [sd a b] (qr ((a + b) * mkRat 1 (gk 1))) := by
  refine fn_ok Tryz.func94 rfl rfl rfl ?_
  have c1 := f48_ok B (a := a) (b := b) (by omega) (by omega)
  have c2 := f46_ok B 1
  have h1 := qln_add a b
  have h4 := qln_fine 1
  have c3 := f49_ok B (a := a + b) (b := mkRat 1 (gk 1)) (by omega) (by omega)
  repeat (first | (refine W.RS (by kernel_rfl) ?_; conv => whnf) | (refine W.ret ?_; conv => whnf) | (refine ⟨_, c1, ?_⟩; conv => whnf) | (refine ⟨_, c2, ?_⟩; conv => whnf) | (refine ⟨_, c3, ?_⟩; conv => whnf))
  rfl
theorem f45_ok {J : Keep} (B : Base J) {q : Rat} (h : qln q < 2 ^ 30) (k : Int) : C J 45 [qr q, .int .i64 k] (sd (((q * (((gk k : Nat) : Int) : Rat)).floor : Rat) * mkRat 1 (gk k)) (-((-(q * (((gk k : Nat) : Int) : Rat))).floor : Rat) * mkRat 1 (gk k))) := by
  refine fn_ok Tryz.func45 rfl rfl rfl ?_
  have c1 := f40_ok B h k
  have c2 := f41_ok B h k
  repeat (first | (refine W.RS (by kernel_rfl) ?_; conv => whnf) | (refine W.ret ?_; conv => whnf) | (refine ⟨_, c1, ?_⟩; conv => whnf) | (refine ⟨_, c2, ?_⟩; conv => whnf) | (refine ⟨rfl, ?_⟩; conv => whnf))
  rfl
theorem f111_ok {J : Keep} (B : Base J) {a b : Rat} (ha : qln a < 2 ^ 30) (hb : qln b < 2 ^ 30) (k : Int) : C J 111 [sd a b, .int .i64 k] (sd (((a * (((gk k : Nat) : Int) : Rat)).floor : Rat) * mkRat 1 (gk k)) (-((-(b * (((gk k : Nat) : Int) : Rat))).floor : Rat) * mkRat 1 (gk k))) := by
  refine fn_ok Tryz.func111 rfl rfl rfl ?_
  have c1 := f40_ok B ha k
  have c2 := f41_ok B hb k
  repeat (first | (refine W.RS (by kernel_rfl) ?_; conv => whnf) | (refine W.ret ?_; conv => whnf) | (refine ⟨_, c1, ?_⟩; conv => whnf) | (refine ⟨_, c2, ?_⟩; conv => whnf) | (refine ⟨rfl, ?_⟩; conv => whnf))
  rfl
end Go.Proofs.Fl
namespace Go.Proofs.Fl
open Go.RowKit Go.Proofs.Dig
attribute [local irreducible] IntKind.wrap PureC MutC MakC IterC
def d64 (d : Nat) : IV := .int .i64 d
theorem getd {l : List Nat} {j : Nat} (h : j < l.length) : (l.map d64)[j]? = some (d64 (l.getD j 0)) := by simp [h]
theorem all64 {l : List Nat} : ∀ y ∈ l.map d64, y.cells.length = 1 := by
  intro y hy
  obtain ⟨d, _, rfl⟩ := List.mem_map.1 hy
  rfl
theorem slEq {a b : List IV} (h : a = b) : SV.iv (.sl a) = SV.iv (.sl b) := by rw [h]
theorem f225_ok (J : Keep) {l : List Nat} (_hl : l.length < 2 ^ 60) : C J 225 [.sl (l.map d64)] (.sl ((l.dropWhile (· == 0)).map d64)) := by
  refine fn_ok Tryz.func225 rfl rfl rfl ?_
  repeat (first | (refine W.RS (by kernel_rfl) ?_; conv => whnf) | (refine W.S ?_) | (refine W.block ?_))
  refine W.loop (G := { m : List Nat // m.dropWhile (· == 0) = l.dropWhile (· == 0) ∧ m.length ≤ l.length }) (fun m => mkA [(0, .iv (.sl (m.1.map d64)))] [] 10) (fun m => m.1.length) ⟨l, rfl, Nat.le_refl _⟩
    (Wk.tab [] ⟨⟨rfl, rfl⟩, trivial⟩ trivial rfl) ?_
  rintro ⟨m, hm, hml⟩
  show W J _ _ (mkA [(0, .iv (.sl (m.map d64)))] [] 10) _
  have lm : (m.map d64).length = m.length := by simp
  cases m with
  | nil =>
    repeat (first | (refine W.RS (by kernel_rfl) ?_; conv => whnf) | (refine W.S ?_) | (refine W.ret ?_; conv => whnf) | (refine W.exit ?_; conv => whnf) | (refine W.condF rfl ?_) | (refine ⟨_, rfl, ?_⟩; conv => whnf) | (refine ⟨rfl, ?_⟩; conv => whnf) | (refine ⟨_, fun h => absurd h Bool.false_ne_true, fun _ => rfl, ?_⟩; conv => whnf))
    rw [← hm]; rfl
  | cons x m =>
    have hl2 : (x :: m).length = m.length + 1 := rfl
    by_cases h0 : x = 0
    · subst h0
      repeat (first | (refine W.RS (by kernel_rfl) ?_; conv => whnf) | (refine W.R (by kernel_rfl) ?_; conv => whnf) | (refine W.S ?_) | (refine W.block ?_) | (refine W.skip ?_; conv => whnf) | (refine W.condT rfl ?_) | (refine ⟨0, d64 0, rfl, rfl, rfl, ?_⟩; conv => whnf) | (refine ⟨.inl rfl, .inr all64, ?_⟩; conv => whnf) | (refine ⟨_, castA _, ?_⟩; conv => whnf) | (refine ⟨true, decide_eq_true (by omega), ?_⟩; conv => whnf) | (refine ⟨rfl, ?_⟩; conv => whnf) | (refine And.intro (by omega) ?_; conv => whnf) | (refine ⟨_, fun _ => rfl, fun h => absurd h.symm Bool.false_ne_true, ?_⟩; conv => whnf))
      refine ⟨⟨m, by rw [← hm]; simp, by omega⟩, Wk.tab [] ⟨⟨slEq ?_, rfl⟩, trivial⟩ trivial rfl, ?_⟩
      · rw [List.take_of_length_le (by simp)]; rfl
      · show m.length < (0 :: m).length
        omega
    · repeat (first | (refine W.RS (by kernel_rfl) ?_; conv => whnf) | (refine W.S ?_) | (refine W.ret ?_; conv => whnf) | (refine W.exit ?_; conv => whnf) | (refine W.condF rfl ?_) | (refine ⟨0, d64 x, rfl, rfl, rfl, ?_⟩; conv => whnf) | (refine ⟨_, castA _, ?_⟩; conv => whnf) | (refine ⟨true, decide_eq_true (by omega), ?_⟩; conv => whnf) | (refine ⟨false, decide_eq_false (by omega), ?_⟩; conv => whnf) | (refine ⟨rfl, ?_⟩; conv => whnf) | (refine ⟨_, fun _ => rfl, fun h => absurd h.symm Bool.false_ne_true, ?_⟩; conv => whnf))
      have e : (x :: m).dropWhile (· == 0) = x :: m := by simp [h0]
      rw [← hm, e]
      rfl
end Go.Proofs.Fl
namespace Go.Proofs.Fl
open Go.RowKit Go.Proofs.Dig
attribute [local irreducible] IntKind.wrap PureC MutC MakC IterC
theorem f232_ok (J : Keep) (l m : List Nat) : C J 232 [.sl (l.map d64), .sl (m.map d64)] (.int .i64 (max l.length m.length : Nat)) := by
  have la : (l.map d64).length = l.length := by simp
  have lb : (m.map d64).length = m.length := by simp
  refine fn_ok Tryz.func232 rfl rfl rfl ?_
  by_cases h : m.length < l.length
  · repeat (first | (refine W.RS (by kernel_rfl) ?_; conv => whnf) | (refine W.S ?_) | (refine W.ret ?_; conv => whnf) | (refine W.condT rfl ?_) | (refine ⟨true, decide_eq_true (by omega), ?_⟩; conv => whnf) | (refine ⟨_, rfl, ?_⟩; conv => whnf) | (refine ⟨rfl, ?_⟩; conv => whnf))
    rw [show max l.length m.length = (l.map d64).length by omega]
    rfl
  · repeat (first | (refine W.RS (by kernel_rfl) ?_; conv => whnf) | (refine W.S ?_) | (refine W.ret ?_; conv => whnf) | (refine W.skip ?_; conv => whnf) | (refine W.condF rfl ?_) | (refine ⟨false, decide_eq_false (by omega), ?_⟩; conv => whnf) | (refine ⟨_, rfl, ?_⟩; conv => whnf) | (refine ⟨rfl, ?_⟩; conv => whnf))
    rw [show max l.length m.length = (m.map d64).length by omega]
    rfl
theorem f233_ok (J : Keep) {l : List Nat} {i : Nat} (hl : l.length < 2 ^ 60) (hi : i < 2 ^ 60) : C J 233 [.sl (l.map d64), .int .i64 i] (.int .i64 (l.reverse.getD i 0 : Nat)) := by
  have la : (l.map d64).length = l.length := by simp
  refine fn_ok Tryz.func233 rfl rfl rfl ?_
  by_cases h : l.length ≤ i
  · repeat (first | (refine W.RS (by kernel_rfl) ?_; conv => whnf) | (refine W.S ?_) | (refine W.ret ?_; conv => whnf) | (refine W.condT rfl ?_) | (refine ⟨true, decide_eq_true (by omega), ?_⟩; conv => whnf) | (refine ⟨_, rfl, ?_⟩; conv => whnf) | (refine ⟨rfl, ?_⟩; conv => whnf))
    have e : l.reverse.getD i 0 = 0 := by simp [h]
    rw [e]; rfl
  · repeat (first | (refine W.RS (by kernel_rfl) ?_; conv => whnf) | (refine W.S ?_) | (refine W.ret ?_; conv => whnf) | (refine W.skip ?_; conv => whnf) | (refine W.condF rfl ?_) | (refine ⟨l.length - 1 - i, _, by omega, getd (by omega), rfl, ?_⟩; conv => whnf) | (refine ⟨rfl, _, w64 (by omega), ?_⟩; conv => whnf) | (refine ⟨false, decide_eq_false (by omega), ?_⟩; conv => whnf) | (refine ⟨_, rfl, ?_⟩; conv => whnf) | (refine ⟨rfl, ?_⟩; conv => whnf))
    have e : l.reverse.getD i 0 = l.getD (l.length - 1 - i) 0 := by
      rw [List.getD_eq_getElem?_getD, List.getD_eq_getElem?_getD, List.getElem?_reverse (by omega)]
    rw [e]; rfl
end Go.Proofs.Fl
namespace Go.Proofs.Fl
open Go.RowKit Go.Proofs.Dig
attribute [local irreducible] IntKind.wrap PureC MutC MakC IterC
abbrev B15 : Nat := 32768
def hv (l : List Nat) : Nat := nv B15 l.reverse
def Hk (l : List Nat) : Prop := Ok B15 l.reverse
theorem hv_lt_of_len {l m : List Nat} (hl : Hk l) (hm : Hk m) (h : l.length < m.length) : hv l < hv m :=
  nv_lt_of_len (by decide) hl.dg hm.nm (by simpa using h)
theorem hv_split {p l : List Nat} {x : Nat} : hv (p ++ x :: l) = hv l + B15 ^ l.length * (x + B15 * hv p) := by
  unfold hv
  rw [List.reverse_append, List.reverse_cons, List.append_assoc, nv_append, List.length_reverse]
  rfl
theorem hv_top {l m : List Nat} {i : Nat} (hl : Hk l) (he : l.length = m.length) (hi : i < l.length) (ht : l.take i = m.take i) (hd : l.getD i 0 < m.getD i 0) : hv l < hv m := by
  have e1 : l.reverse = (l.drop (i + 1)).reverse ++ l.getD i 0 :: (l.take i).reverse := by
    have : l = l.take i ++ l.getD i 0 :: l.drop (i + 1) := by
      rw [List.getD_eq_getElem?_getD, List.getElem?_eq_getElem hi]; simp
    rw [show l.reverse = (l.take i ++ l.getD i 0 :: l.drop (i + 1)).reverse by rw [← this]]
    simp
  have e2 : m.reverse = (m.drop (i + 1)).reverse ++ m.getD i 0 :: (l.take i).reverse := by
    have : m = m.take i ++ m.getD i 0 :: m.drop (i + 1) := by
      rw [List.getD_eq_getElem?_getD, List.getElem?_eq_getElem (show i < m.length by omega)]; simp
    rw [ht, show m.reverse = (m.take i ++ m.getD i 0 :: m.drop (i + 1)).reverse by rw [← this]]
    simp
  unfold hv
  rw [e1, e2]
  refine nv_lt_top ?_ (by simp; omega) hd
  have := hl.dg
  rw [e1] at this
  exact this.left
theorem f207_ok (J : Keep) {l m : List Nat} (hl : Hk l) (hm : Hk m) (hs : l.length < 2 ^ 60) : C J 207 [.sl (l.map d64), .sl (m.map d64)] (.int .i64 (cmpI (hv l : Nat) (hv m : Nat))) := by
  have la : (l.map d64).length = l.length := by simp
  have lb : (m.map d64).length = m.length := by simp
  refine fn_ok Tryz.func207 rfl rfl rfl ?_
  by_cases h : l.length = m.length
  · repeat (first | (refine W.RS (by kernel_rfl) ?_; conv => whnf) | (refine W.S ?_) | (refine W.block ?_) | (refine W.skip ?_; conv => whnf) | (refine W.condF rfl ?_) | (refine ⟨false, bne_eq_false_iff_eq.2 (by omega), ?_⟩; conv => whnf) | (refine ⟨_, rfl, ?_⟩; conv => whnf) | (refine ⟨rfl, ?_⟩; conv => whnf))
    refine W.loop (G := { i : Nat // i ≤ l.length ∧ l.take i = m.take i }) (fun i => mkA [(0, .iv (.sl (l.map d64))), (1, .iv (.sl (m.map d64))), (5, .iv (.int .i64 (i.1 : Int)))] [] 10) (fun i => l.length - i.1) ⟨0, by omega, by simp⟩
      (Wk.tab [] ⟨⟨rfl, rfl⟩, ⟨rfl, rfl⟩, ⟨rfl, rfl⟩, trivial⟩ trivial rfl) ?_
    rintro ⟨i, hi, he⟩
    show W J _ _ (mkA [(0, .iv (.sl (l.map d64))), (1, .iv (.sl (m.map d64))), (5, .iv (.int .i64 (i : Int)))] [] 10) _
    by_cases h2 : i < l.length
    · rcases Nat.lt_trichotomy (l.getD i 0) (m.getD i 0) with h3 | h3 | h3
      · have hlt := hv_top hl h h2 he h3
        repeat (first | (refine W.RS (by kernel_rfl) ?_; conv => whnf) | (refine W.S ?_) | (refine W.block ?_) | (refine W.ret ?_; conv => whnf) | (refine W.skip ?_; conv => whnf) | (refine W.condT rfl ?_) | (refine ⟨i, _, rfl, getd (by omega), rfl, ?_⟩; conv => whnf) | (refine ⟨true, decide_eq_true (by omega), ?_⟩; conv => whnf) | (refine ⟨_, rfl, ?_⟩; conv => whnf) | (refine ⟨rfl, ?_⟩; conv => whnf))
        rw [cmpI_of_lt (by omega)]; rfl
      · repeat (first | (refine W.RS (by kernel_rfl) ?_; conv => whnf) | (refine W.R (by kernel_rfl) ?_; conv => whnf) | (refine W.S ?_) | (refine W.block ?_) | (refine W.skip ?_; conv => whnf) | (refine W.condF rfl ?_) | (refine W.condT rfl ?_) | (refine ⟨i, _, rfl, getd (by omega), rfl, ?_⟩; conv => whnf) | (refine ⟨rfl, _, w64 (by omega), ?_⟩; conv => whnf) | (refine ⟨true, decide_eq_true (by omega), ?_⟩; conv => whnf) | (refine ⟨false, decide_eq_false (by omega), ?_⟩; conv => whnf) | (refine ⟨_, rfl, ?_⟩; conv => whnf) | (refine ⟨rfl, ?_⟩; conv => whnf))
        refine ⟨⟨i + 1, by omega, ?_⟩, Wk.tab [] ⟨⟨rfl, rfl⟩, ⟨rfl, rfl⟩, ⟨rfl, rfl⟩, trivial⟩ trivial rfl, ?_⟩
        · rw [List.take_add_one, List.take_add_one, he]
          rw [List.getD_eq_getElem?_getD, List.getD_eq_getElem?_getD, List.getElem?_eq_getElem h2, List.getElem?_eq_getElem (show i < m.length by omega)] at h3
          rw [List.getElem?_eq_getElem h2, List.getElem?_eq_getElem (show i < m.length by omega)]
          simp only [Option.getD_some] at h3
          rw [h3]
        · show l.length - (i + 1) < l.length - i
          omega
      · have hlt := hv_top hm h.symm (by omega) he.symm h3
        repeat (first | (refine W.RS (by kernel_rfl) ?_; conv => whnf) | (refine W.S ?_) | (refine W.block ?_) | (refine W.ret ?_; conv => whnf) | (refine W.skip ?_; conv => whnf) | (refine W.condF rfl ?_) | (refine W.condT rfl ?_) | (refine ⟨i, _, rfl, getd (by omega), rfl, ?_⟩; conv => whnf) | (refine ⟨true, decide_eq_true (by omega), ?_⟩; conv => whnf) | (refine ⟨false, decide_eq_false (by omega), ?_⟩; conv => whnf) | (refine ⟨_, rfl, ?_⟩; conv => whnf) | (refine ⟨rfl, ?_⟩; conv => whnf))
        rw [cmpI_of_gt (by omega)]; rfl
    · have e : l = m := by
        have hil : i = l.length := by omega
        rw [hil, List.take_of_length_le (Nat.le_refl _), List.take_of_length_le (by omega)] at he
        exact he
      repeat (first | (refine W.RS (by kernel_rfl) ?_; conv => whnf) | (refine W.S ?_) | (refine W.ret ?_; conv => whnf) | (refine W.exit ?_; conv => whnf) | (refine W.condF rfl ?_) | (refine ⟨false, decide_eq_false (by omega), ?_⟩; conv => whnf) | (refine ⟨_, rfl, ?_⟩; conv => whnf) | (refine ⟨rfl, ?_⟩; conv => whnf))
      rw [e, cmpI_of_eq rfl]; rfl
  · by_cases h2 : l.length < m.length
    · have := hv_lt_of_len hl hm h2
      repeat (first | (refine W.RS (by kernel_rfl) ?_; conv => whnf) | (refine W.S ?_) | (refine W.ret ?_; conv => whnf) | (refine W.condT rfl ?_) | (refine ⟨true, decide_eq_true (by omega), ?_⟩; conv => whnf) | (refine ⟨true, bne_iff_ne.2 (by omega), ?_⟩; conv => whnf) | (refine ⟨_, rfl, ?_⟩; conv => whnf) | (refine ⟨rfl, ?_⟩; conv => whnf))
      rw [cmpI_of_lt (by omega)]; rfl
    · have := hv_lt_of_len hm hl (by omega)
      repeat (first | (refine W.RS (by kernel_rfl) ?_; conv => whnf) | (refine W.S ?_) | (refine W.ret ?_; conv => whnf) | (refine W.skip ?_; conv => whnf) | (refine W.condF rfl ?_) | (refine W.condT rfl ?_) | (refine ⟨false, decide_eq_false (by omega), ?_⟩; conv => whnf) | (refine ⟨true, bne_iff_ne.2 (by omega), ?_⟩; conv => whnf) | (refine ⟨_, rfl, ?_⟩; conv => whnf) | (refine ⟨rfl, ?_⟩; conv => whnf))
      rw [cmpI_of_gt (by omega)]; rfl
end Go.Proofs.Fl
namespace Go.Proofs.Fl
open Go.RowKit Go.Proofs.Dig
attribute [local irreducible] IntKind.wrap PureC MutC MakC IterC
theorem dh_ex (n : Nat) : ∃ l, Ok B15 l ∧ nv B15 l = n := by
  induction n using Nat.strongRecOn with
  | _ n ih =>
    by_cases h : n = 0
    · exact ⟨[], Ok.nil _, by rw [h]; rfl⟩
    · obtain ⟨l, h1, h2⟩ := ih (n / B15) (Nat.div_lt_self (by omega) (by decide))
      refine ⟨n % B15 :: l, ⟨?_, ?_⟩, ?_⟩
      · intro d hd
        rcases List.mem_cons.1 hd with rfl | hd
        · exact Nat.mod_lt _ (by decide)
        · exact h1.dg d hd
      · intro d hd
        cases l with
        | nil =>
          simp at hd; subst hd
          have : n / B15 = 0 := h2.symm
          have h5 := Nat.div_add_mod n B15
          rw [this] at h5
          omega
        | cons x l => exact h1.nm d (by rwa [List.getLast?_cons_cons] at hd)
      · rw [nv_cons, h2, Nat.mod_add_div]
noncomputable def dh (n : Nat) : List Nat := (dh_ex n).choose.reverse
theorem dh_ok (n : Nat) : Hk (dh n) := by unfold Hk dh; rw [List.reverse_reverse]; exact (dh_ex n).choose_spec.1
theorem dh_hv (n : Nat) : hv (dh n) = n := by unfold hv dh; rw [List.reverse_reverse]; exact (dh_ex n).choose_spec.2
theorem dh_of {l : List Nat} (h : Hk l) {n : Nat} (e : hv l = n) : l = dh n := by
  have := nv_inj (by decide) h (dh_ok n) (by show hv l = hv (dh n); rw [e, dh_hv])
  exact List.reverse_inj.1 this
theorem strip_rev (l : List Nat) : (l.dropWhile (· == 0)).reverse = strip l.reverse := by
  unfold strip; rw [List.reverse_reverse]
theorem dh_strip {l : List Nat} (h : Dg B15 l.reverse) {n : Nat} (e : hv l = n) : l.dropWhile (· == 0) = dh n := by
  refine dh_of ?_ ?_
  · unfold Hk; rw [strip_rev]; exact Ok.strip h
  · unfold hv at *; rw [strip_rev, nv_strip]; exact e
theorem dh_zero : dh 0 = [] := (dh_of (l := []) (Ok.nil _) rfl).symm
theorem dh_nil {n : Nat} (h : dh n = []) : n = 0 := by have := dh_hv n; rw [h] at this; exact this.symm
noncomputable abbrev zh (z : Int) : IV := .agg [.int .i64 z.sign, .sl ((dh z.natAbs).map d64)]
theorem f193_ok (J : Keep) {l : List Nat} {s : Int} (hs : s = 1 ∨ s = -1 ∨ hv l = 0) (hd : Dg B15 l.reverse) (hl : l.length < 2 ^ 60) : C J 193 [.int .i64 s, .sl (l.map d64)] (zh (s * (hv l : Nat))) := by
  refine fn_ok Tryz.func193 rfl rfl rfl ?_
  have c1 := f225_ok J hl
  rw [dh_strip hd rfl] at c1
  have le : ((dh (hv l)).map d64).length = (dh (hv l)).length := by simp
  by_cases h0 : hv l = 0
  · rw [h0, dh_zero] at c1
    repeat (first | (refine W.RS (by kernel_rfl) ?_; conv => whnf) | (refine W.S ?_) | (refine W.ret ?_; conv => whnf) | (refine W.condT rfl ?_) | (refine ⟨_, c1, ?_⟩; conv => whnf) | (refine ⟨_, rfl, ?_⟩; conv => whnf) | (refine ⟨rfl, ?_⟩; conv => whnf))
    rw [h0, show s * ((0 : Nat) : Int) = 0 by simp, show zh 0 = .agg [.int .i64 0, .sl ((dh 0).map d64)] from rfl, dh_zero]
    rfl
  · have h1 : (dh (hv l)).length ≠ 0 := fun e => h0 (dh_nil (List.eq_nil_of_length_eq_zero e))
    repeat (first | (refine W.RS (by kernel_rfl) ?_; conv => whnf) | (refine W.S ?_) | (refine W.ret ?_; conv => whnf) | (refine W.skip ?_; conv => whnf) | (refine W.condF rfl ?_) | (refine ⟨_, c1, ?_⟩; conv => whnf) | (refine ⟨false, decide_eq_false (by omega), ?_⟩; conv => whnf) | (refine ⟨_, rfl, ?_⟩; conv => whnf) | (refine ⟨rfl, ?_⟩; conv => whnf))
    have e1 : (s * (hv l : Nat)).sign = s := by
      rcases hs with rfl | rfl | h
      · rw [Int.one_mul, Int.sign_eq_one_of_pos (by omega)]
      · rw [Int.neg_mul, Int.one_mul, Int.sign_eq_neg_one_of_neg (by omega)]
      · exact absurd h h0
    have e2 : (s * (hv l : Nat)).natAbs = hv l := by
      rcases hs with rfl | rfl | h
      · omega
      · omega
      · exact absurd h h0
    rw [zh, e1, e2]
    rfl
end Go.Proofs.Fl
namespace Go.Proofs.Fl
open Go.RowKit Go.Proofs.Dig
attribute [local irreducible] IntKind.wrap PureC MutC MakC IterC
theorem sign3 (z : Int) : z.sign = -1 ∨ z.sign = 0 ∨ z.sign = 1 := by
  rcases Int.lt_trichotomy z 0 with h | h | h
  · exact .inl (Int.sign_eq_neg_one_of_neg h)
  · right; left; rw [h]; rfl
  · exact .inr (.inr (Int.sign_eq_one_of_pos h))
theorem f147_ok (J : Keep) (z : Int) : C J 147 [zh z] (zh (-z)) := by
  refine fn_ok Tryz.func147 rfl rfl rfl ?_
  have h := sign3 z
  have hw : IntKind.wrap .i64 (0 - z.sign) = -z.sign := by rw [w64 (by omega)]; omega
  repeat (first | (refine W.RS (by kernel_rfl) ?_; conv => whnf) | (refine W.ret ?_; conv => whnf) | (refine ⟨_, hw, ?_⟩; conv => whnf))
  rw [zh, Int.sign_neg, Int.natAbs_neg]
  rfl
end Go.Proofs.Fl
namespace Go.Proofs.Fl
open Go.RowKit Go.Proofs.Dig
attribute [local irreducible] IntKind.wrap PureC MutC MakC IterC
theorem set_rev {O : List Nat} {i x : Nat} (h : i < O.length) : O.reverse.set (O.length - 1 - i) x = (O.set i x).reverse := by
  apply List.ext_getElem?
  intro j
  simp only [List.getElem?_set, List.length_reverse]
  by_cases hj : j < O.length
  · rw [List.getElem?_reverse (by simpa using hj), List.getElem?_reverse (by simpa using hj)]
    simp only [List.length_set, List.getElem?_set]
    by_cases e : i = O.length - 1 - j
    · have e2 : O.length - 1 - i = j := by omega
      rw [if_pos e2, if_pos e, if_pos (show O.length - 1 - i < O.length by omega), if_pos h]
    · have e2 : ¬ O.length - 1 - i = j := by omega
      rw [if_neg e2, if_neg e]
  · rw [List.getElem?_eq_none (by simp; omega), List.getElem?_eq_none (by simp; omega)]
    have : ¬ O.length - 1 - i = j := by omega
    simp [this]
theorem boStep {A M O : List Nat} {i x : Nat} {k c c' : Int} (hi : i < O.length) (hs : (nv B15 (O.take i) : Int) + (B15 : Int) ^ i * c = (nv B15 (A.take i) : Int) + k * (nv B15 (M.take i) : Int))
    (hx : (A.getD i 0 : Int) + k * (M.getD i 0 : Int) + c = (x : Int) + 32768 * c') :
    (nv B15 ((O.set i x).take (i + 1)) : Int) + (B15 : Int) ^ (i + 1) * c' = (nv B15 (A.take (i + 1)) : Int) + k * (nv B15 (M.take (i + 1)) : Int) := by
  have g : ∀ l : List Nat, nv B15 (l.take (i + 1)) = nv B15 (l.take i) + B15 ^ i * l.getD i 0 := fun l => by
    by_cases h : i < l.length
    · rw [nv_take_succ B15 l i h, List.getD_eq_getElem?_getD, List.getElem?_eq_getElem h]; rfl
    · have e : l.getD i 0 = 0 := by simp [Nat.not_lt.1 h]
      rw [e, List.take_of_length_le (show l.length ≤ i + 1 by omega), List.take_of_length_le (Nat.not_lt.1 h)]; exact (Nat.add_zero _).symm
  have hl : (O.take i).length = i := by rw [List.length_take]; omega
  rw [set_take_succ hi, nv_snoc, hl, g A, g M]
  simp only [Int.natCast_add, Int.natCast_mul, Int.natCast_pow]
  rw [Int.pow_succ]
  have e1 : ((B15 : Nat) : Int) ^ i * ((A.getD i 0 : Int) + k * (M.getD i 0 : Int) + c) = ((B15 : Nat) : Int) ^ i * ((x : Int) + 32768 * c') := by rw [hx]
  have e2 : ((B15 : Nat) : Int) = 32768 := rfl
  rw [e2] at *
  generalize ((32768 : Int) ^ i) = p at *
  rw [Int.mul_add, Int.mul_add, Int.mul_add] at e1
  rw [Int.mul_add, Int.mul_left_comm k, Int.mul_assoc]
  omega
end Go.Proofs.Fl
namespace Go.Proofs.Fl
open Go.RowKit Go.Proofs.Dig
attribute [local irreducible] IntKind.wrap PureC MutC MakC IterC
theorem arr3 {O : List Nat} {i j x : Nat} {y : Int} (h : i < O.length) (hj : j = O.length - 1 - i) (hy : y = (x : Int)) : some (Bx.arr 3 1 ((O.reverse.map d64).set j (.int .i64 y)) false) = some (Bx.arr 3 1 ((O.set i x).reverse.map d64) false) := by
  rw [hj, hy, ← set_rev h, List.map_set]; rfl
theorem arr3E {a b : List IV} (h : a = b) : some (Bx.arr 3 1 a false) = some (Bx.arr 3 1 b false) := by rw [h]
theorem f206_ok (J : Keep) {l m : List Nat} {k : Int} (hk : k = 1 ∨ k = -1) (hl : Dg B15 l.reverse) (hm : Dg B15 m.reverse) (hs : l.length < 2 ^ 40) (hs2 : m.length < 2 ^ 40) (hle : 0 ≤ (hv l : Int) + k * (hv m : Int)) :
    C J 206 [.sl (l.map d64), .sl (m.map d64), .int .i64 k] (.sl ((dh ((hv l : Int) + k * (hv m : Int)).toNat).map d64)) := by
  obtain ⟨N, hN⟩ : ∃ N, N = max l.length m.length + 1 := ⟨_, rfl⟩
  have c1 := f232_ok J l m
  obtain ⟨N', hN'⟩ : ∃ N', max l.length m.length = N' := ⟨_, rfl⟩
  rw [hN'] at c1
  refine fn_ok Tryz.func206 rfl rfl rfl ?_
  repeat (first | (refine W.RS (by kernel_rfl) ?_; conv => whnf) | (refine W.S ?_) | (refine W.block ?_) | (refine ⟨_, c1, ?_⟩; conv => whnf) | (refine ⟨rfl, N, by omega, ?_⟩; conv => whnf) | (refine ⟨by show 8 * _ ≤ (281474976710656 : Nat); omega, by unfold maxLen; omega, ?_⟩; conv => whnf) | (refine ⟨rfl, _, w64 (by omega), ?_⟩; conv => whnf))
  refine W.loop (G := { p : Nat × Int × List Nat // p.1 ≤ N ∧ -1 ≤ p.2.1 ∧ p.2.1 ≤ 1 ∧ p.2.2.length = N ∧ Dg B15 p.2.2 ∧ (nv B15 (p.2.2.take p.1) : Int) + (B15 : Int) ^ p.1 * p.2.1 = (nv B15 (l.reverse.take p.1) : Int) + k * (nv B15 (m.reverse.take p.1) : Int) })
    (fun p => mkA [(0, .iv (.sl (l.map d64))), (1, .iv (.sl (m.map d64))), (2, .iv (.int .i64 (k))), (7, .iv (.int .i64 (N : Int))), (8, .ref 0 0 N true), (9, .iv (.int .i64 p.1.2.1)), (10, .iv (.int .i64 (p.1.1 : Int)))]
      [(0, .arr 3 1 ((p.1.2.2).reverse.map d64) false)] 30) (fun p => N - p.1.1)
    ⟨(0, 0, List.replicate N 0), by simp, by simp, by simp, by simp, Dg.replicate (by decide) _, by simp [nv]⟩
    (Wk.tab [(0, 7)] ⟨⟨rfl, rfl⟩, ⟨rfl, rfl⟩, ⟨rfl, rfl⟩, ⟨ivEq (by omega), rfl⟩, ⟨refEq (by omega), rfl⟩, ⟨rfl, rfl⟩, ⟨rfl, rfl⟩, trivial⟩ ⟨arr3E ?_, trivial⟩ rfl) ?_
  · rw [List.reverse_replicate, List.map_replicate]; rfl
  rintro ⟨⟨i, c, O⟩, hi, hc1, hc2, hO, hd, hs⟩
  dsimp only at hi hc1 hc2 hO hd hs
  show W J _ _ (mkA [(0, .iv (.sl (l.map d64))), (1, .iv (.sl (m.map d64))), (2, .iv (.int .i64 (k))), (7, .iv (.int .i64 (N : Int))), (8, .ref 0 0 N true), (9, .iv (.int .i64 c)), (10, .iv (.int .i64 (i : Int)))]
      [(0, .arr 3 1 ((O).reverse.map d64) false)] 30) _
  have lO : (O.reverse.map d64).length = O.length := by simp
  have hs1 : l.length < 2 ^ 60 := by omega
  have hs3 : m.length < 2 ^ 60 := by omega
  have hx : l.reverse.getD i 0 < 32768 := hl.getD (by decide) i
  have hy : m.reverse.getD i 0 < 32768 := hm.getD (by decide) i
  by_cases h : i < N
  · rcases hk with rfl | rfl
    · by_cases h1 : 32768 ≤ (l.reverse.getD i 0 : Int) + m.reverse.getD i 0 + c
      · have hp := boStep (x := ((l.reverse.getD i 0 : Int) + m.reverse.getD i 0 + c - 32768).toNat) (c' := 1) (k := 1) (show i < O.length by omega) hs (by omega)
        repeat (first | (refine W.RS (by kernel_rfl) ?_; conv => whnf) | (refine W.R (by kernel_rfl) ?_; conv => whnf) | (refine W.S ?_) | (refine W.block ?_) | (refine W.skip ?_; conv => whnf) | (refine W.condF rfl ?_) | (refine W.condT rfl ?_) | (refine ⟨_, f233_ok J (l := l) (i := i) hs1 (by omega), ?_⟩; conv => whnf) | (refine ⟨_, f233_ok J (l := m) (i := i) hs3 (by omega), ?_⟩; conv => whnf) | (refine ⟨(rfl : (_ : Nat) = _), N - 1 - i, by omega, by omega, ?_⟩; conv => whnf) | (refine ⟨List.not_mem_nil, _, getd (by rw [List.length_reverse]; omega), ?_⟩; conv => whnf) | (refine ⟨rfl, _, w64 (by omega), ?_⟩; conv => whnf) | (refine ⟨true, decide_eq_true (by omega), ?_⟩; conv => whnf) | (refine ⟨false, decide_eq_false (by omega), ?_⟩; conv => whnf) | (refine ⟨rfl, ?_⟩; conv => whnf))
        exact ⟨⟨(i + 1, 1, O.set i ((l.reverse.getD i 0 : Int) + m.reverse.getD i 0 + c - 32768).toNat), by dsimp only; omega, by dsimp only; omega, by dsimp only; omega, by dsimp only; rw [List.length_set]; exact hO, hd.set (by simp only [B15]; omega), hp⟩,
          Wk.tab [] ⟨⟨rfl, rfl⟩, ⟨rfl, rfl⟩, ⟨rfl, rfl⟩, ⟨rfl, rfl⟩, ⟨rfl, rfl⟩, ⟨rfl, rfl⟩, ⟨rfl, rfl⟩, trivial⟩ ⟨arr3 (by omega) (by omega) (by omega), trivial⟩ rfl, by dsimp only; omega⟩
      · by_cases h2 : (l.reverse.getD i 0 : Int) + m.reverse.getD i 0 + c < 0
        · have hp := boStep (x := ((l.reverse.getD i 0 : Int) + m.reverse.getD i 0 + c + 32768).toNat) (c' := (-1)) (k := 1) (show i < O.length by omega) hs (by omega)
          repeat (first | (refine W.RS (by kernel_rfl) ?_; conv => whnf) | (refine W.R (by kernel_rfl) ?_; conv => whnf) | (refine W.S ?_) | (refine W.block ?_) | (refine W.skip ?_; conv => whnf) | (refine W.condF rfl ?_) | (refine W.condT rfl ?_) | (refine ⟨_, f233_ok J (l := l) (i := i) hs1 (by omega), ?_⟩; conv => whnf) | (refine ⟨_, f233_ok J (l := m) (i := i) hs3 (by omega), ?_⟩; conv => whnf) | (refine ⟨(rfl : (_ : Nat) = _), N - 1 - i, by omega, by omega, ?_⟩; conv => whnf) | (refine ⟨List.not_mem_nil, _, getd (by rw [List.length_reverse]; omega), ?_⟩; conv => whnf) | (refine ⟨rfl, _, w64 (by omega), ?_⟩; conv => whnf) | (refine ⟨true, decide_eq_true (by omega), ?_⟩; conv => whnf) | (refine ⟨false, decide_eq_false (by omega), ?_⟩; conv => whnf) | (refine ⟨rfl, ?_⟩; conv => whnf))
          exact ⟨⟨(i + 1, (-1), O.set i ((l.reverse.getD i 0 : Int) + m.reverse.getD i 0 + c + 32768).toNat), by dsimp only; omega, by dsimp only; omega, by dsimp only; omega, by dsimp only; rw [List.length_set]; exact hO, hd.set (by simp only [B15]; omega), hp⟩,
            Wk.tab [] ⟨⟨rfl, rfl⟩, ⟨rfl, rfl⟩, ⟨rfl, rfl⟩, ⟨rfl, rfl⟩, ⟨rfl, rfl⟩, ⟨rfl, rfl⟩, ⟨rfl, rfl⟩, trivial⟩ ⟨arr3 (by omega) (by omega) (by omega), trivial⟩ rfl, by dsimp only; omega⟩
        · have hp := boStep (x := ((l.reverse.getD i 0 : Int) + m.reverse.getD i 0 + c).toNat) (c' := 0) (k := 1) (show i < O.length by omega) hs (by omega)
          repeat (first | (refine W.RS (by kernel_rfl) ?_; conv => whnf) | (refine W.R (by kernel_rfl) ?_; conv => whnf) | (refine W.S ?_) | (refine W.block ?_) | (refine W.skip ?_; conv => whnf) | (refine W.condF rfl ?_) | (refine W.condT rfl ?_) | (refine ⟨_, f233_ok J (l := l) (i := i) hs1 (by omega), ?_⟩; conv => whnf) | (refine ⟨_, f233_ok J (l := m) (i := i) hs3 (by omega), ?_⟩; conv => whnf) | (refine ⟨(rfl : (_ : Nat) = _), N - 1 - i, by omega, by omega, ?_⟩; conv => whnf) | (refine ⟨List.not_mem_nil, _, getd (by rw [List.length_reverse]; omega), ?_⟩; conv => whnf) | (refine ⟨rfl, _, w64 (by omega), ?_⟩; conv => whnf) | (refine ⟨true, decide_eq_true (by omega), ?_⟩; conv => whnf) | (refine ⟨false, decide_eq_false (by omega), ?_⟩; conv => whnf) | (refine ⟨rfl, ?_⟩; conv => whnf))
          exact ⟨⟨(i + 1, 0, O.set i ((l.reverse.getD i 0 : Int) + m.reverse.getD i 0 + c).toNat), by dsimp only; omega, by dsimp only; omega, by dsimp only; omega, by dsimp only; rw [List.length_set]; exact hO, hd.set (by simp only [B15]; omega), hp⟩,
            Wk.tab [] ⟨⟨rfl, rfl⟩, ⟨rfl, rfl⟩, ⟨rfl, rfl⟩, ⟨rfl, rfl⟩, ⟨rfl, rfl⟩, ⟨rfl, rfl⟩, ⟨rfl, rfl⟩, trivial⟩ ⟨arr3 (by omega) (by omega) (by omega), trivial⟩ rfl, by dsimp only; omega⟩
    · by_cases h1 : 32768 ≤ (l.reverse.getD i 0 : Int) - m.reverse.getD i 0 + c
      · have hp := boStep (x := ((l.reverse.getD i 0 : Int) - m.reverse.getD i 0 + c - 32768).toNat) (c' := 1) (k := (-1)) (show i < O.length by omega) hs (by omega)
        repeat (first | (refine W.RS (by kernel_rfl) ?_; conv => whnf) | (refine W.R (by kernel_rfl) ?_; conv => whnf) | (refine W.S ?_) | (refine W.block ?_) | (refine W.skip ?_; conv => whnf) | (refine W.condF rfl ?_) | (refine W.condT rfl ?_) | (refine ⟨_, f233_ok J (l := l) (i := i) hs1 (by omega), ?_⟩; conv => whnf) | (refine ⟨_, f233_ok J (l := m) (i := i) hs3 (by omega), ?_⟩; conv => whnf) | (refine ⟨(rfl : (_ : Nat) = _), N - 1 - i, by omega, by omega, ?_⟩; conv => whnf) | (refine ⟨List.not_mem_nil, _, getd (by rw [List.length_reverse]; omega), ?_⟩; conv => whnf) | (refine ⟨rfl, _, w64 (by omega), ?_⟩; conv => whnf) | (refine ⟨true, decide_eq_true (by omega), ?_⟩; conv => whnf) | (refine ⟨false, decide_eq_false (by omega), ?_⟩; conv => whnf) | (refine ⟨rfl, ?_⟩; conv => whnf))
        exact ⟨⟨(i + 1, 1, O.set i ((l.reverse.getD i 0 : Int) - m.reverse.getD i 0 + c - 32768).toNat), by dsimp only; omega, by dsimp only; omega, by dsimp only; omega, by dsimp only; rw [List.length_set]; exact hO, hd.set (by simp only [B15]; omega), hp⟩,
          Wk.tab [] ⟨⟨rfl, rfl⟩, ⟨rfl, rfl⟩, ⟨rfl, rfl⟩, ⟨rfl, rfl⟩, ⟨rfl, rfl⟩, ⟨rfl, rfl⟩, ⟨rfl, rfl⟩, trivial⟩ ⟨arr3 (by omega) (by omega) (by omega), trivial⟩ rfl, by dsimp only; omega⟩
      · by_cases h2 : (l.reverse.getD i 0 : Int) - m.reverse.getD i 0 + c < 0
        · have hp := boStep (x := ((l.reverse.getD i 0 : Int) - m.reverse.getD i 0 + c + 32768).toNat) (c' := (-1)) (k := (-1)) (show i < O.length by omega) hs (by omega)
          repeat (first | (refine W.RS (by kernel_rfl) ?_; conv => whnf) | (refine W.R (by kernel_rfl) ?_; conv => whnf) | (refine W.S ?_) | (refine W.block ?_) | (refine W.skip ?_; conv => whnf) | (refine W.condF rfl ?_) | (refine W.condT rfl ?_) | (refine ⟨_, f233_ok J (l := l) (i := i) hs1 (by omega), ?_⟩; conv => whnf) | (refine ⟨_, f233_ok J (l := m) (i := i) hs3 (by omega), ?_⟩; conv => whnf) | (refine ⟨(rfl : (_ : Nat) = _), N - 1 - i, by omega, by omega, ?_⟩; conv => whnf) | (refine ⟨List.not_mem_nil, _, getd (by rw [List.length_reverse]; omega), ?_⟩; conv => whnf) | (refine ⟨rfl, _, w64 (by omega), ?_⟩; conv => whnf) | (refine ⟨true, decide_eq_true (by omega), ?_⟩; conv => whnf) | (refine ⟨false, decide_eq_false (by omega), ?_⟩; conv => whnf) | (refine ⟨rfl, ?_⟩; conv => whnf))
          exact ⟨⟨(i + 1, (-1), O.set i ((l.reverse.getD i 0 : Int) - m.reverse.getD i 0 + c + 32768).toNat), by dsimp only; omega, by dsimp only; omega, by dsimp only; omega, by dsimp only; rw [List.length_set]; exact hO, hd.set (by simp only [B15]; omega), hp⟩,
            Wk.tab [] ⟨⟨rfl, rfl⟩, ⟨rfl, rfl⟩, ⟨rfl, rfl⟩, ⟨rfl, rfl⟩, ⟨rfl, rfl⟩, ⟨rfl, rfl⟩, ⟨rfl, rfl⟩, trivial⟩ ⟨arr3 (by omega) (by omega) (by omega), trivial⟩ rfl, by dsimp only; omega⟩
        · have hp := boStep (x := ((l.reverse.getD i 0 : Int) - m.reverse.getD i 0 + c).toNat) (c' := 0) (k := (-1)) (show i < O.length by omega) hs (by omega)
          repeat (first | (refine W.RS (by kernel_rfl) ?_; conv => whnf) | (refine W.R (by kernel_rfl) ?_; conv => whnf) | (refine W.S ?_) | (refine W.block ?_) | (refine W.skip ?_; conv => whnf) | (refine W.condF rfl ?_) | (refine W.condT rfl ?_) | (refine ⟨_, f233_ok J (l := l) (i := i) hs1 (by omega), ?_⟩; conv => whnf) | (refine ⟨_, f233_ok J (l := m) (i := i) hs3 (by omega), ?_⟩; conv => whnf) | (refine ⟨(rfl : (_ : Nat) = _), N - 1 - i, by omega, by omega, ?_⟩; conv => whnf) | (refine ⟨List.not_mem_nil, _, getd (by rw [List.length_reverse]; omega), ?_⟩; conv => whnf) | (refine ⟨rfl, _, w64 (by omega), ?_⟩; conv => whnf) | (refine ⟨true, decide_eq_true (by omega), ?_⟩; conv => whnf) | (refine ⟨false, decide_eq_false (by omega), ?_⟩; conv => whnf) | (refine ⟨rfl, ?_⟩; conv => whnf))
          exact ⟨⟨(i + 1, 0, O.set i ((l.reverse.getD i 0 : Int) - m.reverse.getD i 0 + c).toNat), by dsimp only; omega, by dsimp only; omega, by dsimp only; omega, by dsimp only; rw [List.length_set]; exact hO, hd.set (by simp only [B15]; omega), hp⟩,
            Wk.tab [] ⟨⟨rfl, rfl⟩, ⟨rfl, rfl⟩, ⟨rfl, rfl⟩, ⟨rfl, rfl⟩, ⟨rfl, rfl⟩, ⟨rfl, rfl⟩, ⟨rfl, rfl⟩, trivial⟩ ⟨arr3 (by omega) (by omega) (by omega), trivial⟩ rfl, by dsimp only; omega⟩
  · have hiN : i = N := by omega
    have hlt := nv_lt hd
    rw [hO] at hlt
    rw [hiN, List.take_of_length_le (by omega), List.take_of_length_le (by rw [List.length_reverse]; omega), List.take_of_length_le (by rw [List.length_reverse]; omega)] at hs
    have v1 : hv l < B15 ^ N' := Nat.lt_of_lt_of_le (nv_lt hl) (Nat.pow_le_pow_right (by decide) (by rw [List.length_reverse]; omega))
    have v2 : hv m < B15 ^ N' := Nat.lt_of_lt_of_le (nv_lt hm) (Nat.pow_le_pow_right (by decide) (by rw [List.length_reverse]; omega))
    have v3 : B15 ^ N' * 2 ≤ B15 ^ N := by
      rw [show N = N' + 1 by omega, Nat.pow_succ]; exact Nat.mul_le_mul_left _ (by decide)
    have hp : ((B15 : Nat) : Int) ^ N = ((B15 ^ N : Nat) : Int) := (Int.natCast_pow _ _).symm
    rw [hp] at hs
    have hs' : (nv B15 O : Int) + ((B15 ^ N : Nat) : Int) * c = (hv l : Int) + k * (hv m : Int) := hs
    have hkm : k * (hv m : Int) ≤ (hv m : Int) := by rcases hk with rfl | rfl <;> omega
    have hc0 : c = 0 := by
      rcases (show c = -1 ∨ c = 0 ∨ c = 1 by omega) with rfl | rfl | rfl
      · omega
      · rfl
      · omega
    rw [hc0, Int.mul_zero, Int.add_zero] at hs'
    have hfin : hv O.reverse = ((hv l : Int) + k * (hv m : Int)).toNat := by
      unfold hv at *; rw [List.reverse_reverse]; omega
    have c9 := f225_ok J (l := O.reverse) (by rw [List.length_reverse]; omega)
    rw [dh_strip (by rw [List.reverse_reverse]; exact hd) hfin] at c9
    have e9 : List.take N (List.drop 0 (O.reverse.map d64)) = O.reverse.map d64 := by rw [List.drop_zero, List.take_of_length_le (by omega)]
    rw [← e9] at c9
    repeat (first | (refine W.RS (by kernel_rfl) ?_; conv => whnf) | (refine W.S ?_) | (refine W.ret ?_; conv => whnf) | (refine W.exit ?_; conv => whnf) | (refine W.condF rfl ?_) | (refine ⟨_, c9, ?_⟩; conv => whnf) | (refine ⟨false, decide_eq_false (by omega), ?_⟩; conv => whnf) | (refine ⟨rfl, ?_⟩; conv => whnf))
    rfl
end Go.Proofs.Fl
namespace Go.Proofs.Fl
open Go.RowKit Go.Proofs.Dig
attribute [local irreducible] IntKind.wrap PureC MutC MakC IterC
theorem f162_ok (J : Keep) (z : Int) : C J 162 [zh z] (zh (z.natAbs : Int)) := by
  refine fn_ok Tryz.func162 rfl rfl rfl ?_
  have h := sign3 z
  have hss : z.sign * z.sign = (z.natAbs : Int).sign := by
    rcases Int.lt_trichotomy z 0 with h | h | h
    · rw [Int.sign_eq_neg_one_of_neg h, Int.sign_eq_one_of_pos (by omega)]; rfl
    · rw [h]; rfl
    · rw [Int.sign_eq_one_of_pos h, Int.sign_eq_one_of_pos (by omega)]; rfl
  have h2 := sign3 (z.natAbs : Int)
  have hw : IntKind.wrap .i64 (z.sign * z.sign) = (z.natAbs : Int).sign := by rw [hss]; exact w64 (by omega)
  repeat (first | (refine W.RS (by kernel_rfl) ?_; conv => whnf) | (refine W.ret ?_; conv => whnf) | (refine ⟨rfl, _, w64 (by omega), ?_⟩; conv => whnf))
  rw [zh, Int.natAbs_natCast, ← hss]
  rfl
end Go.Proofs.Fl
namespace Go.Proofs.Fl
open Go.RowKit Go.Proofs.Dig
attribute [local irreducible] IntKind.wrap PureC MutC MakC IterC
theorem f192_ok (J : Keep) (es : List IV) : MK J 192 [.sl es] 224 [.sl es] := by
  refine mk_ok Tryz.func192 rfl rfl rfl ?_
  repeat (first | (refine W.RS (by kernel_rfl) ?_; conv => whnf) | (refine W.ret ?_; conv => whnf) | (refine ⟨rfl, ?_⟩; conv => whnf))
  exact ⟨⟨rfl, trivial⟩, by simp⟩
def back (ds : List Nat) : List (List IV) := (List.range ds.length).map fun k => [.int .i64 ((ds.length - 1 - k : Nat) : Int), u32 (ds.getD (ds.length - 1 - k) 0)]
theorem back_get {ds : List Nat} {k : Nat} (h : k < ds.length) : (back ds)[k]? = some [.int .i64 ((ds.length - 1 - k : Nat) : Int), u32 (ds.getD (ds.length - 1 - k) 0)] := by
  simp [back, h]
theorem back_len (ds : List Nat) : (back ds).length = ds.length := by simp [back]
theorem f224_ok (J : Keep) {ds : List Nat} (hl : ds.length < 2 ^ 60) : IT J 224 [.sl (ds.map u32)] (back ds) := by
  refine it_ok Tryz.func224 rfl rfl rfl rfl fun l F hF => ?_
  have lm : (ds.map u32).length = ds.length := by simp
  repeat (first | (refine WY.RS hF (by kernel_rfl) ?_; conv => whnf) | (refine WY.block ?_) | (refine ⟨rfl, _, w64 (by omega), ?_⟩; conv => whnf) | (refine ⟨_, rfl, ?_⟩; conv => whnf))
  refine WY.loop (G := { k : Nat // k ≤ ds.length }) (fun k => mkA [(0, .yld l), (1, .ptr 0 0), (3, .iv (.int .i64 ((ds.length : Int) - 1 - (k.1 : Int))))] [(0, .var (.sl (ds.map u32)))] 50) (fun k => k.1) (fun k => ds.length - k.1) ⟨0, Nat.zero_le _⟩
    (Wk.tab [] ⟨⟨rfl, rfl⟩, ⟨rfl, rfl⟩, ⟨?_, rfl⟩, trivial⟩ ⟨rfl, trivial⟩ rfl) rfl ?_
  · show SV.iv (.int .i64 _) = SV.iv (.int .i64 ((ds.length : Int) - 1 - ((0 : Nat) : Int)))
    congr 2; omega
  rintro ⟨k, hk⟩
  show WY (cx J.top) _ F _ (mkA [(0, .yld l), (1, .ptr 0 0), (3, .iv (.int .i64 ((ds.length : Int) - 1 - (k : Int))))] [(0, .var (.sl (ds.map u32)))] 50) k _
  have hbl := back_len ds
  by_cases h : k < ds.length
  · refine WY.S ?_
    refine WY.RS hF (by kernel_rfl) ?_
    conv => whnf
    refine ⟨rfl, true, decide_eq_true (by omega), ?_⟩
    conv => whnf
    refine WY.condT rfl ?_
    refine WY.skip ?_
    conv => whnf
    refine WY.S ?_
    refine WY.block ?_
    refine WY.yieldS hF 6 rfl rfl rfl rfl ?_
    conv => whnf
    have hj : ((ds.length - 1 - k : Nat) : Int) = (ds.length : Int) - 1 - (k : Int) := by omega
    refine ⟨ds.length - 1 - k, u32 (ds.getD (ds.length - 1 - k) 0), hj.symm, getu (by omega), rfl, ?_⟩
    conv => whnf
    rw [← hj]
    refine ⟨rfl, back_get h, ?_⟩
    conv => whnf
    repeat (first | (refine WY.R hF (by kernel_rfl) ?_; conv => whnf) | (refine WY.skip ?_; conv => whnf) | (refine WY.condF rfl ?_) | (refine ⟨rfl, _, w64 (by omega), ?_⟩; conv => whnf) | (refine ⟨_, rfl, ?_⟩; conv => whnf))
    exact ⟨⟨k + 1, by omega⟩, Wk.tab [] ⟨⟨rfl, rfl⟩, ⟨rfl, rfl⟩, ⟨ivEq (by dsimp only; omega), rfl⟩, trivial⟩ ⟨rfl, trivial⟩ rfl, rfl, by dsimp only; omega⟩
  · refine WY.S ?_
    refine WY.RS hF (by kernel_rfl) ?_
    conv => whnf
    refine ⟨rfl, false, decide_eq_false (by omega), ?_⟩
    conv => whnf
    refine WY.condF rfl ?_
    refine WY.exit ?_
    conv => whnf
    show k = (back ds).length
    rw [hbl]; omega
end Go.Proofs.Fl
namespace Go.Proofs.Fl
open Go.RowKit Go.Proofs.Dig
attribute [local irreducible] IntKind.wrap PureC MutC MakC IterC
theorem back_two {ds : List Nat} : ∀ y ∈ back ds, y.length = 2 := by
  intro y hy
  obtain ⟨k, _, rfl⟩ := List.mem_map.1 hy
  rfl
theorem back_at {ds : List Nat} {k : Nat} (hk : k < (back ds).length) : (back ds)[k] = [.int .i64 ((ds.length - 1 - k : Nat) : Int), u32 (ds.getD (ds.length - 1 - k) 0)] := by
  have := back_get (ds := ds) (k := k) (by rw [back_len] at hk; exact hk)
  rw [List.getElem?_eq_getElem hk] at this
  exact Option.some.inj this
theorem one_alive {x : IV} {g : Nat} : ∀ p ∈ [(g, Bx.var x)], p.2.alive = true := by
  intro p hp
  simp at hp; subst hp; rfl
theorem varU {x y : Nat} (h : x = y) : some (Bx.var (.int .u64 (x : Int))) = some (Bx.var (.int .u64 (y : Int))) := by rw [h]
theorem varI {x : Int} {y : Nat} (h : x = (y : Int)) : some (Bx.var (.int .u64 x)) = some (Bx.var (.int .u64 (y : Int))) := by rw [h]
def hiN (ds : List Nat) (k : Nat) : Nat := nv B9 (ds.drop (ds.length - k))
theorem hiN_zero (ds : List Nat) : hiN ds 0 = 0 := by simp [hiN, nv]
theorem hiN_all (ds : List Nat) : hiN ds ds.length = nv B9 ds := by simp [hiN]
theorem hiN_succ {ds : List Nat} {k : Nat} (h : k < ds.length) : hiN ds (k + 1) = hiN ds k * 1000000000 + ds.getD (ds.length - 1 - k) 0 := by
  unfold hiN
  rw [List.drop_eq_getElem_cons (show ds.length - (k + 1) < ds.length by omega), nv_cons, show ds.length - (k + 1) + 1 = ds.length - k by omega]
  have e : ds.getD (ds.length - 1 - k) 0 = ds[ds.length - (k + 1)]'(by omega) := by
    rw [List.getD_eq_getElem?_getD, List.getElem?_eq_getElem (show ds.length - 1 - k < ds.length by omega)]
    simp [show ds.length - 1 - k = ds.length - (k + 1) by omega]
  rw [e, Nat.mul_comm]; exact Nat.add_comm _ _
theorem hiN_le (ds : List Nat) (k : Nat) : hiN ds k ≤ nv B9 ds := by
  unfold hiN
  rw [show nv B9 ds = nv B9 (ds.take (ds.length - k) ++ ds.drop (ds.length - k)) by rw [List.take_append_drop], nv_append]
  have : 1 * nv B9 (ds.drop (ds.length - k)) ≤ B9 ^ (ds.take (ds.length - k)).length * nv B9 (ds.drop (ds.length - k)) := Nat.mul_le_mul_right _ (Nat.pow_pos (by decide))
  omega
theorem word_ds (J : Keep) {ds : List Nat} (hd : Dg B9 ds) (hl : ds.length < 2 ^ 60) (hn : nv B9 ds < 1000000000000000000) : C J 135 [mgI ds] (.int .u64 (nv B9 ds : Nat)) := by
  refine fn_ok (J := J.top) Tryz.func135 rfl rfl rfl ?_
  repeat (first | (refine W.RS (by kernel_rfl) ?_; conv => whnf) | (refine W.S ?_) | (refine W.block ?_) | (refine ⟨224, [.sl (ds.map u32)], f192_ok J _, rfl, ?_⟩; conv => whnf))
  refine W.weak (σ' := mkA [(3, .ptr pinId 0), (8, .clo 224 [6])] [(pinId, .var (.int .u64 0)), (6, .var (.sl (ds.map u32)))] 50) (Wk.tab [(pinId, 2)] ⟨⟨rfl, rfl⟩, ⟨rfl, rfl⟩, trivial⟩ ⟨rfl, rfl, trivial⟩ rfl) ?_
  refine W.range (f224_ok J hl) [pinId] [(3, .ptr pinId 0)] (fun k => [(pinId, .var (.int .u64 (hiN ds k : Nat)))]) 60 rfl ⟨rfl, trivial⟩ (by simp) rfl back_two (fun _ => rfl) (fun _ => one_alive) rfl ⟨rfl, trivial⟩ rfl ⟨varU (hiN_zero ds).symm, trivial⟩ rfl rfl (fun k hk => ?_) ?_
  · rw [back_at hk]
    rw [back_len] at hk
    show W J.any _ _ ⟨putsL (tbS [(3, .ptr pinId 0)]) [9, 10] [.int .i64 ((ds.length - 1 - k : Nat) : Int), u32 (ds.getD (ds.length - 1 - k) 0)], tbB [(pinId, .var (.int .u64 (hiN ds k : Nat)))], 60⟩ _
    have h1 := hiN_succ hk
    have h2 := hiN_le ds (k + 1)
    have h3 := hd.getD (by decide) (ds.length - 1 - k)
    repeat (first | (refine W.R (by kernel_rfl) ?_; conv => whnf) | (refine W.block ?_) | (refine ⟨rfl, _, wu64 (by omega), ?_⟩; conv => whnf) | (refine ⟨_, wu64 (by omega), ?_⟩; conv => whnf) | (refine ⟨rfl, ?_⟩; conv => whnf))
    exact ⟨varI (by omega), trivial⟩
  · rw [back_len, hiN_all]
    repeat (first | (refine W.RS (by kernel_rfl) ?_; conv => whnf) | (refine W.ret ?_; conv => whnf))
    rfl
theorem f135_ok (J : Keep) {n : Nat} (h : ln n ≤ 2) : C J 135 [mag n] (.int .u64 n) := by
  have := word_ds J (ds := dg n) (dg_ok n).dg (by have : (dg n).length ≤ 2 := h; omega) (by rw [dg_nv]; exact ln_two h)
  rwa [dg_nv] at this
end Go.Proofs.Fl
namespace Go.Proofs.Fl
open Go.RowKit Go.Proofs.Dig
attribute [local irreducible] IntKind.wrap PureC MutC MakC IterC
noncomputable def lh (n : Nat) : Nat := (dh n).length
theorem hv_lt (l : List Nat) (h : Dg B15 l.reverse) : hv l < B15 ^ l.length := by
  have := nv_lt h
  rwa [List.length_reverse] at this
theorem lt_lh (n : Nat) : n < B15 ^ lh n := by have := hv_lt (dh n) (dh_ok n).dg; rwa [dh_hv] at this
theorem lh_le {n k : Nat} (h : n < B15 ^ k) : lh n ≤ k := by
  have := len_le_of_lt (B := B15) (k := k) (by decide) (dh_ok n) (by have e := dh_hv n; unfold hv at e; rw [e]; exact h)
  rwa [List.length_reverse] at this
theorem lh_mono {a b : Nat} (h : a ≤ b) : lh a ≤ lh b := lh_le (Nat.lt_of_le_of_lt h (lt_lh b))
theorem lh_add (a b : Nat) : lh (a + b) ≤ max (lh a) (lh b) + 1 := lh_le (by
  have h1 := lt_lh a
  have h2 := lt_lh b
  have h3 : B15 ^ lh a ≤ B15 ^ max (lh a) (lh b) := Nat.pow_le_pow_right (by decide) (by omega)
  have h4 : B15 ^ lh b ≤ B15 ^ max (lh a) (lh b) := Nat.pow_le_pow_right (by decide) (by omega)
  have h5 : B15 ^ max (lh a) (lh b) * 2 ≤ B15 ^ max (lh a) (lh b) * B15 := Nat.mul_le_mul_left _ (by decide)
  rw [Nat.pow_succ]; omega)
theorem lh_mul (a b : Nat) : lh (a * b) ≤ lh a + lh b := lh_le (by
  have h1 := lt_lh a
  have h2 := lt_lh b
  rw [Nat.pow_add]
  exact Nat.mul_lt_mul'' h1 h2)
theorem lh_zero {n : Nat} (h : lh n = 0) : n = 0 := by have := lt_lh n; rw [h] at this; simp at this; exact this
theorem lh_pos {n : Nat} (h : 0 < n) : 0 < lh n := by
  apply Classical.byContradiction
  intro hh
  have := lh_zero (n := n) (by omega)
  omega
theorem f193_dh (J : Keep) {n : Nat} {s : Int} (hs : s = 1 ∨ s = -1 ∨ n = 0) (hl : lh n < 2 ^ 60) : C J 193 [.int .i64 s, .sl ((dh n).map d64)] (zh (s * (n : Int))) := by
  have := f193_ok J (l := dh n) (s := s) (by rw [dh_hv]; exact hs) (dh_ok n).dg hl
  rwa [dh_hv] at this
theorem f206_add (J : Keep) {a b : Nat} (ha : lh a < 2 ^ 40) (hb : lh b < 2 ^ 40) : C J 206 [.sl ((dh a).map d64), .sl ((dh b).map d64), .int .i64 1] (.sl ((dh (a + b)).map d64)) := by
  have := f206_ok J (l := dh a) (m := dh b) (k := 1) (.inl rfl) (dh_ok a).dg (dh_ok b).dg ha hb (by omega)
  rw [dh_hv, dh_hv, show ((a : Int) + 1 * (b : Int)).toNat = a + b by omega] at this
  exact this
theorem f206_sub (J : Keep) {a b : Nat} (h : b ≤ a) (ha : lh a < 2 ^ 40) : C J 206 [.sl ((dh a).map d64), .sl ((dh b).map d64), .int .i64 (-1)] (.sl ((dh (a - b)).map d64)) := by
  have hb : lh b < 2 ^ 40 := Nat.lt_of_le_of_lt (lh_mono h) ha
  have := f206_ok J (l := dh a) (m := dh b) (k := -1) (.inr rfl) (dh_ok a).dg (dh_ok b).dg ha hb (by rw [dh_hv, dh_hv]; omega)
  rw [dh_hv, dh_hv, show ((a : Int) + -1 * (b : Int)).toNat = a - b by omega] at this
  exact this
theorem f207_dh (J : Keep) {a b : Nat} (ha : lh a < 2 ^ 60) : C J 207 [.sl ((dh a).map d64), .sl ((dh b).map d64)] (.int .i64 (cmpI (a : Nat) (b : Nat))) := by
  have := f207_ok J (l := dh a) (m := dh b) (dh_ok a) (dh_ok b) ha
  rwa [dh_hv, dh_hv] at this
theorem zhE {x y : Int} (h : x = y) : zh x = zh y := by rw [h]
theorem f174_ok (J : Keep) {x y : Int} (hx : lh x.natAbs < 2 ^ 40) (hy : lh y.natAbs < 2 ^ 40) : C J 174 [zh x, zh y] (zh (x + y)) := by
  refine fn_ok Tryz.func174 rfl rfl rfl ?_
  have sx := sign3 x
  have sy := sign3 y
  by_cases x0 : x.sign = 0
  · repeat (first | (refine W.RS (by kernel_rfl) ?_; conv => whnf) | (refine W.S ?_) | (refine W.ret ?_; conv => whnf) | (refine W.condT rfl ?_) | (refine ⟨true, decide_eq_true (by omega), ?_⟩; conv => whnf) | (refine ⟨rfl, ?_⟩; conv => whnf))
    have : x = 0 := Int.sign_eq_zero_iff_zero.1 x0
    exact zhE (by omega)
  · by_cases y0 : y.sign = 0
    · repeat (first | (refine W.RS (by kernel_rfl) ?_; conv => whnf) | (refine W.S ?_) | (refine W.ret ?_; conv => whnf) | (refine W.skip ?_; conv => whnf) | (refine W.condF rfl ?_) | (refine W.condT rfl ?_) | (refine ⟨true, decide_eq_true (by omega), ?_⟩; conv => whnf) | (refine ⟨false, decide_eq_false (by omega), ?_⟩; conv => whnf) | (refine ⟨rfl, ?_⟩; conv => whnf))
      have : y = 0 := Int.sign_eq_zero_iff_zero.1 y0
      exact zhE (by omega)
    · have ex := Int.sign_mul_natAbs x
      have ey := Int.sign_mul_natAbs y
      by_cases h : x.sign = y.sign
      · have l1 := lh_add x.natAbs y.natAbs
        have c1 := f206_add J hx hy
        have c2 := f193_dh J (n := x.natAbs + y.natAbs) (s := x.sign) (by omega) (by omega)
        repeat (first | (refine W.RS (by kernel_rfl) ?_; conv => whnf) | (refine W.S ?_) | (refine W.ret ?_; conv => whnf) | (refine W.skip ?_; conv => whnf) | (refine W.condF rfl ?_) | (refine W.condT rfl ?_) | (refine ⟨_, c1, ?_⟩; conv => whnf) | (refine ⟨_, c2, ?_⟩; conv => whnf) | (refine ⟨true, decide_eq_true (by omega), ?_⟩; conv => whnf) | (refine ⟨false, decide_eq_false (by omega), ?_⟩; conv => whnf) | (refine ⟨rfl, ?_⟩; conv => whnf))
        refine zhE ?_
        rw [Int.natCast_add, Int.mul_add, ex, h, ey]
      · by_cases hl : y.natAbs ≤ x.natAbs
        · have hc : 0 ≤ cmpI (x.natAbs : Nat) (y.natAbs : Nat) := by unfold cmpI; split <;> (try split) <;> omega
          have l1 := lh_mono (Nat.sub_le x.natAbs y.natAbs)
          have c1 := f206_sub J hl hx
          have c2 := f193_dh J (n := x.natAbs - y.natAbs) (s := x.sign) (by omega) (by omega)
          repeat (first | (refine W.RS (by kernel_rfl) ?_; conv => whnf) | (refine W.S ?_) | (refine W.ret ?_; conv => whnf) | (refine W.skip ?_; conv => whnf) | (refine W.condF rfl ?_) | (refine W.condT rfl ?_) | (refine ⟨_, f207_dh J (a := x.natAbs) (b := y.natAbs) (by omega), ?_⟩; conv => whnf) | (refine ⟨_, c1, ?_⟩; conv => whnf) | (refine ⟨_, c2, ?_⟩; conv => whnf) | (refine ⟨true, decide_eq_true (by omega), ?_⟩; conv => whnf) | (refine ⟨false, decide_eq_false (by omega), ?_⟩; conv => whnf) | (refine ⟨rfl, ?_⟩; conv => whnf))
          refine zhE ?_
          have e : x.sign = -y.sign := by omega
          have e2 : x.sign * (y.natAbs : Int) = -y := by rw [e, Int.neg_mul, ey]
          rw [Int.natCast_sub hl, Int.mul_sub, ex, e2]; omega
        · have hc : cmpI (x.natAbs : Nat) (y.natAbs : Nat) < 0 := by unfold cmpI; split <;> (try split) <;> omega
          have hl' : x.natAbs ≤ y.natAbs := by omega
          have l1 := lh_mono (Nat.sub_le y.natAbs x.natAbs)
          have c1 := f206_sub J hl' hy
          have c2 := f193_dh J (n := y.natAbs - x.natAbs) (s := y.sign) (by omega) (by omega)
          repeat (first | (refine W.RS (by kernel_rfl) ?_; conv => whnf) | (refine W.S ?_) | (refine W.ret ?_; conv => whnf) | (refine W.skip ?_; conv => whnf) | (refine W.condF rfl ?_) | (refine ⟨_, f207_dh J (a := x.natAbs) (b := y.natAbs) (by omega), ?_⟩; conv => whnf) | (refine ⟨_, c1, ?_⟩; conv => whnf) | (refine ⟨_, c2, ?_⟩; conv => whnf) | (refine ⟨false, decide_eq_false (by omega), ?_⟩; conv => whnf) | (refine ⟨rfl, ?_⟩; conv => whnf))
          refine zhE ?_
          have e : y.sign = -x.sign := by omega
          have e2 : y.sign * (x.natAbs : Int) = -x := by rw [e, Int.neg_mul, ex]
          rw [Int.natCast_sub hl', Int.mul_sub, ey, e2]; omega
theorem f194_ok (J : Keep) {x y : Int} (hx : lh x.natAbs < 2 ^ 40) (hy : lh y.natAbs < 2 ^ 40) : C J 194 [zh x, zh y] (zh (x - y)) := by
  refine fn_ok Tryz.func194 rfl rfl rfl ?_
  have c1 := f147_ok J y
  have c2 := f174_ok J (x := x) (y := -y) hx (by rw [Int.natAbs_neg]; exact hy)
  repeat (first | (refine W.RS (by kernel_rfl) ?_; conv => whnf) | (refine W.ret ?_; conv => whnf) | (refine ⟨_, c1, ?_⟩; conv => whnf) | (refine ⟨_, c2, ?_⟩; conv => whnf) | (refine ⟨rfl, ?_⟩; conv => whnf))
  exact zhE (by omega)
theorem f144_ok (J : Keep) {x y : Int} (hx : lh x.natAbs < 2 ^ 40) (hy : lh y.natAbs < 2 ^ 40) : C J 144 [zh x, zh y] (.int .i64 (x - y).sign) := by
  refine fn_ok Tryz.func144 rfl rfl rfl ?_
  have c2 := f194_ok J hx hy
  repeat (first | (refine W.RS (by kernel_rfl) ?_; conv => whnf) | (refine W.ret ?_; conv => whnf) | (refine ⟨_, c2, ?_⟩; conv => whnf))
  rfl
end Go.Proofs.Fl
namespace Go.Proofs.Fl
open Go.RowKit Go.Proofs.Dig
attribute [local irreducible] IntKind.wrap PureC MutC MakC IterC
def ziInv (s : Int) (a : Nat) (o : List Nat) (t : Int) : AS :=
  match o with
  | [] => mkA [(0, .iv (.int .i64 (s * (a : Int)))), (2, .ptr 0 0), (3, .iv (.int .i64 t)), (4, .nilS)] [(0, .var (.agg [.int .i64 0, .sl []]))] 20
  | x :: o => mkA [(0, .iv (.int .i64 (s * (a : Int)))), (2, .ptr 0 0), (3, .iv (.int .i64 t)), (4, .ref 1 0 (x :: o).length true)] [(0, .var (.agg [.int .i64 0, .sl []])), (1, .arr 3 1 ((x :: o).map d64) false)] 20
theorem ziStep {a : Nat} {o : List Nat} {n : Nat} (h : hv o + B15 ^ o.length * a = n) : hv (a % 32768 :: o) + B15 ^ (a % 32768 :: o).length * (a / 32768) = n := by
  unfold hv at *
  rw [List.reverse_cons, nv_snoc, List.length_reverse, List.length_cons, Nat.pow_succ, Nat.add_assoc, Nat.mul_assoc, ← Nat.mul_add]
  rw [← h]
  congr 2
  simp only [B15]; omega
theorem ziLen {a : Nat} {o : List Nat} {n : Nat} (h : hv o + B15 ^ o.length * a = n) (ha : a ≠ 0) (hn : n < 2 ^ 64) : o.length ≤ 4 := by
  apply Classical.byContradiction
  intro hc
  have h1 : B15 ^ 5 ≤ B15 ^ o.length := Nat.pow_le_pow_right (by decide) (by omega)
  have h2 : B15 ^ o.length * 1 ≤ B15 ^ o.length * a := Nat.mul_le_mul_left _ (by omega)
  have h3 : B15 ^ 5 = 37778931862957161709568 := by decide
  omega
theorem arr3L {a b : List IV} (h : a = b) : some (Bx.arr 3 1 a false) = some (Bx.arr 3 1 b false) := by rw [h]
theorem one_d64 {x : Int} {r : Nat} (h : x = (r : Int)) : [IV.int .i64 x] ++ ([] : List IV) = [r].map d64 := by rw [h]; rfl
theorem cons_d64 {x : Int} {r : Nat} {o : List Nat} {k : Nat} (hx : x = (r : Int)) (hk : k = o.length) : [IV.int .i64 x] ++ List.take k (List.drop 0 (o.map d64)) = (r :: o).map d64 := by
  rw [List.drop_zero, List.take_of_length_le (by simp [hk]), hx]; rfl
theorem refEq2 {g n m : Nat} (h : n = m) : SV.ref g 0 n true = SV.ref g 0 m true := by rw [h]
theorem one64 : ∀ y ∈ ([] : List IV), y.cells.length = 1 ∧ y.isTup = false := by intro y hy; cases hy
theorem all64b {l : List Nat} {k : Nat} : ∀ y ∈ List.take k (List.drop 0 (l.map d64)), y.cells.length = 1 ∧ y.isTup = false := by
  intro y hy
  obtain ⟨d, _, rfl⟩ := List.mem_map.1 (List.mem_of_mem_drop (List.mem_of_mem_take hy))
  exact ⟨rfl, rfl⟩
theorem f139_pos (J : Keep) {n : Nat} (hn : n ≤ 9223372036854775807) : C J 139 [.int .i64 (1 * (n : Int))] (zh (1 * (n : Int))) := by
  refine fn_ok Tryz.func139 rfl rfl rfl ?_
  repeat (first | (refine W.RS (by kernel_rfl) ?_; conv => whnf) | (refine W.S ?_) | (refine W.block ?_) | (refine W.skip ?_; conv => whnf) | (refine W.condF rfl ?_) | (refine ⟨false, decide_eq_false (by omega), ?_⟩; conv => whnf) | (refine ⟨rfl, ?_⟩; conv => whnf))
  refine W.loop (G := { p : List Nat × Nat // Dg B15 p.1.reverse ∧ hv p.1 + B15 ^ p.1.length * p.2 = n ∧ p.2 ≤ n ∧ p.1.length ≤ 5 }) (fun p => ziInv 1 p.1.2 p.1.1 (1)) (fun p => p.1.2) ⟨([], n), Dg.nil _, by simp [hv, nv], Nat.le_refl _, by simp⟩
    (Wk.tab [] ⟨⟨rfl, rfl⟩, ⟨rfl, rfl⟩, ⟨rfl, rfl⟩, ⟨rfl, rfl⟩, trivial⟩ ⟨rfl, trivial⟩ rfl) ?_
  rintro ⟨⟨o, a⟩, hd, hv', han, hl⟩
  dsimp only at hd hv' han hl
  have hm : (1 * (a : Int)).tmod 32768 = 1 * ((a % 32768 : Nat) : Int) := by
    rw [Int.one_mul, Int.one_mul]; exact tmodN a 32768
  have hq : IntKind.wrap .i64 ((1 * (a : Int)).tdiv 32768) = 1 * ((a / 32768 : Nat) : Int) := by
    rw [Int.one_mul, Int.one_mul, show (32768 : Int) = ((32768 : Nat) : Int) from rfl, tdivN]; exact w64 (by omega)
  have hst := ziStep hv'
  have hdg : Dg B15 (a % 32768 :: o).reverse := by
    rw [List.reverse_cons]; exact hd.append (Dg.single (Nat.mod_lt _ (by decide)))
  have hle : a / 32768 ≤ n := Nat.le_trans (Nat.div_le_self _ _) han
  obtain ⟨q, hqe⟩ : ∃ q, a / 32768 = q := ⟨_, rfl⟩
  obtain ⟨r, hre⟩ : ∃ r, a % 32768 = r := ⟨_, rfl⟩
  have hqa : a ≠ 0 → q < a := fun h => by omega
  rw [hqe] at hq hst hle
  rw [hre] at hm hst hdg
  cases o with
  | nil =>
    show W J _ _ (mkA [(0, .iv (.int .i64 (1 * (a : Int)))), (2, .ptr 0 0), (3, .iv (.int .i64 (1))), (4, .nilS)] [(0, .var (.agg [.int .i64 0, .sl []]))] 20) _
    by_cases h : a = 0
    · have hn0 : n = 0 := by rw [← hv', h]; simp [hv, nv]
      have c1 := f193_ok J (l := []) (s := 1) (by simp) (Dg.nil _) (by simp)
      repeat (first | (refine W.RS (by kernel_rfl) ?_; conv => whnf) | (refine W.S ?_) | (refine W.ret ?_; conv => whnf) | (refine W.exit ?_; conv => whnf) | (refine W.condF rfl ?_) | (refine ⟨_, c1, ?_⟩; conv => whnf) | (refine ⟨false, bne_eq_false_iff_eq.2 (by omega), ?_⟩; conv => whnf) | (refine ⟨rfl, ?_⟩; conv => whnf))
      first | (exfalso; omega) | (rw [hn0]; rfl)
    · by_cases h0 : r = 0
      · repeat (first | (refine W.RS (by kernel_rfl) ?_; conv => whnf) | (refine W.R (by kernel_rfl) ?_; conv => whnf) | (refine W.S ?_) | (refine W.block ?_) | (refine W.skip ?_; conv => whnf) | (refine W.condF rfl ?_) | (refine W.condT rfl ?_) | (refine ⟨by omega, _, hm, ?_⟩; conv => whnf) | (refine ⟨by omega, _, hq, ?_⟩; conv => whnf) | (refine ⟨List.not_mem_nil, rfl, rfl, rfl, one64, by show (1 + 0) * 8 ≤ 140737488355328; omega, by show 1 + 0 ≤ maxLen; unfold maxLen; omega, ?_⟩; conv => whnf) | (refine ⟨false, decide_eq_false (by omega), ?_⟩; conv => whnf) | (refine ⟨true, bne_iff_ne.2 (by omega), ?_⟩; conv => whnf) | (refine ⟨rfl, ?_⟩; conv => whnf))
        exact ⟨⟨([r], q), hdg, hst, hle, by simp⟩, Wk.tab [(1, 30)] ⟨⟨rfl, rfl⟩, ⟨rfl, rfl⟩, ⟨rfl, rfl⟩, ⟨rfl, rfl⟩, trivial⟩ ⟨rfl, arr3L (one_d64 (by omega)), trivial⟩ rfl, by dsimp only; omega⟩
      · repeat (first | (refine W.RS (by kernel_rfl) ?_; conv => whnf) | (refine W.R (by kernel_rfl) ?_; conv => whnf) | (refine W.S ?_) | (refine W.block ?_) | (refine W.skip ?_; conv => whnf) | (refine W.condF rfl ?_) | (refine W.condT rfl ?_) | (refine ⟨by omega, _, hm, ?_⟩; conv => whnf) | (refine ⟨by omega, _, hq, ?_⟩; conv => whnf) | (refine ⟨List.not_mem_nil, rfl, rfl, rfl, one64, by show (1 + 0) * 8 ≤ 140737488355328; omega, by show 1 + 0 ≤ maxLen; unfold maxLen; omega, ?_⟩; conv => whnf) | (refine ⟨false, decide_eq_false (by omega), ?_⟩; conv => whnf) | (refine ⟨true, bne_iff_ne.2 (by omega), ?_⟩; conv => whnf) | (refine ⟨rfl, ?_⟩; conv => whnf))
        exact ⟨⟨([r], q), hdg, hst, hle, by simp⟩, Wk.tab [(1, 30)] ⟨⟨rfl, rfl⟩, ⟨rfl, rfl⟩, ⟨rfl, rfl⟩, ⟨rfl, rfl⟩, trivial⟩ ⟨rfl, arr3L (one_d64 (by omega)), trivial⟩ rfl, by dsimp only; omega⟩
  | cons x o =>
    show W J _ _ (mkA [(0, .iv (.int .i64 (1 * (a : Int)))), (2, .ptr 0 0), (3, .iv (.int .i64 (1))), (4, .ref 1 0 (x :: o).length true)] [(0, .var (.agg [.int .i64 0, .sl []])), (1, .arr 3 1 ((x :: o).map d64) false)] 20) _
    have e9 : List.take (x :: o).length (List.drop 0 ((x :: o).map d64)) = (x :: o).map d64 := by rw [List.drop_zero, List.take_of_length_le (by simp)]
    by_cases h : a = 0
    · have hn0 : n = hv (x :: o) := by rw [← hv', h]; simp
      have c1 := f193_ok J (l := x :: o) (s := 1) (by omega) hd (by omega)
      rw [← e9] at c1
      repeat (first | (refine W.RS (by kernel_rfl) ?_; conv => whnf) | (refine W.S ?_) | (refine W.ret ?_; conv => whnf) | (refine W.exit ?_; conv => whnf) | (refine W.condF rfl ?_) | (refine ⟨_, c1, ?_⟩; conv => whnf) | (refine ⟨false, bne_eq_false_iff_eq.2 (by omega), ?_⟩; conv => whnf) | (refine ⟨rfl, ?_⟩; conv => whnf))
      rw [hn0]; rfl
    · have hl4 := ziLen hv' h (by omega)
      have l8 : (List.take (x :: o).length (List.drop 0 ((x :: o).map d64))).length = (x :: o).length := by rw [e9]; simp
      by_cases h0 : r = 0
      · repeat (first | (refine W.RS (by kernel_rfl) ?_; conv => whnf) | (refine W.R (by kernel_rfl) ?_; conv => whnf) | (refine W.S ?_) | (refine W.block ?_) | (refine W.skip ?_; conv => whnf) | (refine W.condF rfl ?_) | (refine W.condT rfl ?_) | (refine ⟨by omega, _, hm, ?_⟩; conv => whnf) | (refine ⟨by omega, _, hq, ?_⟩; conv => whnf) | (refine ⟨nin1 rfl, rfl, rfl, rfl, all64b, by show (1 + (List.take (x :: o).length (List.drop 0 ((x :: o).map d64))).length) * 8 ≤ 140737488355328; omega, by show 1 + (List.take (x :: o).length (List.drop 0 ((x :: o).map d64))).length ≤ maxLen; unfold maxLen; omega, ?_⟩; conv => whnf) | (refine ⟨false, decide_eq_false (by omega), ?_⟩; conv => whnf) | (refine ⟨true, bne_iff_ne.2 (by omega), ?_⟩; conv => whnf) | (refine ⟨rfl, ?_⟩; conv => whnf))
        exact ⟨⟨(r :: x :: o, q), hdg, hst, hle, by simp only [List.length_cons] at hl4 ⊢; omega⟩, Wk.tab [(1, 30)] ⟨⟨rfl, rfl⟩, ⟨rfl, rfl⟩, ⟨rfl, rfl⟩, ⟨refEq2 (by rw [l8]; simp only [List.length_cons]; omega), rfl⟩, trivial⟩ ⟨rfl, arr3L (cons_d64 (by omega) rfl), trivial⟩ rfl, by dsimp only; omega⟩
      · repeat (first | (refine W.RS (by kernel_rfl) ?_; conv => whnf) | (refine W.R (by kernel_rfl) ?_; conv => whnf) | (refine W.S ?_) | (refine W.block ?_) | (refine W.skip ?_; conv => whnf) | (refine W.condF rfl ?_) | (refine W.condT rfl ?_) | (refine ⟨by omega, _, hm, ?_⟩; conv => whnf) | (refine ⟨by omega, _, hq, ?_⟩; conv => whnf) | (refine ⟨nin1 rfl, rfl, rfl, rfl, all64b, by show (1 + (List.take (x :: o).length (List.drop 0 ((x :: o).map d64))).length) * 8 ≤ 140737488355328; omega, by show 1 + (List.take (x :: o).length (List.drop 0 ((x :: o).map d64))).length ≤ maxLen; unfold maxLen; omega, ?_⟩; conv => whnf) | (refine ⟨false, decide_eq_false (by omega), ?_⟩; conv => whnf) | (refine ⟨true, bne_iff_ne.2 (by omega), ?_⟩; conv => whnf) | (refine ⟨rfl, ?_⟩; conv => whnf))
        exact ⟨⟨(r :: x :: o, q), hdg, hst, hle, by simp only [List.length_cons] at hl4 ⊢; omega⟩, Wk.tab [(1, 30)] ⟨⟨rfl, rfl⟩, ⟨rfl, rfl⟩, ⟨rfl, rfl⟩, ⟨refEq2 (by rw [l8]; simp only [List.length_cons]; omega), rfl⟩, trivial⟩ ⟨rfl, arr3L (cons_d64 (by omega) rfl), trivial⟩ rfl, by dsimp only; omega⟩
theorem f139_neg (J : Keep) {n : Nat} (hn : 0 < n ∧ n ≤ 9223372036854775808) : C J 139 [.int .i64 ((-1) * (n : Int))] (zh ((-1) * (n : Int))) := by
  refine fn_ok Tryz.func139 rfl rfl rfl ?_
  repeat (first | (refine W.RS (by kernel_rfl) ?_; conv => whnf) | (refine W.R (by kernel_rfl) ?_; conv => whnf) | (refine W.S ?_) | (refine W.block ?_) | (refine W.condT rfl ?_) | (refine ⟨true, decide_eq_true (by omega), ?_⟩; conv => whnf) | (refine ⟨rfl, ?_⟩; conv => whnf))
  refine W.loop (G := { p : List Nat × Nat // Dg B15 p.1.reverse ∧ hv p.1 + B15 ^ p.1.length * p.2 = n ∧ p.2 ≤ n ∧ p.1.length ≤ 5 }) (fun p => ziInv (-1) p.1.2 p.1.1 ((-1))) (fun p => p.1.2) ⟨([], n), Dg.nil _, by simp [hv, nv], Nat.le_refl _, by simp⟩
    (Wk.tab [] ⟨⟨rfl, rfl⟩, ⟨rfl, rfl⟩, ⟨rfl, rfl⟩, ⟨rfl, rfl⟩, trivial⟩ ⟨rfl, trivial⟩ rfl) ?_
  rintro ⟨⟨o, a⟩, hd, hv', han, hl⟩
  dsimp only at hd hv' han hl
  have hm : ((-1) * (a : Int)).tmod 32768 = (-1) * ((a % 32768 : Nat) : Int) := by
    rw [Int.neg_mul, Int.neg_mul, Int.one_mul, Int.one_mul, Int.neg_tmod]; exact congrArg _ (tmodN a 32768)
  have hq : IntKind.wrap .i64 (((-1) * (a : Int)).tdiv 32768) = (-1) * ((a / 32768 : Nat) : Int) := by
    rw [Int.neg_mul, Int.neg_mul, Int.one_mul, Int.one_mul, Int.neg_tdiv, show (32768 : Int) = ((32768 : Nat) : Int) from rfl, tdivN]; exact w64 (by omega)
  have hst := ziStep hv'
  have hdg : Dg B15 (a % 32768 :: o).reverse := by
    rw [List.reverse_cons]; exact hd.append (Dg.single (Nat.mod_lt _ (by decide)))
  have hle : a / 32768 ≤ n := Nat.le_trans (Nat.div_le_self _ _) han
  obtain ⟨q, hqe⟩ : ∃ q, a / 32768 = q := ⟨_, rfl⟩
  obtain ⟨r, hre⟩ : ∃ r, a % 32768 = r := ⟨_, rfl⟩
  have hqa : a ≠ 0 → q < a := fun h => by omega
  rw [hqe] at hq hst hle
  rw [hre] at hm hst hdg
  cases o with
  | nil =>
    show W J _ _ (mkA [(0, .iv (.int .i64 ((-1) * (a : Int)))), (2, .ptr 0 0), (3, .iv (.int .i64 ((-1)))), (4, .nilS)] [(0, .var (.agg [.int .i64 0, .sl []]))] 20) _
    by_cases h : a = 0
    · have hn0 : n = 0 := by rw [← hv', h]; simp [hv, nv]
      have c1 := f193_ok J (l := []) (s := (-1)) (by simp) (Dg.nil _) (by simp)
      repeat (first | (refine W.RS (by kernel_rfl) ?_; conv => whnf) | (refine W.R (by kernel_rfl) ?_; conv => whnf) | (refine W.S ?_) | (refine W.block ?_) | (refine W.skip ?_; conv => whnf) | (refine W.condT rfl ?_) | (refine ⟨_, w64 (by omega), ?_⟩; conv => whnf) | (refine ⟨true, decide_eq_true (by omega), ?_⟩; conv => whnf) | (refine ⟨true, bne_iff_ne.2 (by omega), ?_⟩; conv => whnf) | (refine ⟨_, rfl, ?_⟩; conv => whnf) | (refine ⟨rfl, ?_⟩; conv => whnf) | (refine And.intro (by omega) ?_; conv => whnf))
      first | (exfalso; omega) | (rw [hn0]; rfl)
    · by_cases h0 : r = 0
      · repeat (first | (refine W.RS (by kernel_rfl) ?_; conv => whnf) | (refine W.R (by kernel_rfl) ?_; conv => whnf) | (refine W.S ?_) | (refine W.block ?_) | (refine W.skip ?_; conv => whnf) | (refine W.condF rfl ?_) | (refine W.condT rfl ?_) | (refine ⟨by omega, _, hm, ?_⟩; conv => whnf) | (refine ⟨by omega, _, hq, ?_⟩; conv => whnf) | (refine ⟨List.not_mem_nil, rfl, rfl, rfl, one64, by show (1 + 0) * 8 ≤ 140737488355328; omega, by show 1 + 0 ≤ maxLen; unfold maxLen; omega, ?_⟩; conv => whnf) | (refine ⟨false, decide_eq_false (by omega), ?_⟩; conv => whnf) | (refine ⟨true, bne_iff_ne.2 (by omega), ?_⟩; conv => whnf) | (refine ⟨rfl, ?_⟩; conv => whnf))
        exact ⟨⟨([r], q), hdg, hst, hle, by simp⟩, Wk.tab [(1, 30)] ⟨⟨rfl, rfl⟩, ⟨rfl, rfl⟩, ⟨rfl, rfl⟩, ⟨rfl, rfl⟩, trivial⟩ ⟨rfl, arr3L (one_d64 (by omega)), trivial⟩ rfl, by dsimp only; omega⟩
      · repeat (first | (refine W.RS (by kernel_rfl) ?_; conv => whnf) | (refine W.R (by kernel_rfl) ?_; conv => whnf) | (refine W.S ?_) | (refine W.block ?_) | (refine W.skip ?_; conv => whnf) | (refine W.condT rfl ?_) | (refine ⟨by omega, _, hm, ?_⟩; conv => whnf) | (refine ⟨by omega, _, hq, ?_⟩; conv => whnf) | (refine ⟨List.not_mem_nil, rfl, rfl, rfl, one64, by show (1 + 0) * 8 ≤ 140737488355328; omega, by show 1 + 0 ≤ maxLen; unfold maxLen; omega, ?_⟩; conv => whnf) | (refine ⟨_, w64 (by omega), ?_⟩; conv => whnf) | (refine ⟨true, decide_eq_true (by omega), ?_⟩; conv => whnf) | (refine ⟨true, bne_iff_ne.2 (by omega), ?_⟩; conv => whnf) | (refine ⟨rfl, ?_⟩; conv => whnf))
        exact ⟨⟨([r], q), hdg, hst, hle, by simp⟩, Wk.tab [(1, 33)] ⟨⟨rfl, rfl⟩, ⟨rfl, rfl⟩, ⟨rfl, rfl⟩, ⟨rfl, rfl⟩, trivial⟩ ⟨rfl, arr3L (one_d64 (by omega)), trivial⟩ rfl, by dsimp only; omega⟩
  | cons x o =>
    show W J _ _ (mkA [(0, .iv (.int .i64 ((-1) * (a : Int)))), (2, .ptr 0 0), (3, .iv (.int .i64 ((-1)))), (4, .ref 1 0 (x :: o).length true)] [(0, .var (.agg [.int .i64 0, .sl []])), (1, .arr 3 1 ((x :: o).map d64) false)] 20) _
    have e9 : List.take (x :: o).length (List.drop 0 ((x :: o).map d64)) = (x :: o).map d64 := by rw [List.drop_zero, List.take_of_length_le (by simp)]
    by_cases h : a = 0
    · have hn0 : n = hv (x :: o) := by rw [← hv', h]; simp
      have c1 := f193_ok J (l := x :: o) (s := (-1)) (by omega) hd (by omega)
      rw [← e9] at c1
      repeat (first | (refine W.RS (by kernel_rfl) ?_; conv => whnf) | (refine W.S ?_) | (refine W.ret ?_; conv => whnf) | (refine W.exit ?_; conv => whnf) | (refine W.condF rfl ?_) | (refine ⟨_, c1, ?_⟩; conv => whnf) | (refine ⟨false, bne_eq_false_iff_eq.2 (by omega), ?_⟩; conv => whnf) | (refine ⟨rfl, ?_⟩; conv => whnf))
      rw [hn0]; rfl
    · have hl4 := ziLen hv' h (by omega)
      have l8 : (List.take (x :: o).length (List.drop 0 ((x :: o).map d64))).length = (x :: o).length := by rw [e9]; simp
      by_cases h0 : r = 0
      · repeat (first | (refine W.RS (by kernel_rfl) ?_; conv => whnf) | (refine W.R (by kernel_rfl) ?_; conv => whnf) | (refine W.S ?_) | (refine W.block ?_) | (refine W.skip ?_; conv => whnf) | (refine W.condF rfl ?_) | (refine W.condT rfl ?_) | (refine ⟨by omega, _, hm, ?_⟩; conv => whnf) | (refine ⟨by omega, _, hq, ?_⟩; conv => whnf) | (refine ⟨nin1 rfl, rfl, rfl, rfl, all64b, by show (1 + (List.take (x :: o).length (List.drop 0 ((x :: o).map d64))).length) * 8 ≤ 140737488355328; omega, by show 1 + (List.take (x :: o).length (List.drop 0 ((x :: o).map d64))).length ≤ maxLen; unfold maxLen; omega, ?_⟩; conv => whnf) | (refine ⟨false, decide_eq_false (by omega), ?_⟩; conv => whnf) | (refine ⟨true, bne_iff_ne.2 (by omega), ?_⟩; conv => whnf) | (refine ⟨rfl, ?_⟩; conv => whnf))
        exact ⟨⟨(r :: x :: o, q), hdg, hst, hle, by simp only [List.length_cons] at hl4 ⊢; omega⟩, Wk.tab [(1, 30)] ⟨⟨rfl, rfl⟩, ⟨rfl, rfl⟩, ⟨rfl, rfl⟩, ⟨refEq2 (by rw [l8]; simp only [List.length_cons]; omega), rfl⟩, trivial⟩ ⟨rfl, arr3L (cons_d64 (by omega) rfl), trivial⟩ rfl, by dsimp only; omega⟩
      · repeat (first | (refine W.RS (by kernel_rfl) ?_; conv => whnf) | (refine W.R (by kernel_rfl) ?_; conv => whnf) | (refine W.S ?_) | (refine W.block ?_) | (refine W.skip ?_; conv => whnf) | (refine W.condT rfl ?_) | (refine ⟨by omega, _, hm, ?_⟩; conv => whnf) | (refine ⟨by omega, _, hq, ?_⟩; conv => whnf) | (refine ⟨nin1 rfl, rfl, rfl, rfl, all64b, by show (1 + (List.take (x :: o).length (List.drop 0 ((x :: o).map d64))).length) * 8 ≤ 140737488355328; omega, by show 1 + (List.take (x :: o).length (List.drop 0 ((x :: o).map d64))).length ≤ maxLen; unfold maxLen; omega, ?_⟩; conv => whnf) | (refine ⟨_, w64 (by omega), ?_⟩; conv => whnf) | (refine ⟨true, decide_eq_true (by omega), ?_⟩; conv => whnf) | (refine ⟨true, bne_iff_ne.2 (by omega), ?_⟩; conv => whnf) | (refine ⟨rfl, ?_⟩; conv => whnf))
        exact ⟨⟨(r :: x :: o, q), hdg, hst, hle, by simp only [List.length_cons] at hl4 ⊢; omega⟩, Wk.tab [(1, 33)] ⟨⟨rfl, rfl⟩, ⟨rfl, rfl⟩, ⟨rfl, rfl⟩, ⟨refEq2 (by rw [l8]; simp only [List.length_cons]; omega), rfl⟩, trivial⟩ ⟨rfl, arr3L (cons_d64 (by omega) rfl), trivial⟩ rfl, by dsimp only; omega⟩
theorem f139_ok (J : Keep) {z : Int} (h1 : -9223372036854775808 ≤ z) (h2 : z ≤ 9223372036854775807) : C J 139 [.int .i64 z] (zh z) := by
  by_cases h : z < 0
  · have := f139_neg J (n := z.natAbs) (by omega)
    rwa [show (-1 : Int) * (z.natAbs : Int) = z by omega] at this
  · have := f139_pos J (n := z.natAbs) (by omega)
    rwa [show (1 : Int) * (z.natAbs : Int) = z by omega] at this
end Go.Proofs.Fl
namespace Go.Proofs.Fl
open Go.RowKit Go.Proofs.Dig
attribute [local irreducible] IntKind.wrap PureC MutC MakC IterC
theorem nv_takeD (B : Nat) (l : List Nat) (i : Nat) : nv B (l.take (i + 1)) = nv B (l.take i) + B ^ i * l.getD i 0 := by
  by_cases h : i < l.length
  · rw [nv_take_succ B l i h, List.getD_eq_getElem?_getD, List.getElem?_eq_getElem h]; rfl
  · have e : l.getD i 0 = 0 := by simp [Nat.not_lt.1 h]
    rw [e, List.take_of_length_le (show l.length ≤ i + 1 by omega), List.take_of_length_le (Nat.not_lt.1 h)]; rfl
theorem nv_setB {B : Nat} {l : List Nat} {j d : Nat} (h : j < l.length) : nv B (l.set j d) + B ^ j * l.getD j 0 = nv B l + B ^ j * d := by
  induction l generalizing j with
  | nil => simp at h
  | cons x l ih =>
    cases j with
    | zero => simp [nv]; omega
    | succ j =>
      have := ih (j := j) (by simpa using h)
      simp only [List.set_cons_succ, nv_cons, List.getD_cons_succ, Nat.pow_succ]
      have e1 : B * (nv B (l.set j d) + B ^ j * l.getD j 0) = B * (nv B l + B ^ j * d) := by rw [this]
      rw [Nat.mul_add, Nat.mul_add] at e1
      rw [Nat.mul_comm (B ^ j) B, Nat.mul_assoc, Nat.mul_assoc]
      omega
theorem tiStepB {B : Nat} {o m : List Nat} {i k n x c r c' P : Nat} (hj : i + k < n) (hn : n ≤ o.length) (hs : nv B (o.take n) + B ^ (i + k) * c = P + B ^ i * (x * nv B (m.take k))) (he : c + (x * m.getD k 0 + o.getD (i + k) 0) = r + B * c') :
    nv B ((o.set (i + k) r).take n) + B ^ (i + (k + 1)) * c' = P + B ^ i * (x * nv B (m.take (k + 1))) := by
  have e0 : (o.set (i + k) r).take n = (o.take n).set (i + k) r := by rw [List.take_set]
  have e1 := nv_setB (B := B) (l := o.take n) (d := r) (show i + k < (o.take n).length by rw [List.length_take]; omega)
  have e2 : (o.take n).getD (i + k) 0 = o.getD (i + k) 0 := by
    rw [List.getD_eq_getElem?_getD, List.getD_eq_getElem?_getD, List.getElem?_take, if_pos hj]
  rw [e2] at e1
  rw [e0, nv_takeD, ← Nat.add_assoc, Nat.pow_succ, Nat.mul_assoc]
  have e3 : B ^ (i + k) * (c + (x * m.getD k 0 + o.getD (i + k) 0)) = B ^ (i + k) * (r + B * c') := by rw [he]
  rw [Nat.mul_add, Nat.mul_add, Nat.mul_add] at e3
  have e4 : B ^ i * (x * (nv B (m.take k) + B ^ k * m.getD k 0)) = B ^ i * (x * nv B (m.take k)) + B ^ (i + k) * (x * m.getD k 0) := by
    rw [Nat.mul_add, Nat.mul_add, Nat.pow_add]
    congr 1
    rw [Nat.mul_assoc, Nat.mul_left_comm x]
  rw [e4]
  omega
theorem mul_bound15 {x y : Nat} (hx : x < 32768) (hy : y < 32768) : x * y ≤ 1073676289 :=
  Nat.le_trans (Nat.mul_le_mul (Nat.le_of_lt_succ hx) (Nat.le_of_lt_succ hy)) (by decide)
theorem revGet {l : List Nat} {i j : Nat} (hi : i < l.length) (hj : j = l.length - 1 - i) : (l.map d64)[j]? = some (d64 (l.reverse.getD i 0)) := by
  rw [getd (by omega)]
  have e : l.reverse.getD i 0 = l.getD j 0 := by
    rw [List.getD_eq_getElem?_getD, List.getD_eq_getElem?_getD, List.getElem?_reverse hi, hj]
  rw [e]
theorem revGet' {o : List Nat} {i j : Nat} (hi : i < o.length) (hj : j = o.length - 1 - i) : (o.reverse.map d64)[j]? = some (d64 (o.getD i 0)) := by
  have := revGet (l := o.reverse) (i := i) (j := j) (by simpa using hi) (by simpa using hj)
  rwa [List.reverse_reverse] at this
theorem refE {g n m : Nat} (h : n = m) : SV.ref g 0 n true = SV.ref g 0 m true := by rw [h]
set_option maxHeartbeats 1000000 in
theorem f146_ok (J : Keep) {x y : Int} (hx : lh x.natAbs < 2 ^ 40) (hy : lh y.natAbs < 2 ^ 40) : C J 146 [zh x, zh y] (zh (x * y)) := by
  unfold lh at hx hy
  obtain ⟨l, hl0⟩ : ∃ l, l = dh x.natAbs := ⟨_, rfl⟩
  obtain ⟨m, hm0⟩ : ∃ m, m = dh y.natAbs := ⟨_, rfl⟩
  have hol : Dg B15 l.reverse := by rw [hl0]; exact (dh_ok _).dg
  have hom : Dg B15 m.reverse := by rw [hm0]; exact (dh_ok _).dg
  have hvl : nv B15 l.reverse = x.natAbs := by rw [hl0]; exact dh_hv _
  have hvm : nv B15 m.reverse = y.natAbs := by rw [hm0]; exact dh_hv _
  show C J 146 [.agg [.int .i64 x.sign, .sl ((dh x.natAbs).map d64)], .agg [.int .i64 y.sign, .sl ((dh y.natAbs).map d64)]] _
  rw [← hl0, ← hm0]
  rw [← hl0] at hx
  rw [← hm0] at hy
  have la : (l.map d64).length = l.length := by simp
  have lb : (m.map d64).length = m.length := by simp
  obtain ⟨N, hN⟩ : ∃ N, N = l.length + m.length := ⟨_, rfl⟩
  refine fn_ok Tryz.func146 rfl rfl rfl ?_
  repeat (first | (refine W.RS (by kernel_rfl) ?_; conv => whnf) | (refine W.S ?_) | (refine W.block ?_) | (refine ⟨rfl, N, by omega, ?_⟩; conv => whnf) | (refine ⟨by show 8 * _ ≤ (281474976710656 : Nat); omega, by unfold maxLen; omega, ?_⟩; conv => whnf) | (refine ⟨rfl, _, w64 (by omega), ?_⟩; conv => whnf) | (refine ⟨_, rfl, ?_⟩; conv => whnf))
  refine W.loop (G := { p : Nat × List Nat // p.1 ≤ l.length ∧ p.2.length = N ∧ Dg B15 p.2 ∧ nv B15 (p.2.take (p.1 + m.length)) = nv B15 (l.reverse.take p.1) * nv B15 m.reverse })
    (fun p => mkA [(2, .ptr 0 0), (3, .ptr 1 0), (4, .ptr 2 0), (5, .ref 3 0 N true), (6, .iv (.int .i64 ((l.length : Int) - 1 - (p.1.1 : Int))))]
      [(0, .var (.agg [.int .i64 x.sign, .sl (l.map d64)])), (1, .var (.agg [.int .i64 y.sign, .sl (m.map d64)])), (2, .var (.agg [.int .i64 0, .sl []])), (3, .arr 3 1 (p.1.2.reverse.map d64) false)] 30) (fun p => l.length - p.1.1)
    ⟨(0, List.replicate N 0), by simp, by simp, Dg.replicate (by decide) _, by simp [nv, nv_replicate]⟩
    (Wk.tab [(3, 10)] ⟨⟨rfl, rfl⟩, ⟨rfl, rfl⟩, ⟨rfl, rfl⟩, ⟨refE (by omega), rfl⟩, ⟨ivEq (by dsimp only; omega), rfl⟩, trivial⟩ ⟨rfl, rfl, rfl, arr3L ?_, trivial⟩ rfl) ?_
  · rw [List.reverse_replicate, List.map_replicate]; rfl
  rintro ⟨⟨i, o⟩, hi, ho, hd, hs⟩
  dsimp only at hi ho hd hs
  show W J _ _ (mkA [(2, .ptr 0 0), (3, .ptr 1 0), (4, .ptr 2 0), (5, .ref 3 0 N true), (6, .iv (.int .i64 ((l.length : Int) - 1 - (i : Int))))]
      [(0, .var (.agg [.int .i64 x.sign, .sl (l.map d64)])), (1, .var (.agg [.int .i64 y.sign, .sl (m.map d64)])), (2, .var (.agg [.int .i64 0, .sl []])), (3, .arr 3 1 (o.reverse.map d64) false)] 30) _
  have lo : (o.reverse.map d64).length = o.length := by simp
  by_cases h : i < l.length
  · have hx2 : l.reverse.getD i 0 < 32768 := hol.getD (by decide) i
    repeat (first | (refine W.RS (by kernel_rfl) ?_; conv => whnf) | (refine W.S ?_) | (refine W.block ?_) | (refine W.skip ?_; conv => whnf) | (refine W.condT rfl ?_) | (refine ⟨rfl, _, w64 (by omega), ?_⟩; conv => whnf) | (refine ⟨true, decide_eq_true (by omega), ?_⟩; conv => whnf) | (refine ⟨_, rfl, ?_⟩; conv => whnf) | (refine ⟨rfl, ?_⟩; conv => whnf))
    refine W.loop (G := { p : Nat × Nat × List Nat // p.1 ≤ m.length ∧ p.2.1 < 32768 ∧ p.2.2.length = N ∧ Dg B15 p.2.2 ∧ nv B15 (p.2.2.take (i + m.length)) + B15 ^ (i + p.1) * p.2.1 = nv B15 (l.reverse.take i) * nv B15 m.reverse + B15 ^ i * (l.reverse.getD i 0 * nv B15 (m.reverse.take p.1)) })
      (fun p => mkA [(2, .ptr 0 0), (3, .ptr 1 0), (4, .ptr 2 0), (5, .ref 3 0 N true), (6, .iv (.int .i64 ((l.length : Int) - 1 - (i : Int)))), (7, .iv (.int .i64 (p.1.2.1 : Int))), (8, .iv (.int .i64 ((m.length : Int) - 1 - (p.1.1 : Int))))]
        [(0, .var (.agg [.int .i64 x.sign, .sl (l.map d64)])), (1, .var (.agg [.int .i64 y.sign, .sl (m.map d64)])), (2, .var (.agg [.int .i64 0, .sl []])), (3, .arr 3 1 (p.1.2.2.reverse.map d64) false)] 60) (fun p => m.length - p.1.1)
      ⟨(0, 0, o), by simp, by simp, ho, hd, by simp [nv, hs]⟩
      (Wk.tab [] ⟨⟨rfl, rfl⟩, ⟨rfl, rfl⟩, ⟨rfl, rfl⟩, ⟨rfl, rfl⟩, ⟨rfl, rfl⟩, ⟨rfl, rfl⟩, ⟨ivEq (by dsimp only; omega), rfl⟩, trivial⟩ ⟨rfl, rfl, rfl, rfl, trivial⟩ rfl) ?_
    clear lo
    rintro ⟨⟨k, c, o2⟩, hk, hc, ho2, hd2, hs2⟩
    dsimp only at hk hc ho2 hd2 hs2
    show W J _ _ (mkA [(2, .ptr 0 0), (3, .ptr 1 0), (4, .ptr 2 0), (5, .ref 3 0 N true), (6, .iv (.int .i64 ((l.length : Int) - 1 - (i : Int)))), (7, .iv (.int .i64 (c : Int))), (8, .iv (.int .i64 ((m.length : Int) - 1 - (k : Int))))]
        [(0, .var (.agg [.int .i64 x.sign, .sl (l.map d64)])), (1, .var (.agg [.int .i64 y.sign, .sl (m.map d64)])), (2, .var (.agg [.int .i64 0, .sl []])), (3, .arr 3 1 (o2.reverse.map d64) false)] 60) _
    have lo : (o2.reverse.map d64).length = o2.length := by simp
    by_cases h2 : k < m.length
    · have hy2 : m.reverse.getD k 0 < 32768 := hom.getD (by decide) k
      have hov : o2.getD (i + k) 0 < 32768 := hd2.getD (by decide) (i + k)
      have hxy := mul_bound15 hx2 hy2
      have hxyi : (l.reverse.getD i 0 : Int) * (m.reverse.getD k 0 : Int) = ((l.reverse.getD i 0 * m.reverse.getD k 0 : Nat) : Int) := rfl
      obtain ⟨q, hQ⟩ : ∃ q, (c + (l.reverse.getD i 0 * m.reverse.getD k 0 + o2.getD (i + k) 0)) / 32768 = q := ⟨_, rfl⟩
      obtain ⟨r, hR⟩ : ∃ q, (c + (l.reverse.getD i 0 * m.reverse.getD k 0 + o2.getD (i + k) 0)) % 32768 = q := ⟨_, rfl⟩
      have hsum : (o2.getD (i + k) 0 : Int) + (l.reverse.getD i 0 : Int) * (m.reverse.getD k 0 : Int) + (c : Int) = ((c + (l.reverse.getD i 0 * m.reverse.getD k 0 + o2.getD (i + k) 0) : Nat) : Int) := by
        rw [hxyi]; omega
      have hq : IntKind.wrap .i64 (((o2.getD (i + k) 0 : Int) + (l.reverse.getD i 0 : Int) * (m.reverse.getD k 0 : Int) + (c : Int)).tdiv 32768) = ((q : Nat) : Int) := by
        rw [hsum, show (32768 : Int) = ((32768 : Nat) : Int) from rfl, tdivN, hQ]
        exact w64 (by omega)
      have hm : ((o2.getD (i + k) 0 : Int) + (l.reverse.getD i 0 : Int) * (m.reverse.getD k 0 : Int) + (c : Int)).tmod 32768 = ((r : Nat) : Int) := by
        rw [hsum, show (32768 : Int) = ((32768 : Nat) : Int) from rfl, tmodN, hR]
      have hw1 : IntKind.wrap .i64 ((l.reverse.getD i 0 : Int) * (m.reverse.getD k 0 : Int)) = (l.reverse.getD i 0 : Int) * (m.reverse.getD k 0 : Int) := by rw [hxyi]; exact w64 (by omega)
      have hw2 : IntKind.wrap .i64 ((o2.getD (i + k) 0 : Int) + (l.reverse.getD i 0 : Int) * (m.reverse.getD k 0 : Int)) = (o2.getD (i + k) 0 : Int) + (l.reverse.getD i 0 : Int) * (m.reverse.getD k 0 : Int) := by rw [hxyi]; exact w64 (by omega)
      have hw3 : IntKind.wrap .i64 ((o2.getD (i + k) 0 : Int) + (l.reverse.getD i 0 : Int) * (m.reverse.getD k 0 : Int) + (c : Int)) = (o2.getD (i + k) 0 : Int) + (l.reverse.getD i 0 : Int) * (m.reverse.getD k 0 : Int) + (c : Int) := by rw [hxyi]; exact w64 (by omega)
      have hp := tiStepB (B := B15) (n := i + m.length) (r := r) (c' := q) (show i + k < i + m.length by omega) (by omega) hs2 (by simp only [B15]; omega)
      repeat (first | (refine W.RS (by kernel_rfl) ?_; conv => whnf) | (refine W.R (by kernel_rfl) ?_; conv => whnf) | (refine W.S ?_) | (refine W.block ?_) | (refine W.skip ?_; conv => whnf) | (refine W.condT rfl ?_) | (refine ⟨by omega, _, hq, ?_⟩; conv => whnf) | (refine ⟨by omega, _, hm, ?_⟩; conv => whnf) | (refine ⟨(rfl : (_ : Nat) = _), N - 1 - (i + k), by omega, by omega, ?_⟩; conv => whnf) | (refine ⟨_, revGet' (i := i + k) (by omega) (by omega), ?_⟩; conv => whnf) | (refine ⟨l.length - 1 - i, _, by omega, revGet (i := i) (by omega) rfl, rfl, ?_⟩; conv => whnf) | (refine ⟨m.length - 1 - k, _, by omega, revGet (i := k) (by omega) rfl, rfl, ?_⟩; conv => whnf) | (refine ⟨List.not_mem_nil, _, revGet' (i := i + k) (by omega) (by omega), ?_⟩; conv => whnf) | (refine ⟨rfl, _, w64 (by omega), ?_⟩; conv => whnf) | (refine ⟨true, decide_eq_true (by omega), ?_⟩; conv => whnf) | (refine ⟨rfl, ?_⟩; conv => whnf))
      exact ⟨⟨(k + 1, q, o2.set (i + k) r), by dsimp only; omega, by dsimp only; omega, by dsimp only; rw [List.length_set]; exact ho2, hd2.set (by simp only [B15]; omega), hp⟩,
        Wk.tab [] ⟨⟨rfl, rfl⟩, ⟨rfl, rfl⟩, ⟨rfl, rfl⟩, ⟨rfl, rfl⟩, ⟨rfl, rfl⟩, ⟨rfl, rfl⟩, ⟨ivEq (by dsimp only; omega), rfl⟩, trivial⟩ ⟨rfl, rfl, rfl, arr3 (by omega) (by omega) (by omega), trivial⟩ rfl, by dsimp only; omega⟩
    · have hkm : k = m.length := by omega
      have hp : nv B15 ((o2.set (i + m.length) c).take (i + 1 + m.length)) = nv B15 (l.reverse.take (i + 1)) * nv B15 m.reverse := by
        rw [show i + 1 + m.length = (i + m.length) + 1 by omega, set_take_succ (by omega), nv_snoc]
        have e : (o2.take (i + m.length)).length = i + m.length := by rw [List.length_take]; omega
        rw [e]
        rw [hkm, List.take_of_length_le (show m.reverse.length ≤ m.length by simp)] at hs2
        rw [hs2, nv_takeD B15 l.reverse i, Nat.add_mul, Nat.mul_assoc]
      repeat (first | (refine W.RS (by kernel_rfl) ?_; conv => whnf) | (refine W.R (by kernel_rfl) ?_; conv => whnf) | (refine W.S ?_) | (refine W.exit ?_; conv => whnf) | (refine W.condF rfl ?_) | (refine ⟨(rfl : (_ : Nat) = _), N - 1 - (i + m.length), by omega, by omega, ?_⟩; conv => whnf) | (refine ⟨List.not_mem_nil, _, revGet' (i := i + m.length) (by omega) (by omega), ?_⟩; conv => whnf) | (refine ⟨rfl, _, w64 (by omega), ?_⟩; conv => whnf) | (refine ⟨false, decide_eq_false (by omega), ?_⟩; conv => whnf) | (refine ⟨rfl, ?_⟩; conv => whnf))
      exact ⟨⟨(i + 1, o2.set (i + m.length) c), by dsimp only; omega, by dsimp only; rw [List.length_set]; exact ho2, hd2.set (by simp only [B15]; omega), hp⟩,
        Wk.tab [] ⟨⟨rfl, rfl⟩, ⟨rfl, rfl⟩, ⟨rfl, rfl⟩, ⟨rfl, rfl⟩, ⟨ivEq (by dsimp only; omega), rfl⟩, trivial⟩ ⟨rfl, rfl, rfl, arr3 (by omega) (by omega) (by omega), trivial⟩ rfl, by dsimp only; omega⟩
  · have hil : i = l.length := by omega
    have hfin : hv o.reverse = x.natAbs * y.natAbs := by
      unfold hv
      rw [List.reverse_reverse]
      rw [hil, List.take_of_length_le (by omega), List.take_of_length_le (show l.reverse.length ≤ l.length by simp), hvl, hvm] at hs
      exact hs
    have sx := sign3 x
    have sy := sign3 y
    have hsg : x.sign * y.sign = (x * y).sign := (Int.sign_mul x y).symm
    have s3 := sign3 (x * y)
    have hw : IntKind.wrap .i64 (x.sign * y.sign) = (x * y).sign := by rw [hsg]; exact w64 (by omega)
    have c9 := f193_ok J (l := o.reverse) (s := (x * y).sign) (by
      rcases s3 with h | h | h
      · exact .inr (.inl h)
      · right; right
        rw [hfin, ← Int.natAbs_mul, Int.sign_eq_zero_iff_zero.1 h]; rfl
      · exact .inl h) (by rw [List.reverse_reverse]; exact hd) (by rw [List.length_reverse]; omega)
    have e9 : List.take N (List.drop 0 (o.reverse.map d64)) = o.reverse.map d64 := by rw [List.drop_zero, List.take_of_length_le (by omega)]
    rw [← e9] at c9
    repeat (first | (refine W.RS (by kernel_rfl) ?_; conv => whnf) | (refine W.S ?_) | (refine W.ret ?_; conv => whnf) | (refine W.exit ?_; conv => whnf) | (refine W.condF rfl ?_) | (refine ⟨rfl, _, hw, ?_⟩; conv => whnf) | (refine ⟨_, c9, ?_⟩; conv => whnf) | (refine ⟨false, decide_eq_false (by omega), ?_⟩; conv => whnf) | (refine ⟨rfl, ?_⟩; conv => whnf))
    refine zhE ?_
    rw [hfin, ← Int.natAbs_mul]
    exact Int.sign_mul_natAbs (x * y)
end Go.Proofs.Fl
namespace Go.Proofs.Fl
open Go.RowKit Go.Proofs.Dig
attribute [local irreducible] IntKind.wrap PureC MutC MakC IterC
theorem nv_digit {B : Nat} (hB : 0 < B) : ∀ {l : List Nat} (m : Nat), Dg B l → nv B l / B ^ m % B = l.getD m 0
  | [], m, _ => by simp [nv]
  | x :: l, 0, h => by
    have hx := h x (by simp)
    rw [Nat.pow_zero, Nat.div_one, nv_cons, Nat.add_mul_mod_self_left, Nat.mod_eq_of_lt hx]; rfl
  | x :: l, m + 1, h => by
    have hx := h x (by simp)
    rw [nv_cons, Nat.pow_succ, Nat.mul_comm (B ^ m) B, ← Nat.div_div_eq_div_mul, Nat.add_mul_div_left _ _ hB, Nat.div_eq_of_lt hx, Nat.zero_add]
    exact nv_digit hB m (fun d hd => h d (by simp [hd]))
theorem front_step {v m x : Nat} (hx : v / B15 ^ m % B15 = x) : v / B15 ^ (m + 1) * 32768 + x = v / B15 ^ m := by
  rw [← hx, Nat.pow_succ, ← Nat.div_div_eq_div_mul, Nat.mul_comm]
  exact Nat.div_add_mod (v / B15 ^ m) B15
theorem f247_ok (J : Keep) {l : List Nat} {long k : Nat} (hd : Dg B15 l.reverse) (hl : l.length ≤ long) (hk : k ≤ long) (hk4 : k ≤ 4) (hlo : long < 2 ^ 59) : C J 247 [.sl (l.map d64), .int .i64 long, .int .i64 k] (.int .i64 (hv l / B15 ^ (long - k) : Nat)) := by
  refine fn_ok Tryz.func247 rfl rfl rfl ?_
  have hvl : hv l < B15 ^ long := Nat.lt_of_lt_of_le (hv_lt l hd) (Nat.pow_le_pow_right (by decide) hl)
  repeat (first | (refine W.RS (by kernel_rfl) ?_; conv => whnf) | (refine W.S ?_) | (refine W.block ?_))
  refine W.loop (G := { t : Nat // t ≤ k }) (fun t => mkA [(0, .iv (.sl (l.map d64))), (1, .iv (.int .i64 (long : Int))), (2, .iv (.int .i64 (k : Int))), (7, .iv (.int .i64 (hv l / B15 ^ (long - t.1) : Nat))), (8, .iv (.int .i64 (t.1 : Int)))] [] 30) (fun t => k - t.1) ⟨0, Nat.zero_le _⟩
    (Wk.tab [] ⟨⟨rfl, rfl⟩, ⟨rfl, rfl⟩, ⟨rfl, rfl⟩, ⟨ivEq ?_, rfl⟩, ⟨rfl, rfl⟩, trivial⟩ trivial rfl) ?_
  · dsimp only
    rw [Nat.sub_zero, Nat.div_eq_of_lt hvl]; rfl
  rintro ⟨t, ht⟩
  show W J _ _ (mkA [(0, .iv (.sl (l.map d64))), (1, .iv (.int .i64 (long : Int))), (2, .iv (.int .i64 (k : Int))), (7, .iv (.int .i64 (hv l / B15 ^ (long - t) : Nat))), (8, .iv (.int .i64 (t : Int)))] [] 30) _
  by_cases h : t < k
  · have hx : hv l / B15 ^ (long - (t + 1)) % B15 = l.reverse.getD (long - (t + 1)) 0 := nv_digit (by decide) _ hd
    have hs := front_step hx
    rw [show long - (t + 1) + 1 = long - t by omega] at hs
    have hx2 : l.reverse.getD (long - (t + 1)) 0 < 32768 := hd.getD (by decide) _
    have hb : hv l / B15 ^ (long - (t + 1)) < B15 ^ 4 := by
      rw [Nat.div_lt_iff_lt_mul (Nat.pow_pos (by decide)), ← Nat.pow_add]
      exact Nat.lt_of_lt_of_le hvl (Nat.pow_le_pow_right (by decide) (by omega))
    have hb4 : B15 ^ 4 = 1152921504606846976 := by decide
    have c1 := f233_ok J (l := l) (i := long - (t + 1)) (by omega) (by omega)
    rw [show ((long - (t + 1) : Nat) : Int) = (long : Int) - 1 - (t : Int) by omega] at c1
    obtain ⟨xx, hxx⟩ : ∃ xx, l.reverse.getD (long - (t + 1)) 0 = xx := ⟨_, rfl⟩
    obtain ⟨v1, hv1⟩ : ∃ xx, hv l / B15 ^ (long - t) = xx := ⟨_, rfl⟩
    obtain ⟨v2, hv2⟩ : ∃ xx, hv l / B15 ^ (long - (t + 1)) = xx := ⟨_, rfl⟩
    rw [hxx] at c1 hs hx2
    rw [hv1, hv2] at hs
    rw [hv2] at hb
    rw [hv1]
    repeat (first | (refine W.RS (by kernel_rfl) ?_; conv => whnf) | (refine W.R (by kernel_rfl) ?_; conv => whnf) | (refine W.S ?_) | (refine W.block ?_) | (refine W.skip ?_; conv => whnf) | (refine W.condT rfl ?_) | (refine ⟨_, c1, ?_⟩; conv => whnf) | (refine ⟨rfl, _, w64 (by omega), ?_⟩; conv => whnf) | (refine ⟨true, decide_eq_true (by omega), ?_⟩; conv => whnf) | (refine ⟨rfl, ?_⟩; conv => whnf))
    exact ⟨⟨t + 1, by omega⟩, Wk.tab [] ⟨⟨rfl, rfl⟩, ⟨rfl, rfl⟩, ⟨rfl, rfl⟩, ⟨ivEq (by rw [hv2]; omega), rfl⟩, ⟨rfl, rfl⟩, trivial⟩ trivial rfl, by dsimp only; omega⟩
  · have e : t = k := by omega
    subst e
    repeat (first | (refine W.RS (by kernel_rfl) ?_; conv => whnf) | (refine W.S ?_) | (refine W.ret ?_; conv => whnf) | (refine W.exit ?_; conv => whnf) | (refine W.condF rfl ?_) | (refine ⟨false, decide_eq_false (by omega), ?_⟩; conv => whnf) | (refine ⟨rfl, ?_⟩; conv => whnf))
    rfl
theorem share_est {R D M : Nat} (hD : 0 < D) (hM : 0 < M) : R / M / (D / M + 1) ≤ R / D := by
  rw [Nat.le_div_iff_mul_le hD]
  have h1 : R / M / (D / M + 1) * (D / M + 1) ≤ R / M := Nat.div_mul_le_self _ _
  have h2 : D ≤ (D / M + 1) * M := Nat.le_of_lt (Nat.lt_mul_of_div_lt (Nat.lt_succ_self _) hM)
  have h3 : R / M / (D / M + 1) * D ≤ R / M / (D / M + 1) * ((D / M + 1) * M) := Nat.mul_le_mul_left _ h2
  rw [← Nat.mul_assoc] at h3
  have h4 : R / M / (D / M + 1) * (D / M + 1) * M ≤ R / M * M := Nat.mul_le_mul_right _ h1
  have h5 : R / M * M ≤ R := Nat.div_mul_le_self _ _
  omega
theorem lh_ge {n : Nat} (h : 0 < n) : B15 ^ (lh n - 1) ≤ n := by
  have := nv_ge (B := B15) (ds := (dh n).reverse) (dh_ok n).nm (by
    intro e
    have : dh n = [] := by simpa using e
    exact absurd (dh_nil this) (by omega))
  rw [List.length_reverse] at this
  have e := dh_hv n
  unfold hv at e
  rw [e] at this
  exact this
end Go.Proofs.Fl
namespace Go.Proofs.Fl
open Go.RowKit Go.Proofs.Dig
attribute [local irreducible] IntKind.wrap PureC MutC MakC IterC
noncomputable def guessN (r d : Nat) : Nat := if lh r < lh d then 0 else if lh d ≤ 3 then r / d else r / B15 ^ (lh d - 3) / (d / B15 ^ (lh d - 3) + 1)
theorem guess_le {r d : Nat} (hd : 0 < d) : guessN r d ≤ r / d := by
  unfold guessN
  split
  · exact Nat.zero_le _
  · split
    · exact Nat.le_refl _
    · exact share_est hd (Nat.pow_pos (by decide))
theorem zhpos {n : Nat} (h : 0 < n) : zh (n : Int) = .agg [.int .i64 1, .sl ((dh n).map d64)] := by
  show IV.agg [.int .i64 ((n : Int).sign), .sl ((dh (n : Int).natAbs).map d64)] = _
  rw [Int.sign_eq_one_of_pos (by omega), Int.natAbs_natCast]
theorem f226_ok (J : Keep) {r d : Nat} (hd : 0 < d) (hr : r < 32768 * d) (hl : lh d < 2 ^ 38) : C J 226 [.sl ((dh r).map d64), .sl ((dh d).map d64)] (.tup [.int .i64 (r / d : Nat), .sl ((dh (r % d)).map d64)]) := by
  refine fn_ok Tryz.func226 rfl rfl rfl ?_
  have la : ((dh r).map d64).length = lh r := by simp [lh]
  have lb : ((dh d).map d64).length = lh d := by simp [lh]
  have hlp := lh_pos hd
  have hlr : lh r ≤ lh d + 1 := lh_le (by
    have h1 := lt_lh d
    rw [Nat.pow_succ]
    have : d * 32768 < B15 ^ lh d * B15 := Nat.mul_lt_mul_of_pos_right h1 (by decide)
    omega)
  have hqd : r / d < 32768 := by rw [Nat.div_lt_iff_lt_mul hd]; exact hr
  have hgl := guess_le (r := r) hd
  have hgd : guessN r d * d ≤ r := Nat.le_trans (Nat.mul_le_mul_right _ hgl) (Nat.div_mul_le_self _ _)
  obtain ⟨g, hg⟩ : ∃ g, g = guessN r d := ⟨_, rfl⟩
  rw [← hg] at hgl hgd
  refine W.RS (by kernel_rfl) ?_
  conv => whnf
  refine W.RS (by kernel_rfl) ?_
  conv => whnf
  refine W.RS (by kernel_rfl) ?_
  conv => whnf
  refine ⟨_, rfl, ?_⟩
  conv => whnf
  refine W.join (G := Unit) (fun _ => mkA [(0, .iv (.sl ((dh r).map d64))), (1, .iv (.sl ((dh d).map d64))), (6, .iv (.int .i64 (g : Nat)))] [] 60) ?_ ?_
  · by_cases h1 : lh d ≤ lh r
    · by_cases h2 : lh d ≤ 3
      · have e : g = r / d := by rw [hg]; unfold guessN; rw [if_neg (by omega), if_pos h2]
        have c1 := f247_ok J (l := dh r) (long := lh d + 1) (k := lh d + 1) (dh_ok r).dg hlr (Nat.le_refl _) (by omega) (by omega)
        have c2 := f247_ok J (l := dh d) (long := lh d) (k := lh d) (dh_ok d).dg (Nat.le_refl _) (Nat.le_refl _) (by omega) (by omega)
        rw [Nat.sub_self, Nat.pow_zero, Nat.div_one, dh_hv] at c1 c2
        have hr64 : r < 1152921504606846976 := by
          have h1 := lt_lh r
          have h2 : B15 ^ lh r ≤ B15 ^ 4 := Nat.pow_le_pow_right (by decide) (by omega)
          have h3 : B15 ^ 4 = 1152921504606846976 := by decide
          omega
        have hq : IntKind.wrap .i64 ((r : Int).tdiv (d : Int)) = (g : Int) := by rw [tdivN, ← e]; exact w64 (by omega)
        rw [← lb] at c1 c2
        repeat (first | (refine W.RS (by kernel_rfl) ?_; conv => whnf) | (refine W.R (by kernel_rfl) ?_; conv => whnf) | (refine W.condT rfl ?_) | (refine ⟨_, c1, ?_⟩; conv => whnf) | (refine ⟨_, c2, ?_⟩; conv => whnf) | (refine ⟨by omega, _, hq, ?_⟩; conv => whnf) | (refine ⟨rfl, _, w64 (by omega), ?_⟩; conv => whnf) | (refine ⟨true, decide_eq_true (by omega), ?_⟩; conv => whnf) | (refine ⟨_, rfl, ?_⟩; conv => whnf) | (refine ⟨rfl, ?_⟩; conv => whnf))
        exact ⟨(), Wk.tab [] ⟨⟨rfl, rfl⟩, ⟨rfl, rfl⟩, ⟨rfl, rfl⟩, trivial⟩ trivial rfl⟩
      · have e : g = r / B15 ^ (lh d - 3) / (d / B15 ^ (lh d - 3) + 1) := by rw [hg]; unfold guessN; rw [if_neg (by omega), if_neg h2]
        have c1 := f247_ok J (l := dh r) (long := lh d + 1) (k := 4) (dh_ok r).dg hlr (by omega) (by omega) (by omega)
        have c2 := f247_ok J (l := dh d) (long := lh d) (k := 3) (dh_ok d).dg (Nat.le_refl _) (by omega) (by omega) (by omega)
        rw [dh_hv] at c1 c2
        rw [show lh d + 1 - 4 = lh d - 3 by omega] at c1
        have hb1 : r / B15 ^ (lh d - 3) < B15 ^ 4 := by
          rw [Nat.div_lt_iff_lt_mul (Nat.pow_pos (by decide)), ← Nat.pow_add]
          exact Nat.lt_of_lt_of_le (lt_lh r) (Nat.pow_le_pow_right (by decide) (by omega))
        have hb2 : d / B15 ^ (lh d - 3) < B15 ^ 3 := by
          rw [Nat.div_lt_iff_lt_mul (Nat.pow_pos (by decide)), ← Nat.pow_add]
          exact Nat.lt_of_lt_of_le (lt_lh d) (Nat.pow_le_pow_right (by decide) (by omega))
        have hb3 : B15 ^ 4 = 1152921504606846976 := by decide
        have hb4 : B15 ^ 3 = 35184372088832 := by decide
        obtain ⟨u, hu⟩ : ∃ u, r / B15 ^ (lh d - 3) = u := ⟨_, rfl⟩
        obtain ⟨v, hv'⟩ : ∃ u, d / B15 ^ (lh d - 3) = u := ⟨_, rfl⟩
        rw [hu] at c1 e hb1
        rw [hv'] at c2 e hb2
        have hq : IntKind.wrap .i64 ((u : Int).tdiv ((v : Int) + 1)) = (g : Int) := by
          rw [show (v : Int) + 1 = ((v + 1 : Nat) : Int) from rfl, tdivN, ← e]; exact w64 (by omega)
        rw [← lb] at c1 c2
        repeat (first | (refine W.RS (by kernel_rfl) ?_; conv => whnf) | (refine W.R (by kernel_rfl) ?_; conv => whnf) | (refine W.condF rfl ?_) | (refine W.condT rfl ?_) | (refine ⟨_, c1, ?_⟩; conv => whnf) | (refine ⟨_, c2, ?_⟩; conv => whnf) | (refine ⟨by omega, _, hq, ?_⟩; conv => whnf) | (refine ⟨rfl, _, w64 (by omega), ?_⟩; conv => whnf) | (refine ⟨true, decide_eq_true (by omega), ?_⟩; conv => whnf) | (refine ⟨false, decide_eq_false (by omega), ?_⟩; conv => whnf) | (refine ⟨_, rfl, ?_⟩; conv => whnf) | (refine ⟨rfl, ?_⟩; conv => whnf))
        exact ⟨(), Wk.tab [] ⟨⟨rfl, rfl⟩, ⟨rfl, rfl⟩, ⟨rfl, rfl⟩, trivial⟩ trivial rfl⟩
    · have e : g = 0 := by rw [hg]; unfold guessN; rw [if_pos (by omega)]
      repeat (first | (refine W.RS (by kernel_rfl) ?_; conv => whnf) | (refine W.skip ?_; conv => whnf) | (refine W.condF rfl ?_) | (refine ⟨false, decide_eq_false (by omega), ?_⟩; conv => whnf) | (refine ⟨_, rfl, ?_⟩; conv => whnf) | (refine ⟨rfl, ?_⟩; conv => whnf))
      exact ⟨(), Wk.tab [] ⟨⟨rfl, rfl⟩, ⟨rfl, rfl⟩, ⟨ivEq (by omega), rfl⟩, trivial⟩ trivial rfl⟩
  rintro ⟨⟩
  try dsimp only
  refine W.join (G := Unit) (fun _ => mkA [(0, .iv (.sl ((dh (r - g * d)).map d64))), (1, .iv (.sl ((dh d).map d64))), (6, .iv (.int .i64 (g : Nat)))] [] 60) ?_ ?_
  · by_cases h0 : g = 0
    · repeat (first | (refine W.RS (by kernel_rfl) ?_; conv => whnf) | (refine W.skip ?_; conv => whnf) | (refine W.condF rfl ?_) | (refine ⟨false, decide_eq_false (by omega), ?_⟩; conv => whnf) | (refine ⟨rfl, ?_⟩; conv => whnf))
      refine ⟨(), Wk.tab [] ⟨⟨?_, rfl⟩, ⟨rfl, rfl⟩, ⟨rfl, rfl⟩, trivial⟩ trivial rfl⟩
      rw [h0, Nat.zero_mul, Nat.sub_zero]; rfl
    · have c1 := f139_ok J (z := (g : Int)) (by omega) (by omega)
      have hlg : lh g ≤ 1 := lh_le (by rw [Nat.pow_one]; simp only [B15]; omega)
      have c2 := f146_ok J (x := (g : Int)) (y := (d : Int)) (by rw [Int.natAbs_natCast]; omega) (by rw [Int.natAbs_natCast]; omega)
      rw [zhpos hd, ← Int.natCast_mul, zhpos (n := g * d) (Nat.mul_pos (by omega) hd)] at c2
      have c3 := f206_sub J hgd (by omega)
      repeat (first | (refine W.RS (by kernel_rfl) ?_; conv => whnf) | (refine W.R (by kernel_rfl) ?_; conv => whnf) | (refine W.condT rfl ?_) | (refine ⟨_, c1, ?_⟩; conv => whnf) | (refine ⟨_, c2, ?_⟩; conv => whnf) | (refine ⟨_, c3, ?_⟩; conv => whnf) | (refine ⟨true, decide_eq_true (by omega), ?_⟩; conv => whnf) | (refine ⟨rfl, ?_⟩; conv => whnf))
      exact ⟨(), Wk.tab [] ⟨⟨rfl, rfl⟩, ⟨rfl, rfl⟩, ⟨rfl, rfl⟩, trivial⟩ trivial rfl⟩
  rintro ⟨⟩
  try dsimp only
  repeat (first | (refine W.S ?_) | (refine W.block ?_))
  refine W.loop (G := { p : Nat × Nat // p.2 * d + p.1 = r ∧ p.2 ≤ r / d }) (fun p => mkA [(0, .iv (.sl ((dh p.1.1).map d64))), (1, .iv (.sl ((dh d).map d64))), (6, .iv (.int .i64 (p.1.2 : Nat)))] [] 60) (fun p => p.1.1) ⟨(r - g * d, g), by dsimp only; omega, hgl⟩
    (Wk.tab [] ⟨⟨rfl, rfl⟩, ⟨rfl, rfl⟩, ⟨rfl, rfl⟩, trivial⟩ trivial rfl) ?_
  rintro ⟨⟨u, q⟩, hu, hq⟩
  dsimp only at hu hq
  show W J _ _ (mkA [(0, .iv (.sl ((dh u).map d64))), (1, .iv (.sl ((dh d).map d64))), (6, .iv (.int .i64 (q : Nat)))] [] 60) _
  have hur : lh u ≤ lh r := lh_mono (by omega)
  by_cases h : d ≤ u
  · have hc : 0 ≤ cmpI (u : Nat) (d : Nat) := by unfold cmpI; split <;> (try split) <;> omega
    have c1 := f206_sub J h (by omega)
    have hq2 : q + 1 ≤ r / d := by
      rw [Nat.le_div_iff_mul_le hd, Nat.add_mul, Nat.one_mul]; omega
    repeat (first | (refine W.RS (by kernel_rfl) ?_; conv => whnf) | (refine W.R (by kernel_rfl) ?_; conv => whnf) | (refine W.S ?_) | (refine W.block ?_) | (refine W.skip ?_; conv => whnf) | (refine W.condT rfl ?_) | (refine ⟨_, f207_dh J (a := u) (b := d) (by omega), ?_⟩; conv => whnf) | (refine ⟨_, c1, ?_⟩; conv => whnf) | (refine ⟨rfl, _, w64 (by omega), ?_⟩; conv => whnf) | (refine ⟨true, decide_eq_true (by omega), ?_⟩; conv => whnf) | (refine ⟨rfl, ?_⟩; conv => whnf))
    exact ⟨⟨(u - d, q + 1), by dsimp only; rw [Nat.add_mul, Nat.one_mul]; omega, hq2⟩, Wk.tab [] ⟨⟨rfl, rfl⟩, ⟨rfl, rfl⟩, ⟨rfl, rfl⟩, trivial⟩ trivial rfl, by dsimp only; omega⟩
  · have hc : cmpI (u : Nat) (d : Nat) < 0 := by unfold cmpI; split <;> (try split) <;> omega
    have e1 : q = r / d := by
      rw [← hu, Nat.mul_comm, Nat.mul_add_div hd, Nat.div_eq_of_lt (by omega), Nat.add_zero]
    have e2 : u = r % d := by
      rw [← hu, Nat.mul_comm, Nat.mul_add_mod, Nat.mod_eq_of_lt (by omega)]
    repeat (first | (refine W.RS (by kernel_rfl) ?_; conv => whnf) | (refine W.S ?_) | (refine W.ret ?_; conv => whnf) | (refine W.exit ?_; conv => whnf) | (refine W.condF rfl ?_) | (refine ⟨_, f207_dh J (a := u) (b := d) (by omega), ?_⟩; conv => whnf) | (refine ⟨false, decide_eq_false (by omega), ?_⟩; conv => whnf) | (refine ⟨rfl, ?_⟩; conv => whnf))
    rw [← e1, ← e2]; rfl
end Go.Proofs.Fl
