/-
  The card of NumSpans is proved: the law's function returns true at every argument of its shape; no condition.
-/
import Derived.Test.YtdheblnjmnlpfaaGreatDoorB10
namespace Go.Proofs.Fl
open Go.RowKit Go.Proofs.Dig
attribute [local irreducible] IntKind.wrap PureC MutC MakC IterC
theorem meet_form (a b c d : Rat) : ∃ p q e f u, (if cmpR (maxL [a, c]) (minL [b, d]) ≤ 0 then IV.tup [sd (maxL [a, c]) (minL [b, d]), .bool true] else .tup [sd 0 0, .bool false]) = .tup [sd p q, .bool u] ∧
    (if cmpR (maxL [a, c]) (minL [b, d]) ≤ 0 then IV.tup [sx (some (maxL [a, c])) (some (minL [b, d])), .bool true] else .tup [sx none none, .bool false]) = .tup [sx e f, .bool u] ∧ p = vx e ∧ q = vx f ∧ (rl a ≤ 52 → rl b ≤ 52 → rl c ≤ 52 → rl d ≤ 52 → rl p ≤ 52 ∧ rl q ≤ 52) := by
  by_cases h : cmpR (maxL [a, c]) (minL [b, d]) ≤ 0
  · rw [if_pos h, if_pos h]
    refine ⟨_, _, some (maxL [a, c]), some (minL [b, d]), true, rfl, rfl, rfl, rfl, fun h1 h2 h3 h4 => ⟨?_, ?_⟩⟩
    · have := rl_max (l := [a, c]) (N := 53) (by intro x hx; simp at hx; rcases hx with rfl | rfl <;> omega) (by decide) (fun c => decide (c > 0))
      show rl (chooseL _ _) ≤ 52
      omega
    · have := rl_max (l := [b, d]) (N := 53) (by intro x hx; simp at hx; rcases hx with rfl | rfl <;> omega) (by decide) (fun c => decide (c < 0))
      show rl (chooseL _ _) ≤ 52
      omega
  · rw [if_neg h, if_neg h]
    exact ⟨0, 0, none, none, false, rfl, rfl, rfl, rfl, fun _ _ _ _ => by have := rl_zero; omega⟩
theorem sign_form (a b : Rat) : ∃ (s : Int) (t : Bool), (if b.num < 0 then IV.tup [.int .i64 (-1), .bool true] else if a.num > 0 then .tup [.int .i64 1, .bool true] else .tup [.int .i64 0, .bool (decide (a.num = 0) && decide (b.num = 0))]) = .tup [.int .i64 s, .bool t] ∧
    ((b.num.sign < 0 ∧ s = -1 ∧ t = true) ∨ (¬ b.num.sign < 0 ∧ a.num.sign > 0 ∧ s = 1 ∧ t = true) ∨ (¬ b.num.sign < 0 ∧ ¬ a.num.sign > 0 ∧ a.num.sign = 0 ∧ b.num.sign = 0 ∧ s = 0 ∧ t = true) ∨ (¬ b.num.sign < 0 ∧ ¬ a.num.sign > 0 ∧ a.num.sign = 0 ∧ b.num.sign ≠ 0 ∧ s = 0 ∧ t = false) ∨ (¬ b.num.sign < 0 ∧ ¬ a.num.sign > 0 ∧ a.num.sign ≠ 0 ∧ s = 0 ∧ t = false)) := by
  have e1 : ∀ n : Int, (n.sign < 0 ↔ n < 0) ∧ (n.sign > 0 ↔ n > 0) ∧ (n.sign = 0 ↔ n = 0) := fun n => by
    rcases Int.lt_trichotomy n 0 with h | h | h
    · rw [Int.sign_eq_neg_one_of_neg h]; omega
    · rw [h]; simp
    · rw [Int.sign_eq_one_of_pos h]; omega
  obtain ⟨a1, a2, a3⟩ := e1 a.num
  obtain ⟨b1, b2, b3⟩ := e1 b.num
  by_cases h1 : b.num < 0
  · rw [if_pos h1]
    exact ⟨-1, true, rfl, .inl ⟨b1.2 h1, rfl, rfl⟩⟩
  · rw [if_neg h1]
    have h1' : ¬ b.num.sign < 0 := fun h => h1 (b1.1 h)
    by_cases h2 : a.num > 0
    · rw [if_pos h2]
      exact ⟨1, true, rfl, .inr (.inl ⟨h1', a2.2 h2, rfl, rfl⟩)⟩
    · rw [if_neg h2]
      have h2' : ¬ a.num.sign > 0 := fun h => h2 (a2.1 h)
      by_cases h3 : a.num = 0
      · rw [decide_eq_true h3, Bool.true_and]
        by_cases h4 : b.num = 0
        · rw [decide_eq_true h4]
          exact ⟨0, true, rfl, .inr (.inr (.inl ⟨h1', h2', a3.2 h3, b3.2 h4, rfl, rfl⟩))⟩
        · rw [decide_eq_false h4]
          exact ⟨0, false, rfl, .inr (.inr (.inr (.inl ⟨h1', h2', a3.2 h3, fun h => h4 (b3.1 h), rfl, rfl⟩)))⟩
      · rw [decide_eq_false h3, Bool.false_and]
        exact ⟨0, false, rfl, .inr (.inr (.inr (.inr ⟨h1', h2', fun h => h3 (a3.1 h), rfl, rfl⟩)))⟩
theorem rl_mulE {a b c d : Rat} (ha : rl a ≤ 52) (hb : rl b ≤ 52) (hc : rl c ≤ 52) (hd : rl d ≤ 52) : ∀ x ∈ mulE a b c d, rl x < 200 := by
  intro x hx
  simp only [mulE, List.mem_cons, List.not_mem_nil, or_false] at hx
  have h1 := rl_mul a c
  have h2 := rl_mul a d
  have h3 := rl_mul b c
  have h4 := rl_mul b d
  rcases hx with rfl | rfl | rfl | rfl <;> omega
theorem rl_two {x y : Rat} {N : Nat} (h0 : 1 < N) (hx : rl x < N) (hy : rl y < N) (b : Int → Bool) : rl (chooseL b [x, y]) < N := rl_max (by intro z hz; simp at hz; rcases hz with rfl | rfl <;> assumption) h0 b
theorem mid_eq (s : Rat) : s * mkRat 1 (gk 1) = s * (((1 : Int) : Rat) / ((2 : Int) : Rat)) := by
  have e : mkRat 1 (gk 1) = ((1 : Int) : Rat) / ((2 : Int) : Rat) := by
    rw [show gk 1 = 2 from rfl, half]; rfl
  rw [e]
theorem hvv (v : Bool) : (!(v == v)) = false := by cases v <;> rfl
theorem hvt (v : Bool) : (v == v) = true := by cases v <;> rfl
set_option maxHeartbeats 16000000 in
theorem f15_ok {J : Keep} (L : LibI J) {x y : Gap6} {w : Num3} (hx : x.ok) (hy : y.ok) (hw : w.ok) {k : Int} : C J 15 [x.iv, y.iv, w.iv, .int .i64 k] (.bool true) := by
  refine fn_ok Tryz.func15 rfl rfl rfl ?_
  have cx := f24_ok J hx
  have cy := f24_ok J hy
  have cw := bothC J hw
  have ra := bothL hx.1
  have rb := bothL hx.2
  have rc := bothL hy.1
  have rd := bothL hy.2
  have rz := bothL hw
  obtain ⟨a, ha⟩ : ∃ a, x.lo.q = a := ⟨_, rfl⟩
  obtain ⟨b, hb⟩ : ∃ b, x.hi.q = b := ⟨_, rfl⟩
  obtain ⟨c, hc⟩ : ∃ c, y.lo.q = c := ⟨_, rfl⟩
  obtain ⟨d, hd⟩ : ∃ d, y.hi.q = d := ⟨_, rfl⟩
  obtain ⟨z, hz⟩ : ∃ d, w.q = d := ⟨_, rfl⟩
  rw [ha, hb] at cx
  rw [hc, hd] at cy
  rw [hz] at cw rz
  rw [ha] at ra
  rw [hb] at rb
  rw [hc] at rc
  rw [hd] at rd
  have qa := qln_rl a
  have qb := qln_rl b
  have qc := qln_rl c
  have qd := qln_rl d
  have qz := qln_rl z
  have aw := f19_ok L
  clear ha hb hc hd hz
  repeat (first | (refine W.join (x := .seq (.region 4 _ _) _) (G := Unit) (fun _ => mkA [(3, .iv (.int .i64 k)), (9, .ptr 0 0), (10, .ptr 1 0), (11, .ptr 2 0), (12, .ptr 3 0), (13, .ptr 4 0), (14, .ptr 5 0)] [(0, .var (sd a b)), (1, .var (sx (some a) (some b))), (2, .var (sd c d)), (3, .var (sx (some c) (some d))), (4, .var (qr z)), (5, .var (rr z))] 60) (W.weak (σ' := mkA [(3, .iv (.int .i64 k)), (9, .ptr 0 0), (10, .ptr 1 0), (11, .ptr 2 0), (12, .ptr 3 0), (13, .ptr 4 0), (14, .ptr 5 0)] [(0, .var (sd a b)), (1, .var (sx (some a) (some b))), (2, .var (sd c d)), (3, .var (sx (some c) (some d))), (4, .var (qr z)), (5, .var (rr z))] 40) (Wk.tab [(0, 9), (1, 10), (2, 18), (3, 19), (4, 27), (5, 28)] ⟨⟨rfl, rfl⟩, ⟨rfl, rfl⟩, ⟨rfl, rfl⟩, ⟨rfl, rfl⟩, ⟨rfl, rfl⟩, ⟨rfl, rfl⟩, ⟨rfl, rfl⟩, trivial⟩ ⟨rfl, rfl, rfl, rfl, rfl, rfl, trivial⟩ rfl) ?_) (fun _ => ?_)) | (refine W.RS (by kernel_rfl) ?_; conv => whnf) | (refine ⟨_, cx, ?_⟩; conv => whnf) | (refine ⟨_, cy, ?_⟩; conv => whnf) | (refine ⟨_, cw, ?_⟩; conv => whnf))
  · have d1 := f90_ok J z
    have d2 := f91_ok (J := J) (a := z)
    have d3 := f44_t L (p := z) (q := z) (by omega) (by omega)
    have d4 := f55_ok (J := J) (a := a) (b := b) (by omega) (by omega)
    have d5 := f26_ok (J := J) (e := some a) (f := some b) (by show rl a < _; omega) (by show rl b < _; omega)
    have d6 := f30_ok (J := J) (a := a) (b := b) (q := z) (by omega) (by omega) (by omega)
    have d7 := f92_ok (J := J) (a := a) (b := b) (g := some z) (by omega) (by omega) (by show rl z < _; omega)
    have d8 := f53_ok (J := J) (a := a) (b := b) (c := c) (d := d) (by omega) (by omega) (by omega) (by omega)
    have d9 := f27_ok J (DOk.rr c) (DOk.rr a) (by omega) (by omega)
    have d10 := f27_ok J (DOk.rr b) (DOk.rr d) (by omega) (by omega)
    have s1 := rl_sub b a
    have s2 := rl_add a b
    have s3 := rl_mul (a + b) (mkRat 1 (gk 1))
    have s4 := rl_fine 1
    have d11 := f93_ok (base J) (a := a) (b := b) (by omega) (by omega)
    have d12 := f28_ok (J := J) (a := a) (b := b) (by omega) (by omega)
    have d13 := f23_t L (p := b - a) (by omega)
    have d14 := f94_ok (base J) (a := a) (b := b) (by omega) (by omega)
    have d15 := f95_ok (J := J) (a := a) (b := b) (by omega) (by omega)
    rw [← mid_eq] at d15
    have d16 := f23_t L (p := (a + b) * mkRat 1 (gk 1)) (by omega)
    change C J 26 [sx (some a) (some b)] (.bool (decide (cmpR a b ≤ 0))) at d5
    change C J 92 [sx (some a) (some b), rr z] (.bool (decide (cmpR a z ≤ 0) && decide (cmpR z b ≤ 0))) at d7
    obtain ⟨B1, hB1⟩ : ∃ B, decide (cmpR a b ≤ 0) = B := ⟨_, rfl⟩
    obtain ⟨B2, hB2⟩ : ∃ B, (decide (cmpR a z ≤ 0) && decide (cmpR z b ≤ 0)) = B := ⟨_, rfl⟩
    obtain ⟨mi, hmi⟩ : ∃ m, (a + b) * mkRat 1 (gk 1) = m := ⟨_, rfl⟩
    obtain ⟨w1, hw1⟩ : ∃ B, cmpR c a = B := ⟨_, rfl⟩
    obtain ⟨w2, hw2⟩ : ∃ B, cmpR b d = B := ⟨_, rfl⟩
    rw [hB1] at d4 d5
    rw [hB2] at d6 d7
    rw [hmi] at d14 d15 d16
    rw [hw1] at d8 d9
    rw [hw2] at d8 d10
    clear hB1 hB2 hmi hw1 hw2 s1 s2 s3 s4 ra rb rc rd rz qa qb qc qd qz cx cy cw
    by_cases h1 : w1 ≤ 0
    · rw [decide_eq_true h1, Bool.true_and] at d8
      by_cases h2 : w2 ≤ 0
      · rw [decide_eq_true h2] at d8
        repeat (first | (refine W.skip ?_; conv => whnf) | (refine W.condF rfl ?_) | (refine ⟨_, hvv _, ?_⟩; conv => whnf) | (refine ⟨_, d1, ?_⟩; conv => whnf) | (refine ⟨_, d2, ?_⟩; conv => whnf) | (refine ⟨_, d3, ?_⟩; conv => whnf) | (refine ⟨_, d4, ?_⟩; conv => whnf) | (refine ⟨_, d5, ?_⟩; conv => whnf) | (refine ⟨_, d6, ?_⟩; conv => whnf) | (refine ⟨_, d7, ?_⟩; conv => whnf) | (refine ⟨_, d8, ?_⟩; conv => whnf) | (refine ⟨_, d9, ?_⟩; conv => whnf) | (refine ⟨_, d10, ?_⟩; conv => whnf) | (refine ⟨_, d11, ?_⟩; conv => whnf) | (refine ⟨_, d12, ?_⟩; conv => whnf) | (refine ⟨_, d13, ?_⟩; conv => whnf) | (refine ⟨_, d14, ?_⟩; conv => whnf) | (refine ⟨_, d15, ?_⟩; conv => whnf) | (refine ⟨_, d16, ?_⟩; conv => whnf) | (refine ⟨true, decide_eq_true (by omega), ?_⟩; conv => whnf) | (refine ⟨_, rfl, ?_⟩; conv => whnf) | (refine ⟨rfl, ?_⟩; conv => whnf) | (refine ⟨_, fun h => absurd h Bool.false_ne_true, fun _ => rfl, ?_⟩; conv => whnf) | (refine ⟨_, fun _ => rfl, fun h => absurd h.symm Bool.false_ne_true, ?_⟩; conv => whnf))
        exact ⟨(), Wk.tab [] ⟨⟨rfl, rfl⟩, ⟨rfl, rfl⟩, ⟨rfl, rfl⟩, ⟨rfl, rfl⟩, ⟨rfl, rfl⟩, ⟨rfl, rfl⟩, ⟨rfl, rfl⟩, trivial⟩ ⟨rfl, rfl, rfl, rfl, rfl, rfl, trivial⟩ rfl⟩
      · rw [decide_eq_false h2] at d8
        repeat (first | (refine W.skip ?_; conv => whnf) | (refine W.condF rfl ?_) | (refine ⟨_, hvv _, ?_⟩; conv => whnf) | (refine ⟨_, d1, ?_⟩; conv => whnf) | (refine ⟨_, d2, ?_⟩; conv => whnf) | (refine ⟨_, d3, ?_⟩; conv => whnf) | (refine ⟨_, d4, ?_⟩; conv => whnf) | (refine ⟨_, d5, ?_⟩; conv => whnf) | (refine ⟨_, d6, ?_⟩; conv => whnf) | (refine ⟨_, d7, ?_⟩; conv => whnf) | (refine ⟨_, d8, ?_⟩; conv => whnf) | (refine ⟨_, d9, ?_⟩; conv => whnf) | (refine ⟨_, d10, ?_⟩; conv => whnf) | (refine ⟨_, d11, ?_⟩; conv => whnf) | (refine ⟨_, d12, ?_⟩; conv => whnf) | (refine ⟨_, d13, ?_⟩; conv => whnf) | (refine ⟨_, d14, ?_⟩; conv => whnf) | (refine ⟨_, d15, ?_⟩; conv => whnf) | (refine ⟨_, d16, ?_⟩; conv => whnf) | (refine ⟨true, decide_eq_true (by omega), ?_⟩; conv => whnf) | (refine ⟨false, decide_eq_false (by omega), ?_⟩; conv => whnf) | (refine ⟨_, rfl, ?_⟩; conv => whnf) | (refine ⟨rfl, ?_⟩; conv => whnf) | (refine ⟨_, fun h => absurd h Bool.false_ne_true, fun _ => rfl, ?_⟩; conv => whnf) | (refine ⟨_, fun _ => rfl, fun h => absurd h.symm Bool.false_ne_true, ?_⟩; conv => whnf))
        exact ⟨(), Wk.tab [] ⟨⟨rfl, rfl⟩, ⟨rfl, rfl⟩, ⟨rfl, rfl⟩, ⟨rfl, rfl⟩, ⟨rfl, rfl⟩, ⟨rfl, rfl⟩, ⟨rfl, rfl⟩, trivial⟩ ⟨rfl, rfl, rfl, rfl, rfl, rfl, trivial⟩ rfl⟩
    · rw [decide_eq_false h1, Bool.false_and] at d8
      repeat (first | (refine W.skip ?_; conv => whnf) | (refine W.condF rfl ?_) | (refine ⟨_, hvv _, ?_⟩; conv => whnf) | (refine ⟨_, d1, ?_⟩; conv => whnf) | (refine ⟨_, d2, ?_⟩; conv => whnf) | (refine ⟨_, d3, ?_⟩; conv => whnf) | (refine ⟨_, d4, ?_⟩; conv => whnf) | (refine ⟨_, d5, ?_⟩; conv => whnf) | (refine ⟨_, d6, ?_⟩; conv => whnf) | (refine ⟨_, d7, ?_⟩; conv => whnf) | (refine ⟨_, d8, ?_⟩; conv => whnf) | (refine ⟨_, d9, ?_⟩; conv => whnf) | (refine ⟨_, d11, ?_⟩; conv => whnf) | (refine ⟨_, d12, ?_⟩; conv => whnf) | (refine ⟨_, d13, ?_⟩; conv => whnf) | (refine ⟨_, d14, ?_⟩; conv => whnf) | (refine ⟨_, d15, ?_⟩; conv => whnf) | (refine ⟨_, d16, ?_⟩; conv => whnf) | (refine ⟨false, decide_eq_false (by omega), ?_⟩; conv => whnf) | (refine ⟨_, rfl, ?_⟩; conv => whnf) | (refine ⟨rfl, ?_⟩; conv => whnf) | (refine ⟨_, fun h => absurd h Bool.false_ne_true, fun _ => rfl, ?_⟩; conv => whnf))
      exact ⟨(), Wk.tab [] ⟨⟨rfl, rfl⟩, ⟨rfl, rfl⟩, ⟨rfl, rfl⟩, ⟨rfl, rfl⟩, ⟨rfl, rfl⟩, ⟨rfl, rfl⟩, ⟨rfl, rfl⟩, trivial⟩ ⟨rfl, rfl, rfl, rfl, rfl, rfl, trivial⟩ rfl⟩
  · show W J _ _ (mkA [(3, .iv (.int .i64 k)), (9, .ptr 0 0), (10, .ptr 1 0), (11, .ptr 2 0), (12, .ptr 3 0), (13, .ptr 4 0), (14, .ptr 5 0)] [(0, .var (sd a b)), (1, .var (sx (some a) (some b))), (2, .var (sd c d)), (3, .var (sx (some c) (some d))), (4, .var (qr z)), (5, .var (rr z))] 60) _
    refine W.join (G := Unit) (fun _ => mkA [(3, .iv (.int .i64 k)), (9, .ptr 0 0), (10, .ptr 1 0), (11, .ptr 2 0), (12, .ptr 3 0)] [(0, .var (sd a b)), (1, .var (sx (some a) (some b))), (2, .var (sd c d)), (3, .var (sx (some c) (some d)))] 80) ?_ (fun _ => ?_)
    · have s1 := rl_add a c
      have s2 := rl_add b d
      have s3 := rl_sub a d
      have s4 := rl_sub b c
      have s5 := rl_list (by decide) (rl_mulE ra rb rc rd) (fun c => decide (c < 0))
      have s6 := rl_list (by decide) (rl_mulE ra rb rc rd) (fun c => decide (c > 0))
      have s7 := rl_mul a z
      have s8 := rl_mul b z
      have s9 := rl_two (x := a * z) (y := b * z) (N := 200) (by decide) (by omega) (by omega) (fun c => decide (c < 0))
      have s10 := rl_two (x := a * z) (y := b * z) (N := 200) (by decide) (by omega) (by omega) (fun c => decide (c > 0))
      have d1 := f96_ok (base J) (a := a) (b := b) (c := c) (d := d) (by omega) (by omega) (by omega) (by omega)
      have d2 := f97_ok (J := J) (a := a) (b := b) (c := c) (d := d) (by omega) (by omega) (by omega) (by omega)
      have d3 := f44_t L (p := a + c) (q := b + d) (by omega) (by omega)
      have d4 := f98_ok (base J) (a := a) (b := b) (c := c) (d := d) (by omega) (by omega) (by omega) (by omega)
      have d5 := f99_ok (J := J) (a := a) (b := b) (c := c) (d := d) (by omega) (by omega) (by omega) (by omega)
      have d6 := f44_t L (p := a - d) (q := b - c) (by omega) (by omega)
      have d7 := f100_ok (base J) (a := a) (b := b) (c := c) (d := d) (by omega) (by omega) (by omega) (by omega)
      have d8 := f101_ok (J := J) (a := a) (b := b) (c := c) (d := d) (by omega) (by omega) (by omega) (by omega)
      have d9 := f44_t L (p := minL (mulE a b c d)) (q := maxL (mulE a b c d)) (by show rl (chooseL _ _) < _; omega) (by show rl (chooseL _ _) < _; omega)
      have d10 := f102_ok J a b
      have d11 := f103_ok (J := J) (a := a) (b := b)
      have d12 := f44_t L (p := -b) (q := -a) (by rw [rl_neg]; omega) (by rw [rl_neg]; omega)
      have d13 := f104_ok (base J) (a := a) (b := b) (c := z) (by omega) (by omega) (by omega)
      have d14 := f105_ok (J := J) (a := a) (b := b) (c := z) (by omega) (by omega) (by omega)
      have d15 := f44_t L (p := minL [a * z, b * z]) (q := maxL [a * z, b * z]) (by show rl (chooseL _ _) < _; omega) (by show rl (chooseL _ _) < _; omega)
      clear s1 s2 s3 s4 s5 s6 s7 s8 s9 s10 ra rb rc rd rz qa qb qc qd qz cx cy cw
      repeat (first | (refine W.RS (by kernel_rfl) ?_; conv => whnf) | (refine W.skip ?_; conv => whnf) | (refine W.condF rfl ?_) | (refine ⟨_, d1, ?_⟩; conv => whnf) | (refine ⟨_, d2, ?_⟩; conv => whnf) | (refine ⟨_, d3, ?_⟩; conv => whnf) | (refine ⟨_, d4, ?_⟩; conv => whnf) | (refine ⟨_, d5, ?_⟩; conv => whnf) | (refine ⟨_, d6, ?_⟩; conv => whnf) | (refine ⟨_, d7, ?_⟩; conv => whnf) | (refine ⟨_, d8, ?_⟩; conv => whnf) | (refine ⟨_, d9, ?_⟩; conv => whnf) | (refine ⟨_, d10, ?_⟩; conv => whnf) | (refine ⟨_, d11, ?_⟩; conv => whnf) | (refine ⟨_, d12, ?_⟩; conv => whnf) | (refine ⟨_, d13, ?_⟩; conv => whnf) | (refine ⟨_, d14, ?_⟩; conv => whnf) | (refine ⟨_, d15, ?_⟩; conv => whnf) | (refine ⟨_, rfl, ?_⟩; conv => whnf) | (refine ⟨rfl, ?_⟩; conv => whnf) | (refine ⟨_, fun h => absurd h Bool.false_ne_true, fun _ => rfl, ?_⟩; conv => whnf))
      exact ⟨(), Wk.tab [] ⟨⟨rfl, rfl⟩, ⟨rfl, rfl⟩, ⟨rfl, rfl⟩, ⟨rfl, rfl⟩, ⟨rfl, rfl⟩, trivial⟩ ⟨rfl, rfl, rfl, rfl, trivial⟩ rfl⟩
    · show W J _ _ (mkA [(3, .iv (.int .i64 k)), (9, .ptr 0 0), (10, .ptr 1 0), (11, .ptr 2 0), (12, .ptr 3 0)] [(0, .var (sd a b)), (1, .var (sx (some a) (some b))), (2, .var (sd c d)), (3, .var (sx (some c) (some d)))] 80) _
      have d1 := f106_ok (J := J) (a := a) (b := b) (c := c) (d := d) (by omega) (by omega) (by omega) (by omega)
      have d2 := f107_ok (J := J) (a := a) (b := b) (c := c) (d := d) (by omega) (by omega) (by omega) (by omega)
      obtain ⟨m1, m2, n1, n2, im, h1, h2, h3, h4, h5⟩ := meet_form a b c d
      rw [h1] at d1
      rw [h2] at d2
      obtain ⟨h6, h7⟩ := h5 ra rb rc rd
      have d3 := f44_e L (a := m1) (b := m2) (e := n1) (f := n2) (by omega) (by omega) (by rw [← h3]; omega) (by rw [← h4]; omega) h3 h4
      have d4 := f108_ok (J := J) (a := a) (b := b)
      obtain ⟨sg, su, h8, h9⟩ := sign_form a b
      rw [h8] at d4
      have d5 : C J 59 [rr a] (.int .i64 a.num.sign) := f59_ok J
      have d6 : C J 59 [rr b] (.int .i64 b.num.sign) := f59_ok J
      have s1 := rl_two (x := a) (y := c) (N := 53) (by decide) (by omega) (by omega) (fun c => decide (c < 0))
      have s2 := rl_two (x := b) (y := d) (N := 53) (by decide) (by omega) (by omega) (fun c => decide (c > 0))
      have d7 := f109_ok (J := J) (a := a) (b := b) (c := c) (d := d) (by omega) (by omega) (by omega) (by omega)
      have d8 := f110_ok (J := J) (a := a) (b := b) (c := c) (d := d) (by omega) (by omega) (by omega) (by omega)
      have d9 := f44_t L (p := minL [a, c]) (q := maxL [b, d]) (by show rl (chooseL _ _) < _; omega) (by show rl (chooseL _ _) < _; omega)
      have d10 := f111_ok (base J) (a := a) (b := b) (by omega) (by omega) k
      have d11 := f112_ok (J := J) (a := a) (b := b) (by omega) (by omega) k
      have s3 := rl_down a k
      have s4 := rl_up b k
      have d12 := f44_t L (p := (((a * (((gk k : Nat) : Int) : Rat)).floor : Rat) * mkRat 1 (gk k))) (q := (-((-(b * (((gk k : Nat) : Int) : Rat))).floor : Rat) * mkRat 1 (gk k))) (by omega) (by omega)
      have d13 := f113_ok L (a := a) (b := b) (by omega) (by omega)
      have d14 := f114_ok (J := J) (a := a) (b := b) (by omega) (by omega)
      obtain ⟨T, hT⟩ : ∃ T, [91] ++ qtext a ++ [32] ++ qtext b ++ [93] = T := ⟨_, rfl⟩
      rw [hT] at d13 d14
      have hTT : (T == T) = true := beq_self_eq_true T
      obtain ⟨sa, hsa⟩ : ∃ T, a.num.sign = T := ⟨_, rfl⟩
      obtain ⟨sb, hsb⟩ : ∃ T, b.num.sign = T := ⟨_, rfl⟩
      rw [hsa] at d5 h9
      rw [hsb] at d6 h9
      clear s1 s2 s3 s4 ra rb rc rd rz qa qb qc qd qz cx cy cw hT hsa hsb h1 h2 h3 h4 h5 h6 h7 h8
      repeat (first | (refine W.join (x := .seq (.region 12 _ _) _) (G := Unit) (fun _ => mkA [(3, .iv (.int .i64 k)), (9, .ptr 0 0), (10, .ptr 1 0), (11, .ptr 2 0), (12, .ptr 3 0), (15, .ptr 4 0), (16, .iv (.bool im)), (17, .ptr 5 0), (18, .iv (.bool im)), (19, .iv (.int .i64 sg)), (20, .iv (.bool su)), (21, .iv (.int .i64 sg)), (22, .iv (.bool su))] [(0, .var (sd a b)), (1, .var (sx (some a) (some b))), (2, .var (sd c d)), (3, .var (sx (some c) (some d))), (4, .var (sd m1 m2)), (5, .var (sx n1 n2))] 140) (W.weak (σ' := mkA [(3, .iv (.int .i64 k)), (9, .ptr 0 0), (10, .ptr 1 0), (11, .ptr 2 0), (12, .ptr 3 0), (15, .ptr 4 0), (16, .iv (.bool im)), (17, .ptr 5 0), (18, .iv (.bool im)), (19, .iv (.int .i64 sg)), (20, .iv (.bool su)), (21, .iv (.int .i64 0)), (22, .iv (.bool false))] [(0, .var (sd a b)), (1, .var (sx (some a) (some b))), (2, .var (sd c d)), (3, .var (sx (some c) (some d))), (4, .var (sd m1 m2)), (5, .var (sx n1 n2))] 120) (Wk.tab [(4, 86), (5, 95)] ⟨⟨rfl, rfl⟩, ⟨rfl, rfl⟩, ⟨rfl, rfl⟩, ⟨rfl, rfl⟩, ⟨rfl, rfl⟩, ⟨rfl, rfl⟩, ⟨rfl, rfl⟩, ⟨rfl, rfl⟩, ⟨rfl, rfl⟩, ⟨rfl, rfl⟩, ⟨rfl, rfl⟩, ⟨rfl, rfl⟩, ⟨rfl, rfl⟩, trivial⟩ ⟨rfl, rfl, rfl, rfl, rfl, rfl, trivial⟩ rfl) ?_) (fun _ => ?_)) | (refine W.RS (by kernel_rfl) ?_; conv => whnf) | (refine ⟨_, d1, ?_⟩; conv => whnf) | (refine ⟨_, d2, ?_⟩; conv => whnf) | (refine ⟨_, d4, ?_⟩; conv => whnf))
      · rcases h9 with ⟨g1, rfl, rfl⟩ | ⟨g1, g2, rfl, rfl⟩ | ⟨g1, g2, g3, g4, rfl, rfl⟩ | ⟨g1, g2, g3, g4, rfl, rfl⟩ | ⟨g1, g2, g3, rfl, rfl⟩
        · repeat (first | (refine W.R (by kernel_rfl) ?_; conv => whnf) | (refine W.condT rfl ?_) | (refine ⟨_, d6, ?_⟩; conv => whnf) | (refine ⟨true, decide_eq_true (by omega), ?_⟩; conv => whnf) | (refine ⟨rfl, ?_⟩; conv => whnf))
          exact ⟨(), Wk.tab [] ⟨⟨rfl, rfl⟩, ⟨rfl, rfl⟩, ⟨rfl, rfl⟩, ⟨rfl, rfl⟩, ⟨rfl, rfl⟩, ⟨rfl, rfl⟩, ⟨rfl, rfl⟩, ⟨rfl, rfl⟩, ⟨rfl, rfl⟩, ⟨rfl, rfl⟩, ⟨rfl, rfl⟩, ⟨rfl, rfl⟩, ⟨rfl, rfl⟩, trivial⟩ ⟨rfl, rfl, rfl, rfl, rfl, rfl, trivial⟩ rfl⟩
        · repeat (first | (refine W.RS (by kernel_rfl) ?_; conv => whnf) | (refine W.R (by kernel_rfl) ?_; conv => whnf) | (refine W.condF rfl ?_) | (refine W.condT rfl ?_) | (refine ⟨_, d5, ?_⟩; conv => whnf) | (refine ⟨_, d6, ?_⟩; conv => whnf) | (refine ⟨true, decide_eq_true (by omega), ?_⟩; conv => whnf) | (refine ⟨false, decide_eq_false (by omega), ?_⟩; conv => whnf) | (refine ⟨rfl, ?_⟩; conv => whnf))
          exact ⟨(), Wk.tab [] ⟨⟨rfl, rfl⟩, ⟨rfl, rfl⟩, ⟨rfl, rfl⟩, ⟨rfl, rfl⟩, ⟨rfl, rfl⟩, ⟨rfl, rfl⟩, ⟨rfl, rfl⟩, ⟨rfl, rfl⟩, ⟨rfl, rfl⟩, ⟨rfl, rfl⟩, ⟨rfl, rfl⟩, ⟨rfl, rfl⟩, ⟨rfl, rfl⟩, trivial⟩ ⟨rfl, rfl, rfl, rfl, rfl, rfl, trivial⟩ rfl⟩
        · repeat (first | (refine W.RS (by kernel_rfl) ?_; conv => whnf) | (refine W.R (by kernel_rfl) ?_; conv => whnf) | (refine W.condF rfl ?_) | (refine W.condT rfl ?_) | (refine ⟨_, d5, ?_⟩; conv => whnf) | (refine ⟨_, d6, ?_⟩; conv => whnf) | (refine ⟨true, decide_eq_true (by omega), ?_⟩; conv => whnf) | (refine ⟨false, decide_eq_false (by omega), ?_⟩; conv => whnf) | (refine ⟨rfl, ?_⟩; conv => whnf) | (refine ⟨_, fun _ => rfl, fun h => absurd h.symm Bool.false_ne_true, ?_⟩; conv => whnf))
          exact ⟨(), Wk.tab [] ⟨⟨rfl, rfl⟩, ⟨rfl, rfl⟩, ⟨rfl, rfl⟩, ⟨rfl, rfl⟩, ⟨rfl, rfl⟩, ⟨rfl, rfl⟩, ⟨rfl, rfl⟩, ⟨rfl, rfl⟩, ⟨rfl, rfl⟩, ⟨rfl, rfl⟩, ⟨rfl, rfl⟩, ⟨rfl, rfl⟩, ⟨rfl, rfl⟩, trivial⟩ ⟨rfl, rfl, rfl, rfl, rfl, rfl, trivial⟩ rfl⟩
        · repeat (first | (refine W.RS (by kernel_rfl) ?_; conv => whnf) | (refine W.skip ?_; conv => whnf) | (refine W.condF rfl ?_) | (refine ⟨_, d5, ?_⟩; conv => whnf) | (refine ⟨_, d6, ?_⟩; conv => whnf) | (refine ⟨true, decide_eq_true (by omega), ?_⟩; conv => whnf) | (refine ⟨false, decide_eq_false (by omega), ?_⟩; conv => whnf) | (refine ⟨rfl, ?_⟩; conv => whnf) | (refine ⟨_, fun _ => rfl, fun h => absurd h.symm Bool.false_ne_true, ?_⟩; conv => whnf))
          exact ⟨(), Wk.tab [] ⟨⟨rfl, rfl⟩, ⟨rfl, rfl⟩, ⟨rfl, rfl⟩, ⟨rfl, rfl⟩, ⟨rfl, rfl⟩, ⟨rfl, rfl⟩, ⟨rfl, rfl⟩, ⟨rfl, rfl⟩, ⟨rfl, rfl⟩, ⟨rfl, rfl⟩, ⟨rfl, rfl⟩, ⟨rfl, rfl⟩, ⟨rfl, rfl⟩, trivial⟩ ⟨rfl, rfl, rfl, rfl, rfl, rfl, trivial⟩ rfl⟩
        · repeat (first | (refine W.RS (by kernel_rfl) ?_; conv => whnf) | (refine W.skip ?_; conv => whnf) | (refine W.condF rfl ?_) | (refine ⟨_, d5, ?_⟩; conv => whnf) | (refine ⟨_, d6, ?_⟩; conv => whnf) | (refine ⟨false, decide_eq_false (by omega), ?_⟩; conv => whnf) | (refine ⟨rfl, ?_⟩; conv => whnf) | (refine ⟨_, fun h => absurd h Bool.false_ne_true, fun _ => rfl, ?_⟩; conv => whnf))
          exact ⟨(), Wk.tab [] ⟨⟨rfl, rfl⟩, ⟨rfl, rfl⟩, ⟨rfl, rfl⟩, ⟨rfl, rfl⟩, ⟨rfl, rfl⟩, ⟨rfl, rfl⟩, ⟨rfl, rfl⟩, ⟨rfl, rfl⟩, ⟨rfl, rfl⟩, ⟨rfl, rfl⟩, ⟨rfl, rfl⟩, ⟨rfl, rfl⟩, ⟨rfl, rfl⟩, trivial⟩ ⟨rfl, rfl, rfl, rfl, rfl, rfl, trivial⟩ rfl⟩
      · show W J _ _ (mkA [(3, .iv (.int .i64 k)), (9, .ptr 0 0), (10, .ptr 1 0), (11, .ptr 2 0), (12, .ptr 3 0), (15, .ptr 4 0), (16, .iv (.bool im)), (17, .ptr 5 0), (18, .iv (.bool im)), (19, .iv (.int .i64 sg)), (20, .iv (.bool su)), (21, .iv (.int .i64 sg)), (22, .iv (.bool su))] [(0, .var (sd a b)), (1, .var (sx (some a) (some b))), (2, .var (sd c d)), (3, .var (sx (some c) (some d))), (4, .var (sd m1 m2)), (5, .var (sx n1 n2))] 140) _
        repeat (first | (refine W.RS (by kernel_rfl) ?_; conv => whnf) | (refine W.ret ?_; conv => whnf) | (refine ⟨_, hvt _, ?_⟩; conv => whnf) | (refine ⟨_, d3, ?_⟩; conv => whnf) | (refine ⟨_, d7, ?_⟩; conv => whnf) | (refine ⟨_, d8, ?_⟩; conv => whnf) | (refine ⟨_, d9, ?_⟩; conv => whnf) | (refine ⟨_, d10, ?_⟩; conv => whnf) | (refine ⟨_, d11, ?_⟩; conv => whnf) | (refine ⟨_, d12, ?_⟩; conv => whnf) | (refine ⟨_, d13, ?_⟩; conv => whnf) | (refine ⟨_, d14, ?_⟩; conv => whnf) | (refine ⟨_, aw, ?_⟩; conv => whnf) | (refine ⟨_, hTT, ?_⟩; conv => whnf) | (refine ⟨true, decide_eq_true (by omega), ?_⟩; conv => whnf) | (refine ⟨rfl, ?_⟩; conv => whnf) | (refine ⟨_, fun _ => rfl, fun h => absurd h.symm Bool.false_ne_true, ?_⟩; conv => whnf))
        rfl
end Go.Proofs.Fl
