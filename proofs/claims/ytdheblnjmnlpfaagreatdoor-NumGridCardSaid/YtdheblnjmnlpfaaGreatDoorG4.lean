/-
  NumGrid answers true for every input (the row's own conditions alone).
-/
import Derived.Test.YtdheblnjmnlpfaaGreatDoorG3
import Derived.Shelf.Strings.SlTrimAscii
namespace Go.Proofs.Fl
open Go.RowKit Go.Proofs.Dig
attribute [local irreducible] IntKind.wrap PureC MutC MakC IterC
theorem ediv_neg' {n d q r : Nat} (hd : 0 < d) (h : n = d * q + r) (hr : r < d) (h0 : r ≠ 0) : (-(n : Int)) / (d : Int) = -(q : Int) - 1 ∧ (-(n : Int)) % (d : Int) = (d : Int) - (r : Int) := by
  refine (Int.ediv_emod_unique (by omega)).2 ⟨?_, by omega, by omega⟩
  rw [h, Int.natCast_add, Int.natCast_mul, Int.mul_sub, Int.mul_neg, Int.mul_one]; omega
theorem ediv_neg0 {n d q : Nat} (hd : 0 < d) (h : n = d * q) : (-(n : Int)) / (d : Int) = -(q : Int) ∧ (-(n : Int)) % (d : Int) = 0 := by
  refine (Int.ediv_emod_unique (by omega)).2 ⟨?_, by omega, by omega⟩
  rw [h, Int.natCast_mul, Int.mul_neg]; omega
theorem tup2 {a b c d : IV} (h : a = c) (h' : b = d) : IV.tup [a, b] = IV.tup [c, d] := by rw [h, h']
theorem lh_div (a d : Nat) : lh (a / d) ≤ lh a := lh_mono (Nat.div_le_self _ _)
theorem f166_ok (J : Keep) {x : Int} {d : Nat} (hd : 0 < d) (hx : lh x.natAbs < 2 ^ 37) (hl : lh d < 2 ^ 37) : C J 166 [zh x, zh (d : Int)] (.tup [zh (x / (d : Int)), zh (x % (d : Int))]) := by
  have c1 := f196_ok J (a := x.natAbs) hd (by omega)
  have l1 := lh_div x.natAbs d
  have hdm := Nat.div_add_mod x.natAbs d
  have hml := Nat.mod_lt x.natAbs hd
  have l2 : lh (x.natAbs % d) ≤ lh d := lh_mono (Nat.le_of_lt hml)
  obtain ⟨q, hq⟩ : ∃ q, x.natAbs / d = q := ⟨_, rfl⟩
  obtain ⟨r, hr⟩ : ∃ q, x.natAbs % d = q := ⟨_, rfl⟩
  rw [hq, hr] at c1 hdm
  rw [hq] at l1
  rw [hr] at hml l2
  have sx := sign3 x
  have ex := Int.sign_mul_natAbs x
  have c3 := f193_dh J (n := r) (s := 1) (.inl rfl) (by omega)
  rw [Int.one_mul] at c3
  refine fn_ok Tryz.func166 rfl rfl rfl ?_
  rcases Int.lt_trichotomy x 0 with h | h | h
  · have hs : x.sign = -1 := Int.sign_eq_neg_one_of_neg h
    have c2 := f193_dh J (n := q) (s := x.sign) (by omega) (by omega)
    have e2 : x.sign * (q : Int) = -(q : Int) := by rw [hs]; omega
    rw [e2] at c2
    have hxn : x = -(x.natAbs : Int) := by omega
    by_cases h0 : r = 0
    · have hsr : (r : Int).sign = 0 := by rw [h0]; rfl
      obtain ⟨f1, f2⟩ := ediv_neg0 (n := x.natAbs) (q := q) hd (by omega)
      rw [← hxn] at f1 f2
      repeat (first | (refine W.RS (by kernel_rfl) ?_; conv => whnf) | (refine W.S ?_) | (refine W.ret ?_; conv => whnf) | (refine W.skip ?_; conv => whnf) | (refine W.condF rfl ?_) | (refine ⟨_, c1, ?_⟩; conv => whnf) | (refine ⟨_, c2, ?_⟩; conv => whnf) | (refine ⟨_, c3, ?_⟩; conv => whnf) | (refine ⟨true, decide_eq_true (by omega), ?_⟩; conv => whnf) | (refine ⟨false, bne_eq_false_iff_eq.2 (by omega), ?_⟩; conv => whnf) | (refine ⟨rfl, ?_⟩; conv => whnf) | (refine ⟨_, fun _ => rfl, fun h => absurd h.symm Bool.false_ne_true, ?_⟩; conv => whnf))
      rw [f1, f2]
      exact tup2 rfl (by rw [h0]; rfl)
    · have hsr : (r : Int).sign = 1 := Int.sign_eq_one_of_pos (by omega)
      obtain ⟨f1, f2⟩ := ediv_neg' (n := x.natAbs) (q := q) (r := r) hd hdm.symm hml h0
      rw [← hxn] at f1 f2
      have c4 := f139_ok J (z := 1) (by omega) (by omega)
      have hl1 : lh 1 ≤ 1 := lh_le (by decide)
      have c5 := f194_ok J (x := -(q : Int)) (y := 1) (by rw [Int.natAbs_neg, Int.natAbs_natCast]; omega) (by show lh 1 < _; omega)
      have c6 := f194_ok J (x := (d : Int)) (y := (r : Int)) (by rw [Int.natAbs_natCast]; omega) (by rw [Int.natAbs_natCast]; omega)
      repeat (first | (refine W.RS (by kernel_rfl) ?_; conv => whnf) | (refine W.S ?_) | (refine W.ret ?_; conv => whnf) | (refine W.condT rfl ?_) | (refine ⟨_, c1, ?_⟩; conv => whnf) | (refine ⟨_, c2, ?_⟩; conv => whnf) | (refine ⟨_, c3, ?_⟩; conv => whnf) | (refine ⟨_, c4, ?_⟩; conv => whnf) | (refine ⟨_, c5, ?_⟩; conv => whnf) | (refine ⟨_, c6, ?_⟩; conv => whnf) | (refine ⟨true, decide_eq_true (by omega), ?_⟩; conv => whnf) | (refine ⟨true, bne_iff_ne.2 (by omega), ?_⟩; conv => whnf) | (refine ⟨rfl, ?_⟩; conv => whnf) | (refine ⟨_, fun _ => rfl, fun h => absurd h.symm Bool.false_ne_true, ?_⟩; conv => whnf))
      rw [f1, f2]
      exact tup2 rfl rfl
  · have c2 := f193_dh J (n := q) (s := x.sign) (.inr (.inr (by rw [← hq, h]; simp))) (by omega)
    have hs : x.sign = 0 := by rw [h]; rfl
    have hq0 : q = 0 := by rw [← hq, h]; simp
    have hr0 : r = 0 := by rw [← hr, h]; simp
    have hsr : (r : Int).sign = 0 := by rw [hr0]; rfl
    repeat (first | (refine W.RS (by kernel_rfl) ?_; conv => whnf) | (refine W.S ?_) | (refine W.ret ?_; conv => whnf) | (refine W.skip ?_; conv => whnf) | (refine W.condF rfl ?_) | (refine ⟨_, c1, ?_⟩; conv => whnf) | (refine ⟨_, c2, ?_⟩; conv => whnf) | (refine ⟨_, c3, ?_⟩; conv => whnf) | (refine ⟨false, decide_eq_false (by omega), ?_⟩; conv => whnf) | (refine ⟨rfl, ?_⟩; conv => whnf) | (refine ⟨_, fun h => absurd h Bool.false_ne_true, fun _ => rfl, ?_⟩; conv => whnf))
    exact tup2 (zhE (by rw [h, hq0]; simp)) (zhE (by rw [h, hr0]; simp))
  · have hs : x.sign = 1 := Int.sign_eq_one_of_pos h
    have c2 := f193_dh J (n := q) (s := x.sign) (by omega) (by omega)
    have hxn : x = (x.natAbs : Int) := by omega
    have f1 : x / (d : Int) = (q : Int) := by rw [hxn, ← hq]; rfl
    have f2 : x % (d : Int) = (r : Int) := by rw [hxn, ← hr]; rfl
    repeat (first | (refine W.RS (by kernel_rfl) ?_; conv => whnf) | (refine W.S ?_) | (refine W.ret ?_; conv => whnf) | (refine W.skip ?_; conv => whnf) | (refine W.condF rfl ?_) | (refine ⟨_, c1, ?_⟩; conv => whnf) | (refine ⟨_, c2, ?_⟩; conv => whnf) | (refine ⟨_, c3, ?_⟩; conv => whnf) | (refine ⟨false, decide_eq_false (by omega), ?_⟩; conv => whnf) | (refine ⟨rfl, ?_⟩; conv => whnf) | (refine ⟨_, fun h => absurd h Bool.false_ne_true, fun _ => rfl, ?_⟩; conv => whnf))
    exact tup2 (zhE (by rw [f1, hs, Int.one_mul])) (zhE f2.symm)
theorem f145_ok (J : Keep) {l : List Nat} (hd : Dg B15 l.reverse) (hl : l.length ≤ 4) : C J 145 [.sl (l.map d64)] (.int .i64 (hv l : Nat)) := by
  refine fn_ok Tryz.func145 rfl rfl rfl ?_
  have la : (l.map d64).length = l.length := by simp
  have hdt : ∀ i, Dg B15 (l.take i).reverse := fun i => by
    intro x hx
    exact hd x (by simp only [List.mem_reverse] at hx ⊢; exact List.mem_of_mem_take hx)
  repeat (first | (refine W.RS (by kernel_rfl) ?_; conv => whnf) | (refine W.S ?_) | (refine W.block ?_))
  refine W.loop (G := { i : Nat // i ≤ l.length }) (fun i => mkA [(0, .iv (.sl (l.map d64))), (3, .iv (.int .i64 (hv (l.take i.1) : Nat))), (4, .iv (.int .i64 (i.1 : Nat)))] [] 20) (fun i => l.length - i.1) ⟨0, Nat.zero_le _⟩
    (Wk.tab [] ⟨⟨rfl, rfl⟩, ⟨rfl, rfl⟩, ⟨rfl, rfl⟩, trivial⟩ trivial rfl) ?_
  rintro ⟨i, hi⟩
  show W J _ _ (mkA [(0, .iv (.sl (l.map d64))), (3, .iv (.int .i64 (hv (l.take i) : Nat))), (4, .iv (.int .i64 (i : Nat)))] [] 20) _
  by_cases h : i < l.length
  · have htk := take_hv h
    have hb := hv_lt (l.take (i + 1)) (hdt _)
    have hb2 : B15 ^ (l.take (i + 1)).length ≤ B15 ^ 4 := Nat.pow_le_pow_right (by decide) (by rw [List.length_take]; omega)
    have hb3 : B15 ^ 4 = 1152921504606846976 := by decide
    repeat (first | (refine W.RS (by kernel_rfl) ?_; conv => whnf) | (refine W.R (by kernel_rfl) ?_; conv => whnf) | (refine W.S ?_) | (refine W.block ?_) | (refine W.skip ?_; conv => whnf) | (refine W.condT rfl ?_) | (refine ⟨i, _, rfl, getd h, rfl, ?_⟩; conv => whnf) | (refine ⟨rfl, _, w64 (by omega), ?_⟩; conv => whnf) | (refine ⟨true, decide_eq_true (by omega), ?_⟩; conv => whnf) | (refine ⟨_, rfl, ?_⟩; conv => whnf) | (refine ⟨rfl, ?_⟩; conv => whnf))
    exact ⟨⟨i + 1, by omega⟩, Wk.tab [] ⟨⟨rfl, rfl⟩, ⟨ivEq (by dsimp only; omega), rfl⟩, ⟨rfl, rfl⟩, trivial⟩ trivial rfl, by dsimp only; omega⟩
  · have e : i = l.length := by omega
    subst e
    repeat (first | (refine W.RS (by kernel_rfl) ?_; conv => whnf) | (refine W.S ?_) | (refine W.ret ?_; conv => whnf) | (refine W.exit ?_; conv => whnf) | (refine W.condF rfl ?_) | (refine ⟨false, decide_eq_false (by omega), ?_⟩; conv => whnf) | (refine ⟨_, rfl, ?_⟩; conv => whnf) | (refine ⟨rfl, ?_⟩; conv => whnf))
    rw [List.take_length]; rfl
theorem f145_dh (J : Keep) {n : Nat} (h : lh n ≤ 4) : C J 145 [.sl ((dh n).map d64)] (.int .i64 (n : Nat)) := by
  have := f145_ok J (l := dh n) (dh_ok n).dg h
  rwa [dh_hv] at this
theorem lh_four {n : Nat} (h : lh n ≤ 4) : n < 1152921504606846976 := by
  have h1 := lt_lh n
  have h2 : B15 ^ lh n ≤ B15 ^ 4 := Nat.pow_le_pow_right (by decide) h
  have h3 : B15 ^ 4 = 1152921504606846976 := by decide
  omega
theorem f195_ok (J : Keep) {x y : Int} (hx : lh x.natAbs < 2 ^ 37) (hy : lh y.natAbs < 2 ^ 37) : C J 195 [zh x, zh y] (zh (Nat.gcd x.natAbs y.natAbs : Nat)) := by
  refine fn_ok Tryz.func195 rfl rfl rfl ?_
  repeat (first | (refine W.RS (by kernel_rfl) ?_; conv => whnf) | (refine W.S ?_) | (refine W.block ?_) | (refine ⟨rfl, ?_⟩; conv => whnf))
  refine W.loop (G := { p : Nat × Nat // Nat.gcd p.1 p.2 = Nat.gcd x.natAbs y.natAbs ∧ lh p.1 < 2 ^ 37 ∧ lh p.2 < 2 ^ 37 }) (fun p => mkA [(4, .ptr 2 0), (5, .iv (.sl ((dh p.1.1).map d64))), (6, .iv (.sl ((dh p.1.2).map d64)))] [(2, .var (.agg [.int .i64 0, .sl []]))] 20) (fun p => p.1.2)
    ⟨(x.natAbs, y.natAbs), rfl, hx, hy⟩ (Wk.tab [] ⟨⟨rfl, rfl⟩, ⟨rfl, rfl⟩, ⟨rfl, rfl⟩, trivial⟩ ⟨rfl, trivial⟩ rfl) ?_
  rintro ⟨⟨u, v⟩, hg, hu, hv'⟩
  dsimp only at hg hu hv'
  show W J _ _ (mkA [(4, .ptr 2 0), (5, .iv (.sl ((dh u).map d64))), (6, .iv (.sl ((dh v).map d64)))] [(2, .var (.agg [.int .i64 0, .sl []]))] 20) _
  have lu : ((dh u).map d64).length = lh u := by simp [lh]
  have lv : ((dh v).map d64).length = lh v := by simp [lh]
  by_cases h0 : v = 0
  · have hl0 : lh v = 0 := by rw [h0]; unfold lh; rw [dh_zero]; rfl
    have c1 := f193_dh J (n := u) (s := 1) (.inl rfl) (by omega)
    rw [Int.one_mul] at c1
    repeat (first | (refine W.RS (by kernel_rfl) ?_; conv => whnf) | (refine W.S ?_) | (refine W.ret ?_; conv => whnf) | (refine W.exit ?_; conv => whnf) | (refine W.condF rfl ?_) | (refine ⟨_, c1, ?_⟩; conv => whnf) | (refine ⟨false, decide_eq_false (by omega), ?_⟩; conv => whnf) | (refine ⟨_, rfl, ?_⟩; conv => whnf) | (refine ⟨rfl, ?_⟩; conv => whnf))
    rw [← hg, h0, Nat.gcd_zero_right]; rfl
  · have hlp := lh_pos (n := v) (by omega)
    have hym : u % v < v := Nat.mod_lt _ (by omega)
    have hgn : Nat.gcd v (u % v) = Nat.gcd x.natAbs y.natAbs := by rw [← hg, Nat.gcd_comm u v, Nat.gcd_rec v u, Nat.gcd_comm]
    have hlm : lh (u % v) < 2 ^ 37 := Nat.lt_of_le_of_lt (lh_mono (Nat.le_of_lt hym)) hv'
    have hbig := f196_ok J (a := u) (d := v) (by omega) (by omega)
    by_cases h1 : lh u ≤ 4
    · by_cases h2 : lh v ≤ 4
      · have b1 := lh_four h1
        have b2 := lh_four h2
        repeat (first | (refine W.RS (by kernel_rfl) ?_; conv => whnf) | (refine W.S ?_) | (refine W.block ?_) | (refine W.skip ?_; conv => whnf) | (refine W.condT rfl ?_) | (refine ⟨_, f145_dh J h1, ?_⟩; conv => whnf) | (refine ⟨_, f145_dh J h2, ?_⟩; conv => whnf) | (refine ⟨true, decide_eq_true (by omega), ?_⟩; conv => whnf) | (refine ⟨_, rfl, ?_⟩; conv => whnf) | (refine ⟨rfl, ?_⟩; conv => whnf) | (refine ⟨_, fun _ => rfl, fun h => absurd h.symm Bool.false_ne_true, ?_⟩; conv => whnf))
        refine W.loop (G := { p : Nat × Nat // Nat.gcd p.1 p.2 = Nat.gcd x.natAbs y.natAbs ∧ p.1 < 1152921504606846976 ∧ p.2 < 1152921504606846976 }) (fun p => mkA [(4, .ptr 2 0), (7, .iv (.int .i64 (p.1.1 : Nat))), (8, .iv (.int .i64 (p.1.2 : Nat)))] [(2, .var (.agg [.int .i64 0, .sl []]))] 20) (fun p => p.1.2)
          ⟨(u, v), hg, b1, b2⟩ (Wk.tab [] ⟨⟨rfl, rfl⟩, ⟨rfl, rfl⟩, ⟨rfl, rfl⟩, trivial⟩ ⟨rfl, trivial⟩ rfl) ?_
        rintro ⟨⟨n, m⟩, hg2, hn, hm⟩
        dsimp only at hg2 hn hm
        show W J _ _ (mkA [(4, .ptr 2 0), (7, .iv (.int .i64 (n : Nat))), (8, .iv (.int .i64 (m : Nat)))] [(2, .var (.agg [.int .i64 0, .sl []]))] 20) _
        by_cases h3 : m = 0
        · subst h3
          repeat (first | (refine W.RS (by kernel_rfl) ?_; conv => whnf) | (refine W.S ?_) | (refine W.ret ?_; conv => whnf) | (refine W.exit ?_; conv => whnf) | (refine W.condF rfl ?_) | (refine ⟨_, f139_ok J (z := (n : Int)) (by omega) (by omega), ?_⟩; conv => whnf) | (refine ⟨false, bne_eq_false_iff_eq.2 (by omega), ?_⟩; conv => whnf) | (refine ⟨rfl, ?_⟩; conv => whnf))
          rw [← hg2, Nat.gcd_zero_right]; rfl
        · have hvm : n % m < m := Nat.mod_lt _ (by omega)
          have hm2 := tmodN n m
          obtain ⟨r, hr⟩ : ∃ r, n % m = r := ⟨_, rfl⟩
          rw [hr] at hm2 hvm
          repeat (first | (refine W.RS (by kernel_rfl) ?_; conv => whnf) | (refine W.R (by kernel_rfl) ?_; conv => whnf) | (refine W.S ?_) | (refine W.block ?_) | (refine W.skip ?_; conv => whnf) | (refine W.condT rfl ?_) | (refine ⟨by omega, _, hm2, ?_⟩; conv => whnf) | (refine ⟨true, bne_iff_ne.2 (by omega), ?_⟩; conv => whnf) | (refine ⟨rfl, ?_⟩; conv => whnf))
          exact ⟨⟨(m, r), by rw [← hg2, ← hr, Nat.gcd_comm n m, Nat.gcd_rec m n, Nat.gcd_comm], hm, by dsimp only; omega⟩, Wk.tab [] ⟨⟨rfl, rfl⟩, ⟨rfl, rfl⟩, ⟨rfl, rfl⟩, trivial⟩ ⟨rfl, trivial⟩ rfl, hvm⟩
      · repeat (first | (refine W.RS (by kernel_rfl) ?_; conv => whnf) | (refine W.R (by kernel_rfl) ?_; conv => whnf) | (refine W.S ?_) | (refine W.block ?_) | (refine W.skip ?_; conv => whnf) | (refine W.condF rfl ?_) | (refine W.condT rfl ?_) | (refine ⟨_, hbig, ?_⟩; conv => whnf) | (refine ⟨true, decide_eq_true (by omega), ?_⟩; conv => whnf) | (refine ⟨false, decide_eq_false (by omega), ?_⟩; conv => whnf) | (refine ⟨_, rfl, ?_⟩; conv => whnf) | (refine ⟨rfl, ?_⟩; conv => whnf) | (refine ⟨_, fun _ => rfl, fun h => absurd h.symm Bool.false_ne_true, ?_⟩; conv => whnf))
        exact ⟨⟨(v, u % v), hgn, hv', hlm⟩, Wk.tab [] ⟨⟨rfl, rfl⟩, ⟨rfl, rfl⟩, ⟨rfl, rfl⟩, trivial⟩ ⟨rfl, trivial⟩ rfl, hym⟩
    · repeat (first | (refine W.RS (by kernel_rfl) ?_; conv => whnf) | (refine W.R (by kernel_rfl) ?_; conv => whnf) | (refine W.S ?_) | (refine W.block ?_) | (refine W.skip ?_; conv => whnf) | (refine W.condF rfl ?_) | (refine W.condT rfl ?_) | (refine ⟨_, hbig, ?_⟩; conv => whnf) | (refine ⟨true, decide_eq_true (by omega), ?_⟩; conv => whnf) | (refine ⟨false, decide_eq_false (by omega), ?_⟩; conv => whnf) | (refine ⟨_, rfl, ?_⟩; conv => whnf) | (refine ⟨rfl, ?_⟩; conv => whnf) | (refine ⟨_, fun h => absurd h Bool.false_ne_true, fun _ => rfl, ?_⟩; conv => whnf))
      exact ⟨⟨(v, u % v), hgn, hv', hlm⟩, Wk.tab [] ⟨⟨rfl, rfl⟩, ⟨rfl, rfl⟩, ⟨rfl, rfl⟩, trivial⟩ ⟨rfl, trivial⟩ rfl, hym⟩
end Go.Proofs.Fl
namespace Go.Proofs.Dig
def dig8 (k : Nat) : UInt8 := UInt8.ofNat (48 + k)
theorem dig8_toNat {k : Nat} (h : k < 10) : (dig8 k).toNat = 48 + k := by
  unfold dig8; rw [UInt8.toNat_ofNat']; omega
theorem dig8_inj {j k : Nat} (hj : j < 10) (hk : k < 10) (h : dig8 j = dig8 k) : j = k := by
  have := congrArg UInt8.toNat h
  rw [dig8_toNat hj, dig8_toNat hk] at this; omega
def padW : Nat → Nat → List UInt8
  | 0, _ => []
  | w + 1, n => padW w (n / 10) ++ [dig8 (n % 10)]
theorem padW_length : ∀ w n, (padW w n).length = w
  | 0, _ => rfl
  | w + 1, n => by simp [padW, padW_length w]
theorem padW_zero : ∀ w, padW w 0 = List.replicate w 48
  | 0 => rfl
  | w + 1 => by rw [padW, Nat.zero_div, padW_zero w, List.replicate_succ']; rfl
theorem padW_split : ∀ b a n, padW (a + b) n = padW a (n / 10 ^ b) ++ padW b n
  | 0, a, n => by simp [padW]
  | b + 1, a, n => by
    show padW (a + b) (n / 10) ++ [dig8 (n % 10)] = padW a (n / 10 ^ (b + 1)) ++ (padW b (n / 10) ++ [dig8 (n % 10)])
    rw [padW_split b a (n / 10), Nat.div_div_eq_div_mul, Nat.pow_succ, Nat.mul_comm 10, List.append_assoc]
theorem padW_mod : ∀ w n, padW w (n % 10 ^ w) = padW w n
  | 0, _ => rfl
  | w + 1, n => by
    show padW w (n % 10 ^ (w + 1) / 10) ++ [dig8 (n % 10 ^ (w + 1) % 10)] = padW w (n / 10) ++ [dig8 (n % 10)]
    have e1 : n % 10 ^ (w + 1) / 10 = (n / 10) % 10 ^ w := by
      rw [Nat.pow_succ, Nat.mul_comm, Nat.mod_mul_right_div_self]
    have e2 : n % 10 ^ (w + 1) % 10 = n % 10 := by
      rw [Nat.pow_succ]; exact Nat.mod_mul_left_mod _ _ _
    rw [e1, e2, padW_mod w]
def decN (n : Nat) : List UInt8 := if n < 10 then [dig8 n] else decN (n / 10) ++ [dig8 (n % 10)]
theorem decN_small {n : Nat} (h : n < 10) : decN n = [dig8 n] := by rw [decN, if_pos h]
theorem decN_big {n : Nat} (h : 10 ≤ n) : decN n = decN (n / 10) ++ [dig8 (n % 10)] := by rw [decN, if_neg (by omega)]
theorem decN_ne (n : Nat) : decN n ≠ [] := by
  rw [decN]; split <;> simp
theorem decN_digits (n : Nat) : ∀ c ∈ decN n, 48 ≤ c.toNat ∧ c.toNat ≤ 57 := by
  induction n using Nat.strongRecOn with
  | _ n ih =>
    intro c hc
    by_cases h : n < 10
    · rw [decN_small h] at hc
      simp at hc; subst hc
      rw [dig8_toNat h]; omega
    · rw [decN_big (by omega)] at hc
      rcases List.mem_append.1 hc with hc | hc
      · exact ih (n / 10) (by omega) c hc
      · simp at hc; subst hc
        rw [dig8_toNat (by omega)]; omega
theorem padW_dec : ∀ w n, 0 < n → n < 10 ^ w → (padW w n).dropWhile (· == 48) = decN n
  | 0, n, h, h' => by simp at h'; omega
  | w + 1, n, h, h' => by
    have hd : ∀ (l : List UInt8) (x : UInt8), l.dropWhile (· == 48) ≠ [] → (l ++ [x]).dropWhile (· == 48) = l.dropWhile (· == 48) ++ [x] := by
      intro l x hl
      induction l with
      | nil => exact absurd rfl hl
      | cons y l ih =>
        rw [List.cons_append, List.dropWhile_cons, List.dropWhile_cons]
        rw [List.dropWhile_cons] at hl
        split
        · rename_i hy; rw [if_pos hy] at hl; exact ih hl
        · rfl
    by_cases hs : n < 10
    · have e : n / 10 = 0 := by omega
      have em : n % 10 = n := by omega
      rw [decN_small hs, padW, e, em, padW_zero]
      have hz : ∀ w, (List.replicate w (48 : UInt8) ++ [dig8 n]).dropWhile (· == 48) = [dig8 n] := by
        intro w
        induction w with
        | zero =>
          have : (dig8 n == 48) = false := by
            rw [beq_eq_false_iff_ne]
            intro e
            have := dig8_inj hs (show 0 < 10 by omega) e
            omega
          simp [this]
        | succ w ih => rw [List.replicate_succ, List.cons_append, List.dropWhile_cons_of_pos rfl]; exact ih
      exact hz w
    · have ih := padW_dec w (n / 10) (by omega) (by rw [Nat.pow_succ] at h'; omega)
      rw [decN_big (by omega), padW, hd _ _ (by rw [ih]; exact decN_ne _), ih]
theorem decN_split {q r : Nat} (b : Nat) (hq : 0 < q) (hr : r < 10 ^ b) : decN (q * 10 ^ b + r) = decN q ++ padW b r := by
  induction b generalizing r with
  | zero => simp at hr; subst hr; simp [padW]
  | succ b ih =>
    have h1 : 10 ≤ q * 10 ^ (b + 1) + r := by
      have : 1 * 10 ^ (b + 1) ≤ q * 10 ^ (b + 1) := Nat.mul_le_mul_right _ hq
      have h2 : 10 ≤ 10 ^ (b + 1) := by
        have : 10 ^ 1 ≤ 10 ^ (b + 1) := Nat.pow_le_pow_right (by decide) (by omega)
        omega
      omega
    have e1 : (q * 10 ^ (b + 1) + r) / 10 = q * 10 ^ b + r / 10 := by
      rw [Nat.pow_succ, ← Nat.mul_assoc]; omega
    have e2 : (q * 10 ^ (b + 1) + r) % 10 = r % 10 := by
      rw [Nat.pow_succ, ← Nat.mul_assoc]; omega
    rw [decN_big h1, e1, e2, ih (by rw [Nat.pow_succ] at hr; omega), padW, List.append_assoc]
def dv (s : List UInt8) : Nat := s.foldl (fun a c => a * 10 + (c.toNat - 48)) 0
theorem dv_snoc (s : List UInt8) (c : UInt8) : dv (s ++ [c]) = dv s * 10 + (c.toNat - 48) := by simp [dv]
theorem dv_decN (n : Nat) : dv (decN n) = n := by
  induction n using Nat.strongRecOn with
  | _ n ih =>
    by_cases h : n < 10
    · rw [decN_small h]
      show 0 * 10 + ((dig8 n).toNat - 48) = n
      rw [dig8_toNat h]; omega
    · rw [decN_big (by omega), dv_snoc, ih (n / 10) (by omega), dig8_toNat (by omega)]; omega
theorem decN_inj {n m : Nat} (h : decN n = decN m) : n = m := by rw [← dv_decN n, ← dv_decN m, h]
theorem dv_lt {s : List UInt8} (h : ∀ c ∈ s, 48 ≤ c.toNat ∧ c.toNat ≤ 57) : dv s < 10 ^ s.length := by
  induction hn : s.length generalizing s with
  | zero => have := List.eq_nil_of_length_eq_zero hn; subst this; simp [dv]
  | succ n ih =>
    have hne : s ≠ [] := fun e => by rw [e] at hn; cases hn
    obtain ⟨a, c, rfl⟩ : ∃ b d, s = b ++ [d] := ⟨s.dropLast, s.getLast hne, (List.dropLast_concat_getLast hne).symm⟩
    have h1 := ih (s := a) (fun d hd => h d (by simp [hd])) (by simpa using hn)
    have h2 := h c (by simp)
    rw [dv_snoc, Nat.pow_succ]; omega
end Go.Proofs.Dig
namespace Go.Proofs.Fl
open Go.RowKit Go.Proofs.Dig
attribute [local irreducible] IntKind.wrap PureC MutC MakC IterC
theorem varZ {x y : Int} (h : x = y) : some (Bx.var (zh x)) = some (Bx.var (zh y)) := by rw [h]
theorem lh_one : lh 1 ≤ 1 := lh_le (by decide)
theorem lh_pow (a k : Nat) : lh (a ^ k) ≤ k * lh a + 1 := by
  induction k with
  | zero => rw [Nat.pow_zero]; have := lh_one; omega
  | succ k ih =>
    rw [Nat.pow_succ]
    have := lh_mul (a ^ k) a
    rw [Nat.add_mul]; omega
theorem f165_ok (J : Keep) {x : Int} {n : Nat} (hn : n < 2 ^ 20) (hx : (n + 1) * lh x.natAbs < 2 ^ 39) : C J 165 [zh x, .int .i64 n] (zh (x ^ n)) := by
  refine fn_ok Tryz.func165 rfl rfl rfl ?_
  repeat (first | (refine W.RS (by kernel_rfl) ?_; conv => whnf) | (refine W.S ?_) | (refine W.block ?_) | (refine ⟨_, f139_ok J (z := 1) (by omega) (by omega), ?_⟩; conv => whnf))
  refine W.loop (G := { k : Nat // k ≤ n }) (fun k => mkA [(1, .iv (.int .i64 (n : Nat))), (2, .ptr 0 0), (4, .ptr 1 0), (5, .ptr 2 0), (6, .iv (.int .i64 (k.1 : Nat)))] [(0, .var (zh x)), (1, .var (.agg [.int .i64 0, .sl []])), (2, .var (zh (x ^ k.1)))] 20) (fun k => n - k.1) ⟨0, Nat.zero_le _⟩
    (Wk.tab [(2, 3)] ⟨⟨rfl, rfl⟩, ⟨rfl, rfl⟩, ⟨rfl, rfl⟩, ⟨rfl, rfl⟩, ⟨rfl, rfl⟩, trivial⟩ ⟨rfl, rfl, varZ (by simp), trivial⟩ rfl) ?_
  rintro ⟨k, hk⟩
  show W J _ _ (mkA [(1, .iv (.int .i64 (n : Nat))), (2, .ptr 0 0), (4, .ptr 1 0), (5, .ptr 2 0), (6, .iv (.int .i64 (k : Nat)))] [(0, .var (zh x)), (1, .var (.agg [.int .i64 0, .sl []])), (2, .var (zh (x ^ k)))] 20) _
  by_cases h : k < n
  · have l1 := lh_pow x.natAbs k
    have l2 : k * lh x.natAbs ≤ (n + 1) * lh x.natAbs := Nat.mul_le_mul_right _ (by omega)
    have l3 : 1 * lh x.natAbs ≤ (n + 1) * lh x.natAbs := Nat.mul_le_mul_right _ (by omega)
    have c1 := f146_ok J (x := x ^ k) (y := x) (by rw [Int.natAbs_pow]; omega) (by omega)
    rw [← Int.pow_succ] at c1
    repeat (first | (refine W.RS (by kernel_rfl) ?_; conv => whnf) | (refine W.R (by kernel_rfl) ?_; conv => whnf) | (refine W.S ?_) | (refine W.block ?_) | (refine W.skip ?_; conv => whnf) | (refine W.condT rfl ?_) | (refine ⟨_, c1, ?_⟩; conv => whnf) | (refine ⟨rfl, _, w64 (by omega), ?_⟩; conv => whnf) | (refine ⟨true, decide_eq_true (by omega), ?_⟩; conv => whnf) | (refine ⟨rfl, ?_⟩; conv => whnf))
    exact ⟨⟨k + 1, by omega⟩, Wk.tab [] ⟨⟨rfl, rfl⟩, ⟨rfl, rfl⟩, ⟨rfl, rfl⟩, ⟨rfl, rfl⟩, ⟨rfl, rfl⟩, trivial⟩ ⟨rfl, rfl, rfl, trivial⟩ rfl, by dsimp only; omega⟩
  · have e : k = n := by omega
    subst e
    repeat (first | (refine W.RS (by kernel_rfl) ?_; conv => whnf) | (refine W.S ?_) | (refine W.ret ?_; conv => whnf) | (refine W.exit ?_; conv => whnf) | (refine W.condF rfl ?_) | (refine ⟨false, decide_eq_false (by omega), ?_⟩; conv => whnf) | (refine ⟨rfl, ?_⟩; conv => whnf))
    rfl
end Go.Proofs.Fl
namespace Go.Proofs.Fl
open Go.RowKit Go.Proofs.Dig
attribute [local irreducible] IntKind.wrap PureC MutC MakC IterC
def ztext (z : Int) : List UInt8 := (if z < 0 then [45] else []) ++ decN z.natAbs
theorem dh_10000 : (dh 10000).map d64 = [.int .i64 10000] := by
  rw [← dh_of (l := [10000]) (n := 10000) ⟨by intro d hd; simp at hd; subst hd; decide, by intro d hd; simp at hd; omega⟩ rfl]
  rfl
theorem digs_at {k : Nat} (h : k < 10) : (List.take (k + 1) [48, 49, 50, 51, 52, 53, 54, 55, 56, 57]).drop k = [dig8 k] := by
  have : ∀ k : Fin 10, (List.take (k.1 + 1) [48, 49, 50, 51, 52, 53, 54, 55, 56, 57]).drop k.1 = [dig8 k.1] := by decide
  exact this ⟨k, h⟩
theorem strE {a b : List UInt8} (h : a = b) : SV.iv (.str a) = SV.iv (.str b) := by rw [h]
theorem zt_steps {N t : Nat} (h : 0 < N / 10 ^ (4 * t)) : t ≤ 2 * lh N := by
  have h1 : 10 ^ (4 * t) ≤ N := by
    apply Classical.byContradiction
    intro hc
    rw [Nat.div_eq_of_lt (by omega)] at h
    omega
  have h2 := lt_lh N
  have h3 : B15 ^ lh N ≤ 10 ^ (8 * lh N) := by
    rw [Nat.pow_mul]; exact Nat.pow_le_pow_left (by decide) _
  apply Classical.byContradiction
  intro hc
  have h4 : 10 ^ (8 * lh N) ≤ 10 ^ (4 * t) := Nat.pow_le_pow_right (by decide) (by omega)
  omega
set_option maxHeartbeats 1000000 in
theorem f161_ok (J : Keep) {z : Int} (hz : lh z.natAbs < 2 ^ 36) : C J 161 [zh z] (.str (ztext z)) := by
  refine fn_ok Tryz.func161 rfl rfl rfl ?_
  have sz := sign3 z
  by_cases h0 : z.sign = 0
  · have e : z = 0 := Int.sign_eq_zero_iff_zero.1 h0
    repeat (first | (refine W.RS (by kernel_rfl) ?_; conv => whnf) | (refine W.S ?_) | (refine W.ret ?_; conv => whnf) | (refine W.condT rfl ?_) | (refine ⟨true, decide_eq_true (by omega), ?_⟩; conv => whnf) | (refine ⟨rfl, ?_⟩; conv => whnf))
    rw [e]
    show IV.str [48] = IV.str (ztext 0)
    unfold ztext
    rw [if_neg (by omega), List.nil_append, decN_small (by decide)]; rfl
  · have hz0 : z ≠ 0 := fun e => h0 (by rw [e]; rfl)
    obtain ⟨N, hN⟩ : ∃ N, z.natAbs = N := ⟨_, rfl⟩
    have hN0 : 0 < N := by omega
    rw [hN] at hz
    show W J _ _ ⟨argS [.agg [.int .i64 z.sign, .sl ((dh z.natAbs).map d64)]], fun _ => none, 0⟩ _
    rw [hN]
    repeat (first | (refine W.RS (by kernel_rfl) ?_; conv => whnf) | (refine W.S ?_) | (refine W.block ?_) | (refine W.skip ?_; conv => whnf) | (refine W.condF rfl ?_) | (refine ⟨false, decide_eq_false (by omega), ?_⟩; conv => whnf) | (refine ⟨rfl, ?_⟩; conv => whnf))
    refine W.loop (G := { t : Nat // t ≤ 2 * lh N + 1 }) (fun t => mkA [(1, .ptr 0 0), (3, .iv (.str (padW (4 * t.1) N))), (4, .iv (.sl ((dh (N / 10 ^ (4 * t.1))).map d64)))] [(0, .var (.agg [.int .i64 z.sign, .sl ((dh N).map d64)]))] 30) (fun t => N / 10 ^ (4 * t.1)) ⟨0, Nat.zero_le _⟩
      (Wk.tab [] ⟨⟨rfl, rfl⟩, ⟨rfl, rfl⟩, ⟨slEq (by dsimp only; rw [Nat.mul_zero, Nat.pow_zero, Nat.div_one]), rfl⟩, trivial⟩ ⟨rfl, trivial⟩ rfl) ?_
    rintro ⟨t, ht⟩
    show W J _ _ (mkA [(1, .ptr 0 0), (3, .iv (.str (padW (4 * t) N))), (4, .iv (.sl ((dh (N / 10 ^ (4 * t))).map d64)))] [(0, .var (.agg [.int .i64 z.sign, .sl ((dh N).map d64)]))] 30) _
    obtain ⟨v, hv'⟩ : ∃ v, N / 10 ^ (4 * t) = v := ⟨_, rfl⟩
    rw [hv']
    have lv : ((dh v).map d64).length = lh v := by simp [lh]
    have hlv : lh v ≤ lh N := by rw [← hv']; exact lh_div _ _
    by_cases hv0 : 0 < v
    · have hlp := lh_pos hv0
      have hts := zt_steps (N := N) (t := t) (by omega)
      have hl1 : lh 10000 ≤ 1 := lh_le (by decide)
      have c1 := f196_ok J (a := v) (d := 10000) (by decide) (by omega)
      rw [dh_10000] at c1
      have hr : v % 10000 < 10000 := Nat.mod_lt _ (by decide)
      have c2 := f145_dh J (n := v % 10000) (Nat.le_trans (lh_mono (Nat.le_of_lt hr)) (by omega))
      obtain ⟨r, hre⟩ : ∃ r, v % 10000 = r := ⟨_, rfl⟩
      rw [hre] at hr c1 c2
      repeat (first | (refine W.RS (by kernel_rfl) ?_; conv => whnf) | (refine W.S ?_) | (refine W.block ?_) | (refine W.skip ?_; conv => whnf) | (refine W.condT rfl ?_) | (refine ⟨_, c1, ?_⟩; conv => whnf) | (refine ⟨_, c2, ?_⟩; conv => whnf) | (refine ⟨true, decide_eq_true (by omega), ?_⟩; conv => whnf) | (refine ⟨_, rfl, ?_⟩; conv => whnf) | (refine ⟨rfl, ?_⟩; conv => whnf))
      refine W.loop (G := { i : Nat // i ≤ 4 }) (fun i => mkA [(1, .ptr 0 0), (3, .iv (.str (padW i.1 r ++ padW (4 * t) N))), (5, .iv (.sl ((dh (v / 10000)).map d64))), (7, .iv (.int .i64 (r / 10 ^ i.1 : Nat))), (8, .iv (.int .i64 (i.1 : Nat)))] [(0, .var (.agg [.int .i64 z.sign, .sl ((dh N).map d64)]))] 60) (fun i => 4 - i.1) ⟨0, by omega⟩
        (Wk.tab [] ⟨⟨rfl, rfl⟩, ⟨rfl, rfl⟩, ⟨rfl, rfl⟩, ⟨ivEq (by dsimp only; rw [Nat.pow_zero, Nat.div_one]), rfl⟩, ⟨rfl, rfl⟩, trivial⟩ ⟨rfl, trivial⟩ rfl) ?_
      rintro ⟨i, hi⟩
      show W J _ _ (mkA [(1, .ptr 0 0), (3, .iv (.str (padW i r ++ padW (4 * t) N))), (5, .iv (.sl ((dh (v / 10000)).map d64))), (7, .iv (.int .i64 (r / 10 ^ i : Nat))), (8, .iv (.int .i64 (i : Nat)))] [(0, .var (.agg [.int .i64 z.sign, .sl ((dh N).map d64)]))] 60) _
      by_cases hi4 : i < 4
      · obtain ⟨q, hq⟩ : ∃ q, r / 10 ^ i = q := ⟨_, rfl⟩
        have hqr : q ≤ r := by rw [← hq]; exact Nat.div_le_self _ _
        have hm : (q : Int).tmod 10 = ((q % 10 : Nat) : Int) := tmodN q 10
        have hq2 : IntKind.wrap .i64 ((q : Int).tdiv 10) = ((q / 10 : Nat) : Int) := by
          rw [show (10 : Int) = ((10 : Nat) : Int) from rfl, tdivN]; exact w64 (by omega)
        have hk : q % 10 < 10 := Nat.mod_lt _ (by decide)
        have hds := digs_at hk
        have hq3 : r / 10 ^ (i + 1) = q / 10 := by rw [Nat.pow_succ, ← Nat.div_div_eq_div_mul, hq]
        have hpw : padW (i + 1) r = [dig8 (q % 10)] ++ padW i r := by
          rw [Nat.add_comm i 1, padW_split, hq]; rfl
        have l1 := padW_length i r
        have l2 := padW_length (4 * t) N
        have hlen : (padW i r ++ padW (4 * t) N).length = i + 4 * t := by rw [List.length_append, l1, l2]
        obtain ⟨k, hke⟩ : ∃ k, q % 10 = k := ⟨_, rfl⟩
        rw [hke] at hm hk hds hpw
        rw [hq]
        repeat (first | (refine W.RS (by kernel_rfl) ?_; conv => whnf) | (refine W.R (by kernel_rfl) ?_; conv => whnf) | (refine W.S ?_) | (refine W.block ?_) | (refine W.skip ?_; conv => whnf) | (refine W.condT rfl ?_) | (refine ⟨by omega, _, hm, ?_⟩; conv => whnf) | (refine ⟨by omega, _, hq2, ?_⟩; conv => whnf) | (refine ⟨k + 1, by omega, ?_⟩; conv => whnf) | (refine ⟨k, rfl, ?_⟩; conv => whnf) | (refine ⟨by omega, by show k + 1 ≤ 10; omega, ?_⟩; conv => whnf) | (refine ⟨by show (List.drop k (List.take (k + 1) [48, 49, 50, 51, 52, 53, 54, 55, 56, 57])).length + (padW i r ++ padW (4 * t) N).length ≤ 9223372036854775807; rw [hds, hlen]; simp only [List.length_singleton]; omega, ?_⟩; conv => whnf) | (refine ⟨rfl, _, w64 (by omega), ?_⟩; conv => whnf) | (refine ⟨true, decide_eq_true (by omega), ?_⟩; conv => whnf) | (refine ⟨rfl, ?_⟩; conv => whnf))
        refine ⟨⟨i + 1, by omega⟩, Wk.tab [] ⟨⟨rfl, rfl⟩, ⟨strE ?_, rfl⟩, ⟨rfl, rfl⟩, ⟨ivEq ?_, rfl⟩, ⟨rfl, rfl⟩, trivial⟩ ⟨rfl, trivial⟩ rfl, by dsimp only; omega⟩
        · dsimp only
          rw [hpw, List.append_assoc, ← hds]
        · dsimp only
          rw [hq3]
      · have e4 : i = 4 := by omega
        subst e4
        repeat (first | (refine W.RS (by kernel_rfl) ?_; conv => whnf) | (refine W.R (by kernel_rfl) ?_; conv => whnf) | (refine W.S ?_) | (refine W.exit ?_; conv => whnf) | (refine W.condF rfl ?_) | (refine ⟨false, decide_eq_false (by omega), ?_⟩; conv => whnf) | (refine ⟨rfl, ?_⟩; conv => whnf))
        refine ⟨⟨t + 1, by omega⟩, Wk.tab [] ⟨⟨rfl, rfl⟩, ⟨strE ?_, rfl⟩, ⟨slEq ?_, rfl⟩, trivial⟩ ⟨rfl, trivial⟩ rfl, ?_⟩
        · dsimp only
          rw [show 4 * (t + 1) = 4 + 4 * t by omega, padW_split, hv', ← padW_mod 4 v, ← hre]
        · dsimp only
          rw [show 4 * (t + 1) = 4 * t + 4 by omega, Nat.pow_add, ← Nat.div_div_eq_div_mul, hv']
        · dsimp only
          rw [show 4 * (t + 1) = 4 * t + 4 by omega, Nat.pow_add, ← Nat.div_div_eq_div_mul, hv']
          show v / 10000 < v
          exact Nat.div_lt_self hv0 (by decide)
    · have hv1 : v = 0 := by omega
      have hlt : N < 10 ^ (4 * t) := by
        apply Classical.byContradiction
        intro hc
        have : 0 < N / 10 ^ (4 * t) := Nat.div_pos (by omega) (Nat.pow_pos (by decide))
        omega
      have hl0 : lh v = 0 := by rw [hv1]; unfold lh; rw [dh_zero]; rfl
      have hdw := padW_dec (4 * t) N hN0 hlt
      have hpl := padW_length (4 * t) N
      repeat (first | (refine W.RS (by kernel_rfl) ?_; conv => whnf) | (refine W.S ?_) | (refine W.block ?_) | (refine W.exit ?_; conv => whnf) | (refine W.condF rfl ?_) | (refine ⟨false, decide_eq_false (by omega), ?_⟩; conv => whnf) | (refine ⟨_, rfl, ?_⟩; conv => whnf) | (refine ⟨rfl, ?_⟩; conv => whnf))
      refine W.loop (G := { s : List UInt8 // s.dropWhile (· == 48) = decN N ∧ s.length ≤ 4 * t }) (fun s => mkA [(1, .ptr 0 0), (3, .iv (.str s.1))] [(0, .var (.agg [.int .i64 z.sign, .sl ((dh N).map d64)]))] 60) (fun s => s.1.length) ⟨padW (4 * t) N, hdw, by rw [hpl]; exact Nat.le_refl _⟩
        (Wk.tab [] ⟨⟨rfl, rfl⟩, ⟨rfl, rfl⟩, trivial⟩ ⟨rfl, trivial⟩ rfl) ?_
      rintro ⟨s, hs, hsl⟩
      show W J _ _ (mkA [(1, .ptr 0 0), (3, .iv (.str s))] [(0, .var (.agg [.int .i64 z.sign, .sl ((dh N).map d64)]))] 60) _
      cases s with
      | nil => exact absurd hs.symm (decN_ne N)
      | cons c s =>
        by_cases hc : c = 48
        · subst hc
          repeat (first | (refine W.RS (by kernel_rfl) ?_; conv => whnf) | (refine W.R (by kernel_rfl) ?_; conv => whnf) | (refine W.S ?_) | (refine W.block ?_) | (refine W.skip ?_; conv => whnf) | (refine W.condT rfl ?_) | (refine ⟨0, 48, rfl, rfl, ?_⟩; conv => whnf) | (refine ⟨Nat.succ_le_succ (Nat.zero_le _), Nat.le_refl _, ?_⟩; conv => whnf) | (refine ⟨_, castA _, ?_⟩; conv => whnf) | (refine ⟨true, decide_eq_true (by omega), ?_⟩; conv => whnf) | (refine ⟨rfl, ?_⟩; conv => whnf))
          refine ⟨⟨s, by rw [← hs]; rfl, by simp at hsl; omega⟩, Wk.tab [] ⟨⟨rfl, rfl⟩, ⟨strE ?_, rfl⟩, trivial⟩ ⟨rfl, trivial⟩ rfl, ?_⟩
          · simp
          · simp
        · have hcn : c.toNat ≠ 48 := fun e => hc (UInt8.toNat_inj.1 e)
          have hse : c :: s = decN N := by
            rw [← hs, List.dropWhile_cons_of_neg]; simpa using hc
          have hct : (c.toNat : Int) ≠ 48 := by exact fun e => hcn (Int.ofNat.inj e)
          by_cases hneg : z.sign < 0
          · have hzn : z < 0 := Int.sign_eq_neg_one_iff_neg.1 (by omega)
            repeat (first | (refine W.RS (by kernel_rfl) ?_; conv => whnf) | (refine W.S ?_) | (refine W.ret ?_; conv => whnf) | (refine W.exit ?_; conv => whnf) | (refine W.condF rfl ?_) | (refine W.condT rfl ?_) | (refine ⟨0, c, rfl, rfl, ?_⟩; conv => whnf) | (refine ⟨by show 1 + (c :: s).length ≤ 9223372036854775807; omega, ?_⟩; conv => whnf) | (refine ⟨true, decide_eq_true (by omega), ?_⟩; conv => whnf) | (refine ⟨false, decide_eq_false (by omega), ?_⟩; conv => whnf) | (refine ⟨_, rfl, ?_⟩; conv => whnf) | (refine ⟨rfl, ?_⟩; conv => whnf))
            rw [hse]
            show IV.str ([45] ++ decN N) = _
            unfold ztext
            rw [if_pos hzn, hN]
          · have hzn : ¬ z < 0 := fun h => hneg (by rw [Int.sign_eq_neg_one_of_neg h]; omega)
            repeat (first | (refine W.RS (by kernel_rfl) ?_; conv => whnf) | (refine W.S ?_) | (refine W.ret ?_; conv => whnf) | (refine W.exit ?_; conv => whnf) | (refine W.skip ?_; conv => whnf) | (refine W.condF rfl ?_) | (refine ⟨0, c, rfl, rfl, ?_⟩; conv => whnf) | (refine ⟨false, decide_eq_false (by omega), ?_⟩; conv => whnf) | (refine ⟨_, rfl, ?_⟩; conv => whnf) | (refine ⟨rfl, ?_⟩; conv => whnf))
            rw [hse]
            unfold ztext
            rw [if_neg hzn, hN]
            rfl
end Go.Proofs.Fl
namespace Go.Proofs.Fl
open Go.RowKit Go.Proofs.Dig
attribute [local irreducible] IntKind.wrap PureC MutC MakC IterC
noncomputable abbrev rqd (q : Rat) (d1 d2 : IV) : IV := .agg [.int .i64 q.num.sign, .sl ((dh q.num.natAbs).map d64), d1, d2]
noncomputable abbrev rr (q : Rat) : IV := rqd q (.int .i64 1) (.sl ((dh q.den).map d64))
def DOk (q : Rat) (d1 d2 : IV) : Prop := (d1 = .int .i64 1 ∧ d2 = .sl ((dh q.den).map d64)) ∨ (d1 = .int .i64 0 ∧ d2 = .sl [] ∧ q = 0)
theorem DOk.rr (q : Rat) : DOk q (.int .i64 1) (.sl ((dh q.den).map d64)) := .inl ⟨rfl, rfl⟩
theorem rq_zero : rqd 0 (.int .i64 0) (.sl []) = .agg [.int .i64 0, .sl [], .int .i64 0, .sl []] := by
  show IV.agg [.int .i64 0, .sl ((dh 0).map d64), .int .i64 0, .sl []] = _
  rw [dh_zero]; rfl
noncomputable def rl (q : Rat) : Nat := lh q.num.natAbs + lh q.den
theorem f153_ok (J : Keep) {q : Rat} {d1 d2 : IV} (hd : DOk q d1 d2) : C J 153 [rqd q d1 d2] (zh (q.den : Int)) := by
  refine fn_ok Tryz.func153 rfl rfl rfl ?_
  rcases hd with ⟨rfl, rfl⟩ | ⟨rfl, rfl, rfl⟩
  · repeat (first | (refine W.RS (by kernel_rfl) ?_; conv => whnf) | (refine W.S ?_) | (refine W.ret ?_; conv => whnf) | (refine W.skip ?_; conv => whnf) | (refine W.condF rfl ?_) | (refine ⟨false, decide_eq_false (by omega), ?_⟩; conv => whnf) | (refine ⟨rfl, ?_⟩; conv => whnf))
    rw [zhpos (den_pos q)]; rfl
  · repeat (first | (refine W.RS (by kernel_rfl) ?_; conv => whnf) | (refine W.S ?_) | (refine W.ret ?_; conv => whnf) | (refine W.condT rfl ?_) | (refine ⟨_, f139_ok J (z := 1) (by omega) (by omega), ?_⟩; conv => whnf) | (refine ⟨true, decide_eq_true (by omega), ?_⟩; conv => whnf) | (refine ⟨rfl, ?_⟩; conv => whnf))
    rfl
theorem dh_single {g : Nat} (h0 : 0 < g) (h : g < 32768) : dh g = [g] := by
  symm
  refine dh_of ⟨by intro d hd; simp at hd; subst hd; exact h, by intro d hd; simp at hd; omega⟩ ?_
  simp [hv, nv]
theorem sv_sign {z : Int} {n g : Nat} (_h : n = z.natAbs / g) (h0 : z = 0 → n = 0) : z.sign * (n : Int) = sv (decide (z < 0)) n := by
  unfold sv
  rcases Int.lt_trichotomy z 0 with h1 | h1 | h1
  · rw [Int.sign_eq_neg_one_of_neg h1, decide_eq_true h1]; simp
  · rw [h0 h1]; simp
  · rw [Int.sign_eq_one_of_pos h1, decide_eq_false (by omega)]; simp
theorem ratio_pos (J : Keep) {z : Int} {d : Nat} (_hd : 0 < d) (hz : lh z.natAbs < 2 ^ 36) (hl : lh d < 2 ^ 36) : C J 195 [zh z, zh (d : Int)] (zh (Nat.gcd z.natAbs d : Nat)) := by
  have := f195_ok J (x := z) (y := (d : Int)) (by omega) (by rw [Int.natAbs_natCast]; omega)
  rwa [Int.natAbs_natCast] at this
theorem f148_at (J : Keep) {z : Int} {d : Nat} (hd : 0 < d) (hz : lh z.natAbs < 2 ^ 36) (hl : lh d < 2 ^ 36) {x y : IV} (c0 : (x = zh z ∧ y = zh (d : Int)) ∨ (x = zh (-z) ∧ y = zh (-(d : Int)))) : C J 148 [x, y] (rr (mkRat z d)) := by
  obtain ⟨g, hg⟩ : ∃ g, Nat.gcd z.natAbs d = g := ⟨_, rfl⟩
  have hg0 : 0 < g := by rw [← hg]; exact Nat.gcd_pos_of_pos_right _ hd
  have hgd : g ∣ d := by rw [← hg]; exact Nat.gcd_dvd_right _ _
  have hgn : g ≤ d := Nat.le_of_dvd hd hgd
  have hlg : lh g ≤ lh d := lh_mono hgn
  have hdg : 1 ≤ d / g := (Nat.one_le_div_iff hg0).2 hgn
  have c1 := ratio_pos J hd hz hl
  rw [hg] at c1
  have hnum := mkRat_num (z := z) hd
  have hden := mkRat_den (z := z) hd
  rw [hg] at hnum hden
  have l1 := lh_div z.natAbs g
  have l2 := lh_div d g
  have hsn := sv_sign (z := z) (n := z.natAbs / g) (g := g) rfl (fun h => by rw [h]; simp)
  have c2 := f196_ok J (a := z.natAbs) (d := g) hg0 (by omega)
  have c3 := f196_ok J (a := d) (d := g) hg0 (by omega)
  have c4 := f193_dh J (n := z.natAbs / g) (s := z.sign) (by
    have := sign3 z
    rcases Int.lt_trichotomy z 0 with h1 | h1 | h1
    · right; left; exact Int.sign_eq_neg_one_of_neg h1
    · right; right; rw [h1]; simp
    · left; exact Int.sign_eq_one_of_pos h1) (by omega)
  rw [hsn, ← hnum] at c4
  have c5 := f193_dh J (n := d / g) (s := 1) (.inl rfl) (by omega)
  rw [Int.one_mul, zhpos (n := d / g) (by omega)] at c5
  have n1 := f147_ok J (-z)
  have n2 := f147_ok J (-(d : Int))
  rw [Int.neg_neg] at n1 n2
  have hds : (d : Int).sign = 1 := Int.sign_eq_one_of_pos (by omega)
  have hds2 : (-(d : Int)).sign = -1 := Int.sign_eq_neg_one_of_neg (by omega)
  refine fn_ok Tryz.func148 rfl rfl rfl ?_
  rcases c0 with ⟨rfl, rfl⟩ | ⟨rfl, rfl⟩
  · refine W.RS (by kernel_rfl) ?_
    conv => whnf
    refine W.join (G := Unit) (fun _ => mkA [(2, .ptr 0 0), (3, .ptr 1 0), (4, .ptr 2 0)] [(0, .var (zh z)), (1, .var (zh (d : Int))), (2, .var (rqd 0 (.int .i64 0) (.sl [])))] 30) ?_ ?_
    · repeat (first | (refine W.RS (by kernel_rfl) ?_; conv => whnf) | (refine W.skip ?_; conv => whnf) | (refine W.condF rfl ?_) | (refine ⟨false, decide_eq_false (by omega), ?_⟩; conv => whnf) | (refine ⟨rfl, ?_⟩; conv => whnf))
      exact ⟨(), Wk.tab [] ⟨⟨rfl, rfl⟩, ⟨rfl, rfl⟩, ⟨rfl, rfl⟩, trivial⟩ ⟨rfl, rfl, by rw [rq_zero]; rfl, trivial⟩ rfl⟩
    · rintro ⟨⟩
      try dsimp only
      by_cases h1 : g = 1
      · have e1 : (dh g).map d64 = [.int .i64 1] := by rw [h1, dh_single (by decide) (by decide)]; rfl
        have e2 : zh (g : Int) = .agg [.int .i64 1, .sl [.int .i64 1]] := by rw [zhpos hg0, e1]
        rw [e2] at c1
        have z1 : (mkRat z d).num = z := by rw [hnum, h1, Nat.div_one, sv_neg]
        have d1 : (mkRat z d).den = d := by rw [hden, h1, Nat.div_one]
        repeat (first | (refine W.RS (by kernel_rfl) ?_; conv => whnf) | (refine W.S ?_) | (refine W.ret ?_; conv => whnf) | (refine W.condT rfl ?_) | (refine ⟨_, c1, ?_⟩; conv => whnf) | (refine ⟨0, _, rfl, rfl, rfl, ?_⟩; conv => whnf) | (refine ⟨_, castA _, ?_⟩; conv => whnf) | (refine ⟨true, decide_eq_true (by omega), ?_⟩; conv => whnf) | (refine ⟨_, rfl, ?_⟩; conv => whnf) | (refine ⟨rfl, ?_⟩; conv => whnf) | (refine ⟨_, fun _ => rfl, fun h => absurd h.symm Bool.false_ne_true, ?_⟩; conv => whnf))
        show IV.agg [.int .i64 z.sign, .sl ((dh z.natAbs).map d64), .int .i64 (d : Int).sign, .sl ((dh (d : Int).natAbs).map d64)] = _
        rw [rr, rqd, z1, d1, hds, Int.natAbs_natCast]
      · rw [zhpos hg0] at c1
        have hfin : IV.agg [.int .i64 (mkRat z d).num.sign, .sl ((dh (mkRat z d).num.natAbs).map d64), .int .i64 1, .sl ((dh (d / g)).map d64)] = rr (mkRat z d) := by
          rw [rr, rqd, hden]
        have lg : ((dh g).map d64).length = lh g := by simp [lh]
        by_cases h2 : lh g = 1
        · have hg2 : g < 32768 := by
            have := lt_lh g
            rw [h2, Nat.pow_one] at this
            exact this
          have e1 : (dh g).map d64 = [.int .i64 (g : Nat)] := by rw [dh_single hg0 hg2]; rfl
          rw [e1] at c1 c2 c3
          repeat (first | (refine W.RS (by kernel_rfl) ?_; conv => whnf) | (refine W.S ?_) | (refine W.ret ?_; conv => whnf) | (refine W.skip ?_; conv => whnf) | (refine W.condF rfl ?_) | (refine ⟨_, c1, ?_⟩; conv => whnf) | (refine ⟨_, c2, ?_⟩; conv => whnf) | (refine ⟨_, c3, ?_⟩; conv => whnf) | (refine ⟨_, c4, ?_⟩; conv => whnf) | (refine ⟨_, c5, ?_⟩; conv => whnf) | (refine ⟨0, _, rfl, rfl, rfl, ?_⟩; conv => whnf) | (refine ⟨_, castA _, ?_⟩; conv => whnf) | (refine ⟨false, decide_eq_false (by omega), ?_⟩; conv => whnf) | (refine ⟨_, rfl, ?_⟩; conv => whnf) | (refine ⟨rfl, ?_⟩; conv => whnf) | (refine ⟨_, fun _ => rfl, fun h => absurd h.symm Bool.false_ne_true, ?_⟩; conv => whnf))
          exact hfin
        · repeat (first | (refine W.RS (by kernel_rfl) ?_; conv => whnf) | (refine W.S ?_) | (refine W.ret ?_; conv => whnf) | (refine W.skip ?_; conv => whnf) | (refine W.condF rfl ?_) | (refine ⟨_, c1, ?_⟩; conv => whnf) | (refine ⟨_, c2, ?_⟩; conv => whnf) | (refine ⟨_, c3, ?_⟩; conv => whnf) | (refine ⟨_, c4, ?_⟩; conv => whnf) | (refine ⟨_, c5, ?_⟩; conv => whnf) | (refine ⟨false, decide_eq_false (by omega), ?_⟩; conv => whnf) | (refine ⟨_, rfl, ?_⟩; conv => whnf) | (refine ⟨rfl, ?_⟩; conv => whnf) | (refine ⟨_, fun h => absurd h Bool.false_ne_true, fun _ => rfl, ?_⟩; conv => whnf))
          exact hfin
  · refine W.RS (by kernel_rfl) ?_
    conv => whnf
    refine W.join (G := Unit) (fun _ => mkA [(2, .ptr 0 0), (3, .ptr 1 0), (4, .ptr 2 0)] [(0, .var (zh z)), (1, .var (zh (d : Int))), (2, .var (rqd 0 (.int .i64 0) (.sl [])))] 30) ?_ ?_
    · repeat (first | (refine W.RS (by kernel_rfl) ?_; conv => whnf) | (refine W.R (by kernel_rfl) ?_; conv => whnf) | (refine W.condT rfl ?_) | (refine ⟨_, n1, ?_⟩; conv => whnf) | (refine ⟨_, n2, ?_⟩; conv => whnf) | (refine ⟨true, decide_eq_true (by omega), ?_⟩; conv => whnf) | (refine ⟨rfl, ?_⟩; conv => whnf))
      exact ⟨(), Wk.tab [] ⟨⟨rfl, rfl⟩, ⟨rfl, rfl⟩, ⟨rfl, rfl⟩, trivial⟩ ⟨rfl, rfl, by rw [rq_zero]; rfl, trivial⟩ rfl⟩
    · rintro ⟨⟩
      try dsimp only
      by_cases h1 : g = 1
      · have e1 : (dh g).map d64 = [.int .i64 1] := by rw [h1, dh_single (by decide) (by decide)]; rfl
        have e2 : zh (g : Int) = .agg [.int .i64 1, .sl [.int .i64 1]] := by rw [zhpos hg0, e1]
        rw [e2] at c1
        have z1 : (mkRat z d).num = z := by rw [hnum, h1, Nat.div_one, sv_neg]
        have d1 : (mkRat z d).den = d := by rw [hden, h1, Nat.div_one]
        repeat (first | (refine W.RS (by kernel_rfl) ?_; conv => whnf) | (refine W.S ?_) | (refine W.ret ?_; conv => whnf) | (refine W.condT rfl ?_) | (refine ⟨_, c1, ?_⟩; conv => whnf) | (refine ⟨0, _, rfl, rfl, rfl, ?_⟩; conv => whnf) | (refine ⟨_, castA _, ?_⟩; conv => whnf) | (refine ⟨true, decide_eq_true (by omega), ?_⟩; conv => whnf) | (refine ⟨_, rfl, ?_⟩; conv => whnf) | (refine ⟨rfl, ?_⟩; conv => whnf) | (refine ⟨_, fun _ => rfl, fun h => absurd h.symm Bool.false_ne_true, ?_⟩; conv => whnf))
        show IV.agg [.int .i64 z.sign, .sl ((dh z.natAbs).map d64), .int .i64 (d : Int).sign, .sl ((dh (d : Int).natAbs).map d64)] = _
        rw [rr, rqd, z1, d1, hds, Int.natAbs_natCast]
      · rw [zhpos hg0] at c1
        have hfin : IV.agg [.int .i64 (mkRat z d).num.sign, .sl ((dh (mkRat z d).num.natAbs).map d64), .int .i64 1, .sl ((dh (d / g)).map d64)] = rr (mkRat z d) := by
          rw [rr, rqd, hden]
        have lg : ((dh g).map d64).length = lh g := by simp [lh]
        by_cases h2 : lh g = 1
        · have hg2 : g < 32768 := by
            have := lt_lh g
            rw [h2, Nat.pow_one] at this
            exact this
          have e1 : (dh g).map d64 = [.int .i64 (g : Nat)] := by rw [dh_single hg0 hg2]; rfl
          rw [e1] at c1 c2 c3
          repeat (first | (refine W.RS (by kernel_rfl) ?_; conv => whnf) | (refine W.S ?_) | (refine W.ret ?_; conv => whnf) | (refine W.skip ?_; conv => whnf) | (refine W.condF rfl ?_) | (refine ⟨_, c1, ?_⟩; conv => whnf) | (refine ⟨_, c2, ?_⟩; conv => whnf) | (refine ⟨_, c3, ?_⟩; conv => whnf) | (refine ⟨_, c4, ?_⟩; conv => whnf) | (refine ⟨_, c5, ?_⟩; conv => whnf) | (refine ⟨0, _, rfl, rfl, rfl, ?_⟩; conv => whnf) | (refine ⟨_, castA _, ?_⟩; conv => whnf) | (refine ⟨false, decide_eq_false (by omega), ?_⟩; conv => whnf) | (refine ⟨_, rfl, ?_⟩; conv => whnf) | (refine ⟨rfl, ?_⟩; conv => whnf) | (refine ⟨_, fun _ => rfl, fun h => absurd h.symm Bool.false_ne_true, ?_⟩; conv => whnf))
          exact hfin
        · repeat (first | (refine W.RS (by kernel_rfl) ?_; conv => whnf) | (refine W.S ?_) | (refine W.ret ?_; conv => whnf) | (refine W.skip ?_; conv => whnf) | (refine W.condF rfl ?_) | (refine ⟨_, c1, ?_⟩; conv => whnf) | (refine ⟨_, c2, ?_⟩; conv => whnf) | (refine ⟨_, c3, ?_⟩; conv => whnf) | (refine ⟨_, c4, ?_⟩; conv => whnf) | (refine ⟨_, c5, ?_⟩; conv => whnf) | (refine ⟨false, decide_eq_false (by omega), ?_⟩; conv => whnf) | (refine ⟨_, rfl, ?_⟩; conv => whnf) | (refine ⟨rfl, ?_⟩; conv => whnf) | (refine ⟨_, fun h => absurd h Bool.false_ne_true, fun _ => rfl, ?_⟩; conv => whnf))
          exact hfin
end Go.Proofs.Fl
namespace Go.Proofs.Fl
open Go.RowKit Go.Proofs.Dig
attribute [local irreducible] IntKind.wrap PureC MutC MakC IterC
theorem rl_ratio {z : Int} {d : Nat} (hd : 0 < d) : rl (mkRat z d) ≤ lh z.natAbs + lh d := by
  unfold rl
  rw [mkRat_num hd, mkRat_den hd]
  have h1 : (sv (decide (z < 0)) (z.natAbs / Nat.gcd z.natAbs d)).natAbs ≤ z.natAbs := by
    have h2 := Nat.div_le_self z.natAbs (Nat.gcd z.natAbs d)
    generalize z.natAbs / Nat.gcd z.natAbs d = t at h2 ⊢
    unfold sv
    split <;> omega
  have h2 := lh_mono h1
  have h3 := lh_mono (Nat.div_le_self d (Nat.gcd z.natAbs d))
  omega
theorem rl_mul (a b : Rat) : rl (a * b) ≤ rl a + rl b := by
  rw [Rat.mul_def']
  have h := rl_ratio (z := a.num * b.num) (d := a.den * b.den) (Nat.mul_pos (den_pos a) (den_pos b))
  have h1 := lh_mul a.num.natAbs b.num.natAbs
  have h2 := lh_mul a.den b.den
  rw [Int.natAbs_mul] at h
  unfold rl at *
  omega
theorem rl_add (a b : Rat) : rl (a + b) ≤ 2 * rl a + 2 * rl b + 1 := by
  rw [Rat.add_def']
  have h := rl_ratio (z := a.num * (b.den : Int) + b.num * (a.den : Int)) (d := a.den * b.den) (Nat.mul_pos (den_pos a) (den_pos b))
  have h1 := lh_mul a.num.natAbs b.den
  have h1' := lh_mul b.num.natAbs a.den
  have h2 := lh_mul a.den b.den
  have e1 : (a.num * (b.den : Int)).natAbs = a.num.natAbs * b.den := by rw [Int.natAbs_mul, Int.natAbs_natCast]
  have e1' : (b.num * (a.den : Int)).natAbs = b.num.natAbs * a.den := by rw [Int.natAbs_mul, Int.natAbs_natCast]
  have h3 := lh_add (a.num.natAbs * b.den) (b.num.natAbs * a.den)
  have h4 : (a.num * (b.den : Int) + b.num * (a.den : Int)).natAbs ≤ a.num.natAbs * b.den + b.num.natAbs * a.den := by
    rw [← e1, ← e1']; exact Int.natAbs_add_le _ _
  have h5 := lh_mono h4
  unfold rl at *
  omega
theorem rl_neg (q : Rat) : rl (-q) = rl q := by
  unfold rl
  rw [Rat.neg_num, Int.natAbs_neg, Rat.neg_den]
theorem rl_int (z : Int) : rl (z : Rat) ≤ lh z.natAbs + 1 := by
  show lh z.natAbs + lh 1 ≤ _
  have := lh_one
  omega
theorem lhi (n : Nat) : lh (n : Int).natAbs = lh n := by rw [Int.natAbs_natCast]
theorem f82_ok (J : Keep) (z : Int) : C J 82 [zh z] (rr (z : Rat)) := by
  refine fn_ok Tryz.func82 rfl rfl rfl ?_
  repeat (first | (refine W.RS (by kernel_rfl) ?_; conv => whnf) | (refine W.ret ?_; conv => whnf) | (refine ⟨_, f139_ok J (z := 1) (by omega) (by omega), ?_⟩; conv => whnf) | (refine ⟨rfl, ?_⟩; conv => whnf))
  show IV.agg [.int .i64 z.sign, .sl ((dh z.natAbs).map d64), .int .i64 (1 : Int).sign, .sl ((dh (1 : Int).natAbs).map d64)] = _
  rfl
theorem divInt_sgn {n d : Int} (hd : d ≠ 0) : mkRat (n * d.sign) d.natAbs = (n : Rat) / (d : Rat) := by
  rw [← Rat.divInt_eq_div]
  rcases Int.lt_trichotomy d 0 with h | h | h
  · obtain ⟨k, rfl⟩ : ∃ k : Nat, d = -((k : Nat) : Int) := ⟨d.natAbs, by omega⟩
    rw [Int.sign_eq_neg_one_of_neg h, Int.natAbs_neg, Int.natAbs_natCast, Rat.divInt_neg', Rat.divInt_ofNat, Int.mul_neg, Int.mul_one]
  · exact absurd h hd
  · obtain ⟨k, rfl⟩ : ∃ k : Nat, d = ((k : Nat) : Int) := ⟨d.natAbs, by omega⟩
    rw [Int.sign_eq_one_of_pos h, Int.natAbs_natCast, Int.mul_one, Rat.divInt_ofNat]
theorem f148_any (J : Keep) {n d : Int} (hd : d ≠ 0) (hz : lh n.natAbs < 2 ^ 36) (hl : lh d.natAbs < 2 ^ 36) : C J 148 [zh n, zh d] (rr ((n : Rat) / (d : Rat))) := by
  rw [← divInt_sgn hd]
  have hs : (n * d.sign).natAbs = n.natAbs := by
    rw [Int.natAbs_mul]
    rcases Int.lt_trichotomy d 0 with h | h | h
    · rw [Int.sign_eq_neg_one_of_neg h]; simp
    · exact absurd h hd
    · rw [Int.sign_eq_one_of_pos h]; simp
  refine f148_at J (z := n * d.sign) (d := d.natAbs) (by omega) (by rw [hs]; exact hz) hl ?_
  rcases Int.lt_trichotomy d 0 with h | h | h
  · right
    rw [Int.sign_eq_neg_one_of_neg h]
    exact ⟨by rw [Int.mul_neg, Int.mul_one, Int.neg_neg], zhE (by omega)⟩
  · exact absurd h hd
  · left
    rw [Int.sign_eq_one_of_pos h]
    exact ⟨by rw [Int.mul_one], zhE (by omega)⟩
theorem f29_ok (J : Keep) {n d : Int} (h1 : -9223372036854775808 ≤ n) (h2 : n ≤ 9223372036854775807) (h3 : -9223372036854775808 ≤ d) (h4 : d ≤ 9223372036854775807) (hd : d ≠ 0) : C J 29 [.int .i64 n, .int .i64 d] (rr ((n : Rat) / (d : Rat))) := by
  refine fn_ok Tryz.func29 rfl rfl rfl ?_
  have l : ∀ z : Int, -9223372036854775808 ≤ z → z ≤ 9223372036854775807 → lh z.natAbs ≤ 5 := fun z a b => lh_le (by
    have : B15 ^ 5 = 37778931862957161709568 := by decide
    omega)
  have l1 := l n h1 h2
  have l2 := l d h3 h4
  have c := f148_any J (n := n) hd (by omega) (by omega)
  repeat (first | (refine W.RS (by kernel_rfl) ?_; conv => whnf) | (refine W.ret ?_; conv => whnf) | (refine ⟨_, f139_ok J h1 h2, ?_⟩; conv => whnf) | (refine ⟨_, f139_ok J h3 h4, ?_⟩; conv => whnf) | (refine ⟨_, c, ?_⟩; conv => whnf))
  rfl
section
variable {a b : Rat} {d1 d2 e1 e2 : IV}
theorem f63_ok (J : Keep) (hd : DOk a d1 d2) (he : DOk b e1 e2) (ha : rl a < 2 ^ 34) (hb : rl b < 2 ^ 34) : C J 63 [rqd a d1 d2, rqd b e1 e2] (rr (a + b)) := by
  refine fn_ok Tryz.func63 rfl rfl rfl ?_
  unfold rl at ha hb
  have l1 := lh_mul a.num.natAbs b.den
  have l2 := lh_mul b.num.natAbs a.den
  have l3 := lh_mul a.den b.den
  have e1' : (a.num * (b.den : Int)).natAbs = a.num.natAbs * b.den := by rw [Int.natAbs_mul, Int.natAbs_natCast]
  have e2' : (b.num * (a.den : Int)).natAbs = b.num.natAbs * a.den := by rw [Int.natAbs_mul, Int.natAbs_natCast]
  have c1 := f146_ok J (x := a.num) (y := (b.den : Int)) (by omega) (by rw [lhi]; omega)
  have c2 := f146_ok J (x := b.num) (y := (a.den : Int)) (by omega) (by rw [lhi]; omega)
  have c3 := f146_ok J (x := (a.den : Int)) (y := (b.den : Int)) (by rw [lhi]; omega) (by rw [lhi]; omega)
  have c4 := f174_ok J (x := a.num * (b.den : Int)) (y := b.num * (a.den : Int)) (by rw [e1']; omega) (by rw [e2']; omega)
  have h3 := lh_add (a.num.natAbs * b.den) (b.num.natAbs * a.den)
  have h4 : (a.num * (b.den : Int) + b.num * (a.den : Int)).natAbs ≤ a.num.natAbs * b.den + b.num.natAbs * a.den := by
    rw [← e1', ← e2']; exact Int.natAbs_add_le _ _
  have h5 := lh_mono h4
  have c5 := f148_at J (z := a.num * (b.den : Int) + b.num * (a.den : Int)) (d := a.den * b.den) (Nat.mul_pos (den_pos a) (den_pos b)) (by omega) (by omega) (.inl ⟨rfl, rfl⟩)
  rw [← Rat.add_def', Int.natCast_mul] at c5
  repeat (first | (refine W.RS (by kernel_rfl) ?_; conv => whnf) | (refine W.ret ?_; conv => whnf) | (refine ⟨_, f153_ok J hd, ?_⟩; conv => whnf) | (refine ⟨_, f153_ok J he, ?_⟩; conv => whnf) | (refine ⟨_, c1, ?_⟩; conv => whnf) | (refine ⟨_, c2, ?_⟩; conv => whnf) | (refine ⟨_, c3, ?_⟩; conv => whnf) | (refine ⟨_, c4, ?_⟩; conv => whnf) | (refine ⟨_, c5, ?_⟩; conv => whnf) | (refine ⟨rfl, ?_⟩; conv => whnf))
  rfl
theorem f67_ok (J : Keep) (hd : DOk a d1 d2) : C J 67 [rqd a d1 d2] (rr (-a)) := by
  refine fn_ok Tryz.func67 rfl rfl rfl ?_
  repeat (first | (refine W.RS (by kernel_rfl) ?_; conv => whnf) | (refine W.ret ?_; conv => whnf) | (refine ⟨_, f147_ok J a.num, ?_⟩; conv => whnf) | (refine ⟨_, f153_ok J hd, ?_⟩; conv => whnf) | (refine ⟨rfl, ?_⟩; conv => whnf))
  show IV.agg [.int .i64 (-a.num).sign, .sl ((dh (-a.num).natAbs).map d64), .int .i64 (a.den : Int).sign, .sl ((dh (a.den : Int).natAbs).map d64)] = _
  rw [rr, rqd, Rat.neg_num, Rat.neg_den, Int.sign_eq_one_of_pos (a := (a.den : Int)) (by have := den_pos a; omega), Int.natAbs_natCast a.den]
theorem f64_ok (J : Keep) (hd : DOk a d1 d2) (he : DOk b e1 e2) (ha : rl a < 2 ^ 34) (hb : rl b < 2 ^ 34) : C J 64 [rqd a d1 d2, rqd b e1 e2] (rr (a - b)) := by
  refine fn_ok Tryz.func64 rfl rfl rfl ?_
  have c2 := f63_ok J (a := a) (b := -b) hd (DOk.rr _) ha (by rw [rl_neg]; exact hb)
  rw [← Rat.sub_eq_add_neg] at c2
  repeat (first | (refine W.RS (by kernel_rfl) ?_; conv => whnf) | (refine W.ret ?_; conv => whnf) | (refine ⟨_, f67_ok J he, ?_⟩; conv => whnf) | (refine ⟨_, c2, ?_⟩; conv => whnf) | (refine ⟨rfl, ?_⟩; conv => whnf))
  rfl
theorem f65_ok (J : Keep) (hd : DOk a d1 d2) (he : DOk b e1 e2) (ha : rl a < 2 ^ 34) (hb : rl b < 2 ^ 34) : C J 65 [rqd a d1 d2, rqd b e1 e2] (rr (a * b)) := by
  refine fn_ok Tryz.func65 rfl rfl rfl ?_
  unfold rl at ha hb
  have l1 := lh_mul a.num.natAbs b.num.natAbs
  have l3 := lh_mul a.den b.den
  have c1 := f146_ok J (x := a.num) (y := b.num) (by omega) (by omega)
  have c3 := f146_ok J (x := (a.den : Int)) (y := (b.den : Int)) (by rw [lhi]; omega) (by rw [lhi]; omega)
  have c5 := f148_at J (z := a.num * b.num) (d := a.den * b.den) (Nat.mul_pos (den_pos a) (den_pos b)) (by rw [Int.natAbs_mul]; omega) (by omega) (.inl ⟨rfl, rfl⟩)
  rw [← Rat.mul_def', Int.natCast_mul] at c5
  repeat (first | (refine W.RS (by kernel_rfl) ?_; conv => whnf) | (refine W.ret ?_; conv => whnf) | (refine ⟨_, f153_ok J hd, ?_⟩; conv => whnf) | (refine ⟨_, f153_ok J he, ?_⟩; conv => whnf) | (refine ⟨_, c1, ?_⟩; conv => whnf) | (refine ⟨_, c3, ?_⟩; conv => whnf) | (refine ⟨_, c5, ?_⟩; conv => whnf) | (refine ⟨rfl, ?_⟩; conv => whnf))
  rfl
theorem rat_div_int (a b : Rat) (hb : b ≠ 0) : ((a.num * (b.den : Int) : Int) : Rat) / (((a.den : Int) * b.num : Int) : Rat) = a / b := by
  have hn0 : b.num ≠ 0 := fun e => hb (Rat.num_eq_zero.1 e)
  have hd0 : (a.den : Int) * b.num ≠ 0 := Int.mul_ne_zero (by have := den_pos a; omega) hn0
  rw [← divInt_sgn hd0, Int.sign_mul, Int.sign_eq_one_of_pos (show (0 : Int) < (a.den : Int) by have := den_pos a; omega), Int.one_mul, Int.natAbs_mul, Int.natAbs_natCast]
  have hi : b⁻¹.num = b.num.sign * (b.den : Int) ∧ b⁻¹.den = b.num.natAbs := by
    show (Rat.inv b).num = _ ∧ (Rat.inv b).den = _
    unfold Rat.inv
    split
    · rename_i h; rw [Int.sign_eq_neg_one_of_neg h]; simp
    · split
      · rename_i h; rw [Int.sign_eq_one_of_pos h]; simp
      · omega
  rw [Rat.div_def, Rat.mul_def', hi.1, hi.2]
  congr 1
  rw [Int.mul_assoc, Int.mul_comm (b.den : Int)]
theorem f60_ok (J : Keep) (hd : DOk a d1 d2) (he : DOk b e1 e2) (ha : rl a < 2 ^ 34) (hb : rl b < 2 ^ 34) (hb0 : b ≠ 0) : C J 60 [rqd a d1 d2, rqd b e1 e2] (rr (a / b)) := by
  refine fn_ok Tryz.func60 rfl rfl rfl ?_
  unfold rl at ha hb
  have hn0 : b.num ≠ 0 := fun e => hb0 (Rat.num_eq_zero.1 e)
  have hd0 : (a.den : Int) * b.num ≠ 0 := Int.mul_ne_zero (by have := den_pos a; omega) hn0
  have l1 := lh_mul a.num.natAbs b.den
  have l3 := lh_mul a.den b.num.natAbs
  have c1 := f146_ok J (x := a.num) (y := (b.den : Int)) (by omega) (by rw [lhi]; omega)
  have c3 := f146_ok J (x := (a.den : Int)) (y := b.num) (by rw [lhi]; omega) (by omega)
  have c5 := f148_any J (n := a.num * (b.den : Int)) (d := (a.den : Int) * b.num) hd0 (by rw [Int.natAbs_mul, Int.natAbs_natCast]; omega) (by rw [Int.natAbs_mul, Int.natAbs_natCast]; omega)
  rw [rat_div_int a b hb0] at c5
  repeat (first | (refine W.RS (by kernel_rfl) ?_; conv => whnf) | (refine W.ret ?_; conv => whnf) | (refine ⟨_, f153_ok J hd, ?_⟩; conv => whnf) | (refine ⟨_, f153_ok J he, ?_⟩; conv => whnf) | (refine ⟨_, c1, ?_⟩; conv => whnf) | (refine ⟨_, c3, ?_⟩; conv => whnf) | (refine ⟨_, c5, ?_⟩; conv => whnf) | (refine ⟨rfl, ?_⟩; conv => whnf))
  rfl
theorem cmpI_sign (x y : Int) : cmpI x y = (x - y).sign := by
  unfold cmpI
  split
  · rw [Int.sign_eq_neg_one_of_neg (by omega)]
  · split
    · rw [Int.sign_eq_one_of_pos (by omega)]
    · rw [show x - y = 0 by omega]; rfl
theorem f27_ok (J : Keep) (hd : DOk a d1 d2) (he : DOk b e1 e2) (ha : rl a < 2 ^ 34) (hb : rl b < 2 ^ 34) : C J 27 [rqd a d1 d2, rqd b e1 e2] (.int .i64 (cmpR a b)) := by
  refine fn_ok Tryz.func27 rfl rfl rfl ?_
  unfold rl at ha hb
  have l1 := lh_mul a.num.natAbs b.den
  have l2 := lh_mul b.num.natAbs a.den
  have c1 := f146_ok J (x := a.num) (y := (b.den : Int)) (by omega) (by rw [lhi]; omega)
  have c2 := f146_ok J (x := b.num) (y := (a.den : Int)) (by omega) (by rw [lhi]; omega)
  have c3 := f144_ok J (x := a.num * (b.den : Int)) (y := b.num * (a.den : Int)) (by rw [Int.natAbs_mul, Int.natAbs_natCast]; omega) (by rw [Int.natAbs_mul, Int.natAbs_natCast]; omega)
  rw [← cmpI_sign] at c3
  repeat (first | (refine W.RS (by kernel_rfl) ?_; conv => whnf) | (refine W.ret ?_; conv => whnf) | (refine ⟨_, f153_ok J hd, ?_⟩; conv => whnf) | (refine ⟨_, f153_ok J he, ?_⟩; conv => whnf) | (refine ⟨_, c1, ?_⟩; conv => whnf) | (refine ⟨_, c2, ?_⟩; conv => whnf) | (refine ⟨_, c3, ?_⟩; conv => whnf) | (refine ⟨rfl, ?_⟩; conv => whnf))
  rfl
end
theorem f159_ok (J : Keep) (n : Int) (most : Nat) : C J 159 [.int .i64 n, .int .i64 most] (.int .i64 (intoN n most : Nat)) := by
  refine fn_ok Tryz.func159 rfl rfl rfl ?_
  by_cases h : n < 0
  · repeat (first | (refine W.RS (by kernel_rfl) ?_; conv => whnf) | (refine W.S ?_) | (refine W.ret ?_; conv => whnf) | (refine W.condT rfl ?_) | (refine ⟨true, decide_eq_true (by omega), ?_⟩; conv => whnf) | (refine ⟨rfl, ?_⟩; conv => whnf))
    have e : ((intoN n most : Nat) : Int) = 0 := by unfold intoN; omega
    rw [e]; rfl
  · by_cases h2 : n > most
    · repeat (first | (refine W.RS (by kernel_rfl) ?_; conv => whnf) | (refine W.S ?_) | (refine W.ret ?_; conv => whnf) | (refine W.skip ?_; conv => whnf) | (refine W.condF rfl ?_) | (refine W.condT rfl ?_) | (refine ⟨true, decide_eq_true (by omega), ?_⟩; conv => whnf) | (refine ⟨false, decide_eq_false (by omega), ?_⟩; conv => whnf) | (refine ⟨rfl, ?_⟩; conv => whnf))
      have e : ((intoN n most : Nat) : Int) = most := by unfold intoN; omega
      rw [e]; rfl
    · repeat (first | (refine W.RS (by kernel_rfl) ?_; conv => whnf) | (refine W.S ?_) | (refine W.ret ?_; conv => whnf) | (refine W.skip ?_; conv => whnf) | (refine W.condF rfl ?_) | (refine ⟨false, decide_eq_false (by omega), ?_⟩; conv => whnf) | (refine ⟨rfl, ?_⟩; conv => whnf))
      have e : ((intoN n most : Nat) : Int) = n := by unfold intoN; omega
      rw [e]; rfl
end Go.Proofs.Fl
namespace Go.Proofs.Fl
open Go.RowKit Go.Proofs.Dig
attribute [local irreducible] IntKind.wrap PureC MutC MakC IterC
theorem cmpR_lt {a b : Rat} : cmpR a b < 0 ↔ a < b := by
  rw [Rat.lt_iff]; unfold cmpR cmpI; split <;> (try split) <;> omega
theorem cmpR_gt {a b : Rat} : 0 < cmpR a b ↔ b < a := by
  rw [Rat.lt_iff]; unfold cmpR cmpI; split <;> (try split) <;> omega
theorem cmpR_le {a b : Rat} : cmpR a b ≤ 0 ↔ a ≤ b := by
  rw [Rat.le_iff]; unfold cmpR cmpI; split <;> (try split) <;> omega
theorem cmpR_ge {a b : Rat} : 0 ≤ cmpR a b ↔ b ≤ a := by
  rw [Rat.le_iff]; unfold cmpR cmpI; split <;> (try split) <;> omega
theorem cmpR_eq {a b : Rat} : cmpR a b = 0 ↔ a = b := by
  constructor
  · intro h
    exact Rat.le_antisymm (cmpR_le.1 (by omega)) (cmpR_ge.1 (by omega))
  · rintro rfl; unfold cmpR cmpI; simp
theorem cmpR_range (a b : Rat) : -1 ≤ cmpR a b ∧ cmpR a b ≤ 1 := by
  unfold cmpR cmpI; split <;> (try split) <;> omega
theorem cmpR_cases (a b : Rat) : (a < b ∧ cmpR a b = -1) ∨ (a = b ∧ cmpR a b = 0) ∨ (b < a ∧ cmpR a b = 1) := by
  have h := cmpR_range a b
  rcases (show cmpR a b = -1 ∨ cmpR a b = 0 ∨ cmpR a b = 1 by omega) with e | e | e
  · exact .inl ⟨cmpR_lt.1 (by omega), e⟩
  · exact .inr (.inl ⟨cmpR_eq.1 e, e⟩)
  · exact .inr (.inr ⟨cmpR_gt.1 (by omega), e⟩)
theorem half : mkRat 1 2 = (1 : Rat) / 2 := by rw [Rat.mkRat_eq_div]; rfl
noncomputable def nearI (q : Rat) : Int := if q - q.floor < 1 / 2 ∨ (q - q.floor = 1 / 2 ∧ q.floor % 2 = 0) then q.floor else q.floor + 1
theorem near_ref (q : Rat) (f : Rat) : cmpR (q - f) (f + 1 - q) = cmpR (q - f) (mkRat 1 2) := by
  rw [half]
  have h1 : (q - f < f + 1 - q) ↔ (q - f < 1 / 2) := by grind
  have h2 : (q - f = f + 1 - q) ↔ (q - f = 1 / 2) := by grind
  have h3 : (f + 1 - q < q - f) ↔ (1 / 2 < q - f) := by grind
  rcases cmpR_cases (q - f) (f + 1 - q) with ⟨a, e⟩ | ⟨a, e⟩ | ⟨a, e⟩ <;> rcases cmpR_cases (q - f) (1 / 2) with ⟨a', e'⟩ | ⟨a', e'⟩ | ⟨a', e'⟩ <;> (first | (rw [e, e']; done) | (exfalso; grind))
theorem near_c (q : Rat) : nearI q = if cmpR (q - q.floor) (mkRat 1 2) < 0 ∨ (cmpR (q - q.floor) (mkRat 1 2) = 0 ∧ q.floor % 2 = 0) then q.floor else q.floor + 1 := by
  unfold nearI
  simp only [cmpR_lt, cmpR_eq, half]
theorem rl_floor {q : Rat} : rl ((q.floor : Int) : Rat) ≤ lh q.num.natAbs + 1 := by
  have h := rl_int q.floor
  rw [Rat.floor_def] at h ⊢
  have h1 := lh_mono (Int.natAbs_ediv_le_natAbs q.num (q.den : Int))
  omega
section
variable {a : Rat} {d1 d2 : IV}
theorem f87_ok (J : Keep) (hd : DOk a d1 d2) (ha : rl a < 2 ^ 34) : C J 87 [rqd a d1 d2] (zh a.floor) := by
  refine fn_ok Tryz.func87 rfl rfl rfl ?_
  unfold rl at ha
  have c1 := f166_ok J (x := a.num) (d := a.den) (den_pos a) (by omega) (by omega)
  rw [← Rat.floor_def] at c1
  repeat (first | (refine W.RS (by kernel_rfl) ?_; conv => whnf) | (refine W.ret ?_; conv => whnf) | (refine ⟨_, f153_ok J hd, ?_⟩; conv => whnf) | (refine ⟨_, c1, ?_⟩; conv => whnf) | (refine ⟨rfl, ?_⟩; conv => whnf))
  rfl
set_option maxHeartbeats 4000000 in
theorem f168_ok (J : Keep) (hd : DOk a d1 d2) (ha : rl a < 2 ^ 30) : C J 168 [rqd a d1 d2] (zh (nearI a)) := by
  have hf := rl_floor (q := a)
  have ha' : lh a.num.natAbs ≤ rl a := by unfold rl; omega
  have hff : lh a.floor.natAbs < 2 ^ 31 := by
    have : lh a.floor.natAbs ≤ rl ((a.floor : Int) : Rat) := by unfold rl; exact Nat.le_add_right _ _
    omega
  have hf1 : lh (a.floor + 1).natAbs < 2 ^ 32 := by
    have h1 := lh_mono (Int.natAbs_add_le a.floor 1)
    have h2 := lh_add a.floor.natAbs (1 : Int).natAbs
    have h3 : lh (1 : Int).natAbs ≤ 1 := lh_one
    omega
  have r1 := rl_int a.floor
  have r2 := rl_int (a.floor + 1)
  have c1 := f87_ok J hd (by omega)
  have c2 := f174_ok J (x := a.floor) (y := 1) (by omega) (by have := lh_one; show lh 1 < _; omega)
  have c3 := f82_ok J a.floor
  have c4 := f64_ok J (a := a) (b := ((a.floor : Int) : Rat)) hd (DOk.rr _) (by omega) (by omega)
  have c5 := f82_ok J (a.floor + 1)
  have c6 := f64_ok J (a := ((a.floor + 1 : Int) : Rat)) (b := a) (DOk.rr _) hd (by omega) (by omega)
  have s1 := rl_add a (-((a.floor : Int) : Rat))
  have s2 := rl_add ((a.floor + 1 : Int) : Rat) (-a)
  rw [rl_neg, ← Rat.sub_eq_add_neg] at s1 s2
  have c7 := f27_ok J (a := a - ((a.floor : Int) : Rat)) (b := ((a.floor + 1 : Int) : Rat) - a) (DOk.rr _) (DOk.rr _) (by omega) (by omega)
  have hn := near_ref a ((a.floor : Int) : Rat)
  rw [show ((a.floor + 1 : Int) : Rat) - a = ((a.floor : Int) : Rat) + 1 - a by rw [Rat.intCast_add]; rfl] at c7 c6
  rw [hn] at c7
  have l2 : lh 2 ≤ 1 := lh_le (by decide)
  have c8 := f166_ok J (x := a.floor) (d := 2) (by decide) (by omega) (by omega)
  have hnc := near_c a
  obtain ⟨c, hc⟩ : ∃ c, cmpR (a - ((a.floor : Int) : Rat)) (mkRat 1 2) = c := ⟨_, rfl⟩
  rw [hc] at c7 hnc
  have hcr : -1 ≤ c ∧ c ≤ 1 := by rw [← hc]; exact cmpR_range _ _
  obtain ⟨F, hF⟩ : ∃ F, a.floor = F := ⟨_, rfl⟩
  simp only [hF] at hf hff hf1 r1 r2 c1 c2 c3 c4 c5 c6 c7 c8 hnc s1 s2
  have h2c : ((2 : Nat) : Int) = 2 := rfl
  refine fn_ok Tryz.func168 rfl rfl rfl ?_
  have i1 := f139_ok J (z := 1) (by omega) (by omega)
  have i2 := f139_ok J (z := 2) (by omega) (by omega)
  rw [h2c] at c8
  by_cases h1 : c < 0
  · rw [if_pos (.inl h1)] at hnc
    rw [hnc]
    repeat (first | (refine W.RS (by kernel_rfl) ?_; conv => whnf) | (refine W.S ?_) | (refine W.ret ?_; conv => whnf) | (refine W.condT rfl ?_) | (refine ⟨_, c1, ?_⟩; conv => whnf) | (refine ⟨_, i1, ?_⟩; conv => whnf) | (refine ⟨_, i2, ?_⟩; conv => whnf) | (refine ⟨_, c2, ?_⟩; conv => whnf) | (refine ⟨_, c3, ?_⟩; conv => whnf) | (refine ⟨_, c4, ?_⟩; conv => whnf) | (refine ⟨_, c5, ?_⟩; conv => whnf) | (refine ⟨_, c6, ?_⟩; conv => whnf) | (refine ⟨_, c7, ?_⟩; conv => whnf) | (refine ⟨_, c8, ?_⟩; conv => whnf) | (refine ⟨true, decide_eq_true (by omega), ?_⟩; conv => whnf) | (refine ⟨rfl, ?_⟩; conv => whnf) | (refine ⟨_, fun _ => rfl, fun h => absurd h.symm Bool.false_ne_true, ?_⟩; conv => whnf))
    rfl
  · by_cases h2 : c = 0
    · by_cases h3 : F % 2 = 0
      · have hs : (F % 2).sign = 0 := by rw [h3]; rfl
        rw [if_pos (.inr ⟨h2, h3⟩)] at hnc
        rw [hnc]
        repeat (first | (refine W.RS (by kernel_rfl) ?_; conv => whnf) | (refine W.S ?_) | (refine W.ret ?_; conv => whnf) | (refine W.condT rfl ?_) | (refine ⟨_, c1, ?_⟩; conv => whnf) | (refine ⟨_, i1, ?_⟩; conv => whnf) | (refine ⟨_, i2, ?_⟩; conv => whnf) | (refine ⟨_, c2, ?_⟩; conv => whnf) | (refine ⟨_, c3, ?_⟩; conv => whnf) | (refine ⟨_, c4, ?_⟩; conv => whnf) | (refine ⟨_, c5, ?_⟩; conv => whnf) | (refine ⟨_, c6, ?_⟩; conv => whnf) | (refine ⟨_, c7, ?_⟩; conv => whnf) | (refine ⟨_, c8, ?_⟩; conv => whnf) | (refine ⟨true, decide_eq_true (by omega), ?_⟩; conv => whnf) | (refine ⟨false, decide_eq_false (by omega), ?_⟩; conv => whnf) | (refine ⟨rfl, ?_⟩; conv => whnf) | (refine ⟨_, fun h => absurd h Bool.false_ne_true, fun _ => rfl, ?_⟩; conv => whnf) | (refine ⟨_, fun _ => rfl, fun h => absurd h.symm Bool.false_ne_true, ?_⟩; conv => whnf))
        rfl
      · have hs : (F % 2).sign = 1 := by rw [show F % 2 = 1 by omega]; rfl
        rw [if_neg (fun h => h.elim h1 (fun h => h3 h.2))] at hnc
        rw [hnc]
        repeat (first | (refine W.RS (by kernel_rfl) ?_; conv => whnf) | (refine W.S ?_) | (refine W.ret ?_; conv => whnf) | (refine W.skip ?_; conv => whnf) | (refine W.condF rfl ?_) | (refine ⟨_, c1, ?_⟩; conv => whnf) | (refine ⟨_, i1, ?_⟩; conv => whnf) | (refine ⟨_, i2, ?_⟩; conv => whnf) | (refine ⟨_, c2, ?_⟩; conv => whnf) | (refine ⟨_, c3, ?_⟩; conv => whnf) | (refine ⟨_, c4, ?_⟩; conv => whnf) | (refine ⟨_, c5, ?_⟩; conv => whnf) | (refine ⟨_, c6, ?_⟩; conv => whnf) | (refine ⟨_, c7, ?_⟩; conv => whnf) | (refine ⟨_, c8, ?_⟩; conv => whnf) | (refine ⟨true, decide_eq_true (by omega), ?_⟩; conv => whnf) | (refine ⟨false, decide_eq_false (by omega), ?_⟩; conv => whnf) | (refine ⟨rfl, ?_⟩; conv => whnf) | (refine ⟨_, fun h => absurd h Bool.false_ne_true, fun _ => rfl, ?_⟩; conv => whnf) | (refine ⟨_, fun _ => rfl, fun h => absurd h.symm Bool.false_ne_true, ?_⟩; conv => whnf))
        rfl
    · rw [if_neg (fun h => h.elim h1 (fun h => h2 h.1))] at hnc
      rw [hnc]
      repeat (first | (refine W.RS (by kernel_rfl) ?_; conv => whnf) | (refine W.S ?_) | (refine W.ret ?_; conv => whnf) | (refine W.skip ?_; conv => whnf) | (refine W.condF rfl ?_) | (refine ⟨_, c1, ?_⟩; conv => whnf) | (refine ⟨_, i1, ?_⟩; conv => whnf) | (refine ⟨_, i2, ?_⟩; conv => whnf) | (refine ⟨_, c2, ?_⟩; conv => whnf) | (refine ⟨_, c3, ?_⟩; conv => whnf) | (refine ⟨_, c4, ?_⟩; conv => whnf) | (refine ⟨_, c5, ?_⟩; conv => whnf) | (refine ⟨_, c6, ?_⟩; conv => whnf) | (refine ⟨_, c7, ?_⟩; conv => whnf) | (refine ⟨_, c8, ?_⟩; conv => whnf) | (refine ⟨false, decide_eq_false (by omega), ?_⟩; conv => whnf) | (refine ⟨rfl, ?_⟩; conv => whnf) | (refine ⟨_, fun h => absurd h Bool.false_ne_true, fun _ => rfl, ?_⟩; conv => whnf))
      rfl
end
end Go.Proofs.Fl
namespace Go.Proofs.Fl
open Go.RowKit Go.Proofs.Dig
attribute [local irreducible] IntKind.wrap PureC MutC MakC IterC
theorem floor_mk {n : Int} {d : Nat} (hd : 0 < d) : (mkRat n d).floor = n / (d : Int) := by
  have key : ∀ z : Int, (mkRat n d).floor < z ↔ n / (d : Int) < z := by
    intro z
    have hdr : (0 : Rat) < (d : Rat) := by
      have : ((0 : Int) : Rat) < ((d : Int) : Rat) := Rat.intCast_lt_intCast.2 (by omega)
      exact this
    rw [Rat.floor_lt_iff, Rat.mkRat_eq_div, Rat.div_lt_iff hdr, Int.ediv_lt_iff_lt_mul (by omega)]
    have : (z : Rat) * (d : Rat) = ((z * (d : Int) : Int) : Rat) := by rw [Rat.intCast_mul]; rfl
    rw [this, Rat.intCast_lt_intCast]
  have h1 := key ((mkRat n d).floor + 1)
  have h2 := key (n / (d : Int) + 1)
  omega
theorem mul_nat (q : Rat) (p : Nat) : q * (((p : Nat) : Int) : Rat) = mkRat (q.num * (p : Int)) q.den := by
  rw [Rat.mul_def']
  show mkRat (q.num * (p : Int)) (q.den * 1) = _
  rw [Nat.mul_one]
theorem mk_eq (z : Int) (p : Nat) : mkRat z p = (z : Rat) * mkRat 1 p := by
  rw [Rat.mkRat_eq_div, Rat.mkRat_eq_div]
  show (z : Rat) / ((p : Nat) : Rat) = (z : Rat) * ((1 : Rat) / ((p : Nat) : Rat))
  grind
section
variable {a b : Rat} {d1 d2 e1 e2 : IV}
theorem f47_ok (J : Keep) (k : Int) : C J 47 [.int .i64 k] (rr (mkRat 1 (gk k))) := by
  refine fn_ok Tryz.func47 rfl rfl rfl ?_
  obtain ⟨n, hn⟩ : ∃ n, intoN k 256 = n := ⟨_, rfl⟩
  have hn1 : n ≤ 256 := by rw [← hn]; unfold intoN; omega
  have c0 := f159_ok J k 256
  unfold gk
  have l2 : lh 2 ≤ 1 := lh_le (by decide)
  have m1 := Nat.mul_le_mul (show n + 1 ≤ 257 by omega) l2
  have c2 := f165_ok J (x := 2) (n := n) (by omega) (by show (n + 1) * lh 2 < _; omega)
  rw [hn] at c0 ⊢
  have l3 := lh_pow 2 n
  have m3 := Nat.mul_le_mul hn1 l2
  have l4 := lh_one
  have c3 := f148_at J (z := 1) (d := 2 ^ n) (Nat.pow_pos (by decide)) (by show lh 1 < _; omega) (by omega) (.inl ⟨rfl, rfl⟩)
  rw [show (2 : Int) ^ n = ((2 ^ n : Nat) : Int) by rw [Int.natCast_pow]; rfl] at c2
  repeat (first | (refine W.RS (by kernel_rfl) ?_; conv => whnf) | (refine W.ret ?_; conv => whnf) | (refine ⟨_, f139_ok J (z := 1) (by omega) (by omega), ?_⟩; conv => whnf) | (refine ⟨_, f139_ok J (z := 2) (by omega) (by omega), ?_⟩; conv => whnf) | (refine ⟨_, c0, ?_⟩; conv => whnf) | (refine ⟨_, c2, ?_⟩; conv => whnf) | (refine ⟨_, c3, ?_⟩; conv => whnf))
  rfl
theorem f38_ok (J : Keep) (hd : DOk a d1 d2) (ha : rl a < 2 ^ 30) (k : Int) : C J 38 [rqd a d1 d2, .int .i64 k] (rr (((a * (((gk k : Nat) : Int) : Rat)).floor : Rat) * mkRat 1 (gk k))) := by
  refine fn_ok Tryz.func38 rfl rfl rfl ?_
  rw [← mk_eq, mul_nat, floor_mk (den_pos a)]
  obtain ⟨n, hn⟩ : ∃ n, intoN k 256 = n := ⟨_, rfl⟩
  have hn1 : n ≤ 256 := by rw [← hn]; unfold intoN; omega
  have c0 := f159_ok J k 256
  unfold gk
  have l2 : lh 2 ≤ 1 := lh_le (by decide)
  have m1 := Nat.mul_le_mul (show n + 1 ≤ 257 by omega) l2
  have c2 := f165_ok J (x := 2) (n := n) (by omega) (by show (n + 1) * lh 2 < _; omega)
  rw [hn] at c0 ⊢
  have l3 := lh_pow 2 n
  have m3 := Nat.mul_le_mul hn1 l2
  have l4 := lh_one
  rw [show (2 : Int) ^ n = ((2 ^ n : Nat) : Int) by rw [Int.natCast_pow]; rfl] at c2
  obtain ⟨p, hp⟩ : ∃ p, 2 ^ n = p := ⟨_, rfl⟩
  have hp0 : 0 < p := by rw [← hp]; exact Nat.pow_pos (by decide)
  rw [hp] at c2 l3 ⊢
  unfold rl at ha
  have c3 := f146_ok J (x := a.num) (y := (p : Int)) (by omega) (by rw [lhi]; omega)
  have l5 := lh_mul a.num.natAbs p
  have e5 : (a.num * (p : Int)).natAbs = a.num.natAbs * p := by rw [Int.natAbs_mul, Int.natAbs_natCast]
  have c4 := f166_ok J (x := a.num * (p : Int)) (d := a.den) (den_pos a) (by rw [e5]; omega) (by omega)
  have l6 := lh_mono (Int.natAbs_ediv_le_natAbs (a.num * (p : Int)) (a.den : Int))
  rw [e5] at l6
  have c5 := f148_at J (z := a.num * (p : Int) / (a.den : Int)) (d := p) hp0 (by omega) (by omega) (.inl ⟨rfl, rfl⟩)
  repeat (first | (refine W.RS (by kernel_rfl) ?_; conv => whnf) | (refine W.ret ?_; conv => whnf) | (refine ⟨_, f139_ok J (z := 2) (by omega) (by omega), ?_⟩; conv => whnf) | (refine ⟨_, c0, ?_⟩; conv => whnf) | (refine ⟨_, c2, ?_⟩; conv => whnf) | (refine ⟨_, f153_ok J hd, ?_⟩; conv => whnf) | (refine ⟨_, c3, ?_⟩; conv => whnf) | (refine ⟨_, c4, ?_⟩; conv => whnf) | (refine ⟨_, c5, ?_⟩; conv => whnf) | (refine ⟨rfl, ?_⟩; conv => whnf))
  rfl
theorem f39_ok (J : Keep) (hd : DOk a d1 d2) (ha : rl a < 2 ^ 30) (k : Int) : C J 39 [rqd a d1 d2, .int .i64 k] (rr (-((-(a * (((gk k : Nat) : Int) : Rat))).floor : Rat) * mkRat 1 (gk k))) := by
  refine fn_ok Tryz.func39 rfl rfl rfl ?_
  have c1 := f38_ok J (a := -a) (DOk.rr _) (by rw [rl_neg]; exact ha) k
  rw [Rat.neg_mul] at c1
  rw [Rat.neg_mul]
  repeat (first | (refine W.RS (by kernel_rfl) ?_; conv => whnf) | (refine W.ret ?_; conv => whnf) | (refine ⟨_, f67_ok J hd, ?_⟩; conv => whnf) | (refine ⟨_, c1, ?_⟩; conv => whnf) | (refine ⟨_, f67_ok J (DOk.rr _), ?_⟩; conv => whnf))
  rfl
theorem gk_pos (k : Int) : 0 < gk k := Nat.pow_pos (by decide)
theorem lh_gk (k : Int) : lh (gk k) ≤ 257 := by
  unfold gk
  have l2 : lh 2 ≤ 1 := lh_le (by decide)
  have hn1 : intoN k 256 ≤ 256 := by unfold intoN; omega
  have l3 := lh_pow 2 (intoN k 256)
  have m3 := Nat.mul_le_mul hn1 l2
  omega
theorem rl_fine (k : Int) : rl (mkRat 1 (gk k)) ≤ 258 := by
  have h := rl_ratio (z := 1) (d := gk k) (gk_pos k)
  have l := lh_gk k
  have l4 : lh (1 : Int).natAbs ≤ 1 := lh_one
  omega
theorem rl_near (q : Rat) : rl ((nearI q : Int) : Rat) ≤ lh q.num.natAbs + 4 := by
  have h := rl_floor (q := q)
  have hff : lh q.floor.natAbs ≤ lh q.num.natAbs + 1 := by
    have : lh q.floor.natAbs ≤ rl ((q.floor : Int) : Rat) := by unfold rl; exact Nat.le_add_right _ _
    omega
  have h1 := lh_mono (Int.natAbs_add_le q.floor 1)
  have h2 := lh_add q.floor.natAbs (1 : Int).natAbs
  have h3 : lh (1 : Int).natAbs ≤ 1 := lh_one
  have r1 := rl_int q.floor
  have r2 := rl_int (q.floor + 1)
  unfold nearI
  split <;> omega
theorem fine_ne (k : Int) : mkRat 1 (gk k) ≠ 0 := by
  rw [Rat.mkRat_ne_zero (by have := gk_pos k; omega)]; decide
theorem div_fine (q : Rat) (k : Int) : q / mkRat 1 (gk k) = q * (((gk k : Nat) : Int) : Rat) := by
  have h : ((gk k : Nat) : Rat) ≠ 0 := by
    have h0 := gk_pos k
    intro e
    have : ((gk k : Nat) : Rat) = ((0 : Nat) : Rat) := e
    have := Rat.natCast_inj.1 this
    omega
  rw [Rat.mkRat_eq_div]
  show q / ((1 : Rat) / ((gk k : Nat) : Rat)) = q * ((gk k : Nat) : Rat)
  generalize ((gk k : Nat) : Rat) = g at h
  grind
theorem rl_gk (k : Int) : rl (((gk k : Nat) : Int) : Rat) ≤ 258 := by
  have := rl_int ((gk k : Nat) : Int)
  rw [lhi] at this
  have := lh_gk k
  omega
theorem f43_ok (J : Keep) (hd : DOk a d1 d2) (ha : rl a < 2 ^ 28) (k : Int) : C J 43 [rqd a d1 d2, .int .i64 k] (rr (((nearI (a * (((gk k : Nat) : Int) : Rat)) : Int) : Rat) * mkRat 1 (gk k))) := by
  refine fn_ok Tryz.func43 rfl rfl rfl ?_
  have r1 := rl_fine k
  have c2 := f60_ok J hd (DOk.rr (mkRat 1 (gk k))) (by omega) (by omega) (fine_ne k)
  rw [div_fine] at c2
  have r2 := rl_mul a (((gk k : Nat) : Int) : Rat)
  have r3 := rl_gk k
  have c3 := f168_ok J (DOk.rr (a * (((gk k : Nat) : Int) : Rat))) (by omega)
  have r4 := rl_near (a * (((gk k : Nat) : Int) : Rat))
  have r5 : lh (a * (((gk k : Nat) : Int) : Rat)).num.natAbs ≤ rl (a * (((gk k : Nat) : Int) : Rat)) := by unfold rl; omega
  obtain ⟨z, hz⟩ : ∃ z, nearI (a * (((gk k : Nat) : Int) : Rat)) = z := ⟨_, rfl⟩
  rw [hz] at c3 r4 ⊢
  have c4 := f65_ok J (a := (z : Rat)) (b := mkRat 1 (gk k)) (DOk.rr _) (DOk.rr _) (by omega) (by omega)
  repeat (first | (refine W.RS (by kernel_rfl) ?_; conv => whnf) | (refine W.ret ?_; conv => whnf) | (refine ⟨_, f47_ok J k, ?_⟩; conv => whnf) | (refine ⟨_, c2, ?_⟩; conv => whnf) | (refine ⟨_, c3, ?_⟩; conv => whnf) | (refine ⟨_, f82_ok J z, ?_⟩; conv => whnf) | (refine ⟨_, c4, ?_⟩; conv => whnf) | (refine ⟨rfl, ?_⟩; conv => whnf))
  rfl
end
end Go.Proofs.Fl
namespace Go.Proofs.Fl
open Go.RowKit Go.Proofs.Dig
attribute [local irreducible] IntKind.wrap PureC MutC MakC IterC
theorem padW_eq : ∀ (w n : Nat), 0 < w → n < 10 ^ w → padW w n = List.replicate (w - (decN n).length) 48 ++ decN n ∧ (decN n).length ≤ w
  | 0, _, h, _ => absurd h (by omega)
  | 1, n, _, h => by
    have hn : n < 10 := by simpa using h
    rw [decN_small hn]
    refine ⟨?_, by simp⟩
    show padW 0 (n / 10) ++ [dig8 (n % 10)] = _
    rw [Nat.mod_eq_of_lt hn]; rfl
  | w + 2, n, _, h => by
    show padW (w + 1) (n / 10) ++ [dig8 (n % 10)] = _ ∧ _
    by_cases hn : n < 10
    · rw [decN_small hn, Nat.mod_eq_of_lt hn, Nat.div_eq_of_lt hn, padW_zero]
      exact ⟨by simp, Nat.succ_le_succ (Nat.zero_le _)⟩
    · have hq : n / 10 < 10 ^ (w + 1) := by
        rw [Nat.pow_succ] at h
        exact Nat.div_lt_of_lt_mul (by omega)
      obtain ⟨h1, h2⟩ := padW_eq (w + 1) (n / 10) (by omega) hq
      rw [decN_big (by omega), h1]
      refine ⟨?_, by simp; omega⟩
      rw [List.length_append, List.length_singleton, List.append_assoc, show w + 2 - ((decN (n / 10)).length + 1) = w + 1 - (decN (n / 10)).length by omega]
theorem decN_len {n w : Nat} (hw : 0 < w) (h : n < 10 ^ w) : (decN n).length ≤ w := (padW_eq w n hw h).2
theorem itoa_dec (n : Nat) : Lib.itoa ((n : Nat) : Int) = decN n := by
  unfold Lib.itoa
  rw [if_neg (by omega), Int.toNat_natCast]
  induction n using Nat.strongRecOn with
  | _ n ih =>
    rw [Lib.decDigits]
    split
    · rename_i h; rw [decN_small h]; rfl
    · rename_i h; rw [decN_big (by omega), ih (n / 10) (by omega)]; rfl
theorem repeat_zero : ∀ c, Lib.repeatL [48] c = List.replicate c 48
  | 0 => rfl
  | c + 1 => by rw [List.replicate_succ, ← repeat_zero c]; rfl
def isBld : Bx → Bool
  | .bld _ => true
  | _ => false
theorem one_tb {m : List (Nat × Bx)} {g : Nat} (h : m.all (fun p => Nat.beq p.1 g || !isBld p.2) = true) : ∀ g' s', tbB m g' = some (.bld s') → g' = g := by
  intro g' s' hg
  induction m with
  | nil => cases hg
  | cons p m ih =>
    simp only [List.all_cons, Bool.and_eq_true] at h
    simp only [tbB] at hg
    cases hb : Nat.beq g' p.1 with
    | false => rw [hb] at hg; exact ih h.2 hg
    | true =>
      rw [hb] at hg
      simp only [cond_true, Option.some.injEq] at hg
      rw [hg] at h
      simp only [isBld, Bool.not_true, Bool.or_false] at h
      rw [Nat.eq_of_beq_eq_true hb, Nat.eq_of_beq_eq_true h.1]
theorem one_upd {bx : Nat → Option Bx} {g : Nat} {b : Option Bx} (h : ∀ g' s', bx g' = some (.bld s') → g' = g) : ∀ g' s', upd bx g b g' = some (.bld s') → g' = g := by
  intro g' s' hg
  by_cases e : g' = g
  · exact e
  · rw [upd_other _ _ _ e] at hg; exact h g' s' hg
theorem LibI.any {J : Keep} (L : LibI J) : LibI J.any := ⟨L.pow10, L.maxLen⟩
def preT (ds : List Nat) (k : Nat) : List UInt8 := if k = 0 then [] else decN (hiN ds k)
theorem preT_len {ds : List Nat} (hd : Dg B9 ds) {k : Nat} (hk : k ≤ ds.length) : (preT ds k).length ≤ 9 * k := by
  unfold preT
  split
  · simp
  · refine decN_len (by omega) ?_
    have := nv_lt (hd.drop (ds.length - k))
    rw [List.length_drop, show ds.length - (ds.length - k) = k by omega] at this
    have e : B9 ^ k = 10 ^ (9 * k) := by rw [Nat.pow_mul]
    rw [← e]; exact this
theorem preT_one {ds : List Nat} (hk : 0 < ds.length) : preT ds (0 + 1) = decN (ds.getD (ds.length - 1 - 0) 0) := by
  unfold preT
  rw [if_neg (by omega), hiN_succ hk, hiN_zero, Nat.zero_mul, Nat.zero_add]
theorem preT_succ {ds : List Nat} (hd : Ok B9 ds) {k : Nat} (h0 : 0 < k) (hk : k < ds.length) : preT ds (k + 1) = preT ds k ++ padW 9 (ds.getD (ds.length - 1 - k) 0) := by
  unfold preT
  rw [if_neg (by omega), if_neg (by omega), hiN_succ hk]
  have h1 : 0 < hiN ds k := by
    unfold hiN
    refine nv_pos (by decide) (hd.nm.drop _) (fun e => ?_)
    have := congrArg List.length e
    simp at this; omega
  exact decN_split 9 h1 (hd.dg.getD (by decide) _)
set_option maxHeartbeats 1000000 in
theorem f157_ds {J : Keep} (L : LibI J) {ds : List Nat} (hd : Ok B9 ds) (hl : ds.length < 2 ^ 43) : C J 157 [mgI ds] (.str (decN (nv B9 ds))) := by
  refine fn_ok (J := J.top) Tryz.func157 rfl rfl rfl ?_
  have lm : (ds.map u32).length = ds.length := by simp
  by_cases h0 : ds = []
  · subst h0
    repeat (first | (refine W.RS (by kernel_rfl) ?_; conv => whnf) | (refine W.S ?_) | (refine W.ret ?_; conv => whnf) | (refine W.condT rfl ?_) | (refine ⟨_, f163_ok J [], ?_⟩; conv => whnf))
    show IV.str [48] = IV.str (decN 0)
    rw [decN_small (by decide)]; rfl
  · have hp : 0 < ds.length := List.length_pos_iff.2 h0
    have c0 := f163_ok J (ds.map u32)
    rw [show (((ds.map u32).length : Int) == 0) = false by rw [lm]; exact beq_eq_false_iff_ne.2 (by omega)] at c0
    repeat (first | (refine W.S ?_; refine W.newBld rfl rfl rfl rfl rfl ?_; conv => whnf) | (refine W.RS (by kernel_rfl) ?_; conv => whnf) | (refine W.S ?_) | (refine W.block ?_) | (refine W.skip ?_; conv => whnf) | (refine W.condF rfl ?_) | (refine ⟨_, c0, ?_⟩; conv => whnf) | (refine ⟨224, [.sl (ds.map u32)], f192_ok J _, rfl, ?_⟩; conv => whnf))
    refine W.weak (σ' := mkA [(1, .ptr pinId 0), (3, .ptr (pinId + 1) 0), (11, .clo 224 [7])] [(pinId, .var (mgI ds)), (pinId + 1, .bld []), (7, .var (.sl (ds.map u32)))] 50) (Wk.tab [(pinId, 0), (pinId + 1, 4)] ⟨⟨rfl, rfl⟩, ⟨rfl, rfl⟩, ⟨rfl, rfl⟩, trivial⟩ ⟨rfl, rfl, rfl, trivial⟩ rfl) ?_
    refine W.range (f224_ok J (show ds.length < 2 ^ 60 by omega)) [pinId, pinId + 1] [(1, .ptr pinId 0), (3, .ptr (pinId + 1) 0)] (fun k => [(pinId, .var (mgI ds)), (pinId + 1, .bld (preT ds k))]) 60 rfl ⟨rfl, trivial⟩ (by simp) rfl back_two (fun _ => rfl) (fun _ => by intro p hp; simp at hp; rcases hp with rfl | rfl <;> rfl) rfl ⟨rfl, rfl, trivial⟩ rfl ⟨rfl, rfl, trivial⟩ rfl rfl (fun k hk => ?_) ?_
    · rw [back_at hk]
      rw [back_len] at hk
      show W J.any _ _ ⟨putsL (tbS [(1, .ptr pinId 0), (3, .ptr (pinId + 1) 0)]) [12, 13] [.int .i64 ((ds.length - 1 - k : Nat) : Int), u32 (ds.getD (ds.length - 1 - k) 0)], tbB [(pinId, .var (mgI ds)), (pinId + 1, .bld (preT ds k))], 60⟩ _
      have hlen := preT_len hd.dg (k := k) (by omega)
      have h3 := hd.dg.getD (by decide) (ds.length - 1 - k)
      have hpad := padW_eq 9 (ds.getD (ds.length - 1 - k) 0) (by decide) h3
      have hone := preT_one hp
      have hsucc := fun h0 => preT_succ hd (k := k) h0 hk
      obtain ⟨x, hx⟩ : ∃ x, ds.getD (ds.length - 1 - k) 0 = x := ⟨_, rfl⟩
      rw [hx] at h3 hpad hsucc ⊢
      have h3 : x < 1000000000 := h3
      have c1 := f198_ok (J := J.any) L.any (n := ((x : Nat) : Int)) (by omega) (by omega)
      rw [itoa_dec] at c1
      have hdl := hpad.2
      have c2 := f158_ok J (s := [48]) (c := 9 - (decN x).length) (by simp; omega) (by omega)
      rw [repeat_zero, show ((9 - (decN x).length : Nat) : Int) = 9 - ((decN x).length : Int) by omega] at c2
      by_cases hk0 : 0 < k
      · have he := hsucc hk0
        rw [hpad.1, ← List.append_assoc] at he
        have w1 := bld199 (s := preT ds k) (t := List.replicate (9 - (decN x).length) 48) (by simp; omega)
        have w2 := bld199 (s := preT ds k ++ List.replicate (9 - (decN x).length) 48) (t := decN x) (by simp; omega)
        rw [← he] at w2
        have o1 := one_tb (m := [(pinId, .var (mgI ds)), (pinId + 1, .bld (preT ds k))]) (g := pinId + 1) rfl
        repeat (first | (refine W.build 4 rfl rfl rfl rfl ?_; conv => whnf) | (refine W.build 1 rfl rfl rfl rfl ?_; conv => whnf) | (refine W.RS (by kernel_rfl) ?_; conv => whnf) | (refine W.R (by kernel_rfl) ?_; conv => whnf) | (refine W.S ?_) | (refine W.block ?_) | (refine W.condT rfl ?_) | (refine ⟨_, c1, ?_⟩; conv => whnf) | (refine ⟨_, c2, ?_⟩; conv => whnf) | (refine ⟨_, _, _, rfl, o1, w1, ?_⟩; conv => whnf) | (refine ⟨rfl, _, w64 (by omega), ?_⟩; conv => whnf) | (refine ⟨_, w64 (by omega), ?_⟩; conv => whnf) | (refine ⟨true, decide_eq_true (by omega), ?_⟩; conv => whnf) | (refine ⟨_, rfl, ?_⟩; conv => whnf) | (refine ⟨rfl, ?_⟩; conv => whnf))
        repeat (first | (refine ⟨_, _, _, rfl, one_upd o1, w2, ?_⟩; conv => whnf) | (refine ⟨rfl, ?_⟩; conv => whnf))
        exact trivial
      · have e0 : k = 0 := by omega
        subst e0
        rw [hx] at hone
        have hpe : preT ds 0 = [] := rfl
        have w2 : BldC Tryz.prog 199 [] [.str (decN x)] (preT ds (0 + 1)) (.tup [.int .i64 ((decN x).length : Nat), .nil 0]) := by
          rw [hone]; exact bld199 (s := []) (t := decN x) (by simp; omega)
        have o1 := one_tb (m := [(pinId, .var (mgI ds)), (pinId + 1, .bld [])]) (g := pinId + 1) rfl
        rw [hpe]
        repeat (first | (refine W.build 1 rfl rfl rfl rfl ?_; conv => whnf) | (refine W.RS (by kernel_rfl) ?_; conv => whnf) | (refine W.R (by kernel_rfl) ?_; conv => whnf) | (refine W.S ?_) | (refine W.block ?_) | (refine W.skip ?_; conv => whnf) | (refine W.condF rfl ?_) | (refine ⟨_, c1, ?_⟩; conv => whnf) | (refine ⟨_, _, _, rfl, o1, w2, ?_⟩; conv => whnf) | (refine ⟨rfl, _, w64 (by omega), ?_⟩; conv => whnf) | (refine ⟨_, w64 (by omega), ?_⟩; conv => whnf) | (refine ⟨false, decide_eq_false (by omega), ?_⟩; conv => whnf) | (refine ⟨_, rfl, ?_⟩; conv => whnf) | (refine ⟨rfl, ?_⟩; conv => whnf))
        exact trivial
    · rw [back_len]
      have hall : preT ds ds.length = decN (nv B9 ds) := by
        unfold preT
        rw [if_neg (by omega), hiN_all]
      rw [hall]
      have o1 := one_tb (m := [(pinId, .var (mgI ds)), (pinId + 1, .bld (decN (nv B9 ds)))]) (g := pinId + 1) rfl
      have w3 := bld200 (decN_ne (nv B9 ds))
      repeat (first | (refine W.S ?_; refine W.build 0 rfl rfl rfl rfl ?_; conv => whnf) | (refine W.ret ?_; conv => whnf) | (refine ⟨_, _, _, rfl, o1, w3, ?_⟩; conv => whnf))
      rfl
theorem f157_ok {J : Keep} (L : LibI J) {n : Nat} (h : ln n < 2 ^ 43) : C J 157 [mag n] (.str (decN n)) := by
  have := f157_ds L (dg_ok n) h
  rwa [dg_nv] at this
end Go.Proofs.Fl
namespace Go.Proofs.Fl
open Go.RowKit Go.Proofs.Dig
attribute [local irreducible] IntKind.wrap PureC MutC MakC IterC
def qtext (q : Rat) : List UInt8 := if q.den = 1 then ztext q.num else ztext q.num ++ [47] ++ decN q.den
theorem decN_ln (n : Nat) : (decN n).length ≤ 9 * ln n + 1 := by
  refine decN_len (by omega) ?_
  have h := lt_ln n
  have e : B9 ^ ln n = 10 ^ (9 * ln n) := by rw [Nat.pow_mul]
  have := Nat.pow_le_pow_right (n := 10) (by decide) (Nat.le_succ (9 * ln n))
  show n < 10 ^ (9 * ln n + 1)
  omega
theorem decN_lh (n : Nat) : (decN n).length ≤ 5 * lh n + 1 := by
  refine decN_len (by omega) ?_
  have h := lt_lh n
  have e : B15 ^ lh n ≤ 10 ^ (5 * lh n) := by rw [Nat.pow_mul]; exact Nat.pow_le_pow_left (by decide) _
  have := Nat.pow_le_pow_right (n := 10) (by decide) (Nat.le_succ (5 * lh n))
  show n < 10 ^ (5 * lh n + 1)
  omega
theorem ztext_nat (n : Nat) : ztext (n : Int) = decN n := by
  unfold ztext
  rw [if_neg (by omega), Int.natAbs_natCast]; rfl
theorem ztext_len (z : Int) : (ztext z).length ≤ (decN z.natAbs).length + 1 := by
  unfold ztext
  split <;> simp <;> omega
theorem f35_ok {J : Keep} (L : LibI J) {q : Rat} (h : qln q < 2 ^ 40) : C J 35 [qr q] (.str (qtext q)) := by
  refine fn_ok Tryz.func35 rfl rfl rfl ?_
  have hq := h
  unfold qln at hq
  have c1 := f157_ok L (n := q.num.natAbs) (by omega)
  have c2 := f157_ok L (n := q.den) (by omega)
  have c3 := f164_q J (q := q) (by omega)
  have l1 := decN_ln q.num.natAbs
  have l2 := decN_ln q.den
  have c4 := f163_ok J ((dg (q.den - 1)).map u32)
  have hz : (((dg (q.den - 1)).map u32).length = 0) ↔ q.den = 1 := by
    have := den_pos q
    rw [List.length_map]
    have h2 := @dg_nil_iff (q.den - 1)
    rw [← List.length_eq_zero_iff] at h2
    omega
  unfold qtext
  by_cases hn : q.num < 0
  · have e1 : ztext q.num = [45] ++ decN q.num.natAbs := by unfold ztext; rw [if_pos hn]
    show W J _ _ ⟨argS [.agg [.sl ((dg q.num.natAbs).map u32), .bool (decide (q.num < 0)), .sl ((dg (q.den - 1)).map u32)]], fun _ => none, 0⟩ _
    rw [decide_eq_true hn]
    unfold qr qd at c3
    rw [decide_eq_true hn] at c3
    by_cases hd : q.den = 1
    · rw [show (((dg (q.den - 1)).map u32).length : Int) == 0 by rw [beq_iff_eq]; have := hz.2 hd; omega] at c4
      rw [if_pos hd, e1]
      repeat (first | (refine W.RS (by kernel_rfl) ?_; conv => whnf) | (refine W.R (by kernel_rfl) ?_; conv => whnf) | (refine W.S ?_) | (refine W.ret ?_; conv => whnf) | (refine W.skip ?_; conv => whnf) | (refine W.condF rfl ?_) | (refine W.condT rfl ?_) | (refine ⟨_, c1, ?_⟩; conv => whnf) | (refine ⟨_, c4, ?_⟩; conv => whnf) | (refine ⟨by simp; omega, ?_⟩; conv => whnf) | (refine ⟨_, rfl, ?_⟩; conv => whnf))
      rfl
    · rw [show ((((dg (q.den - 1)).map u32).length : Int) == 0) = false by rw [beq_eq_false_iff_ne]; intro e; exact hd (hz.1 (by omega))] at c4
      rw [if_neg hd, e1]
      repeat (first | (refine W.RS (by kernel_rfl) ?_; conv => whnf) | (refine W.R (by kernel_rfl) ?_; conv => whnf) | (refine W.S ?_) | (refine W.ret ?_; conv => whnf) | (refine W.condT rfl ?_) | (refine ⟨_, c1, ?_⟩; conv => whnf) | (refine ⟨_, c2, ?_⟩; conv => whnf) | (refine ⟨_, c3, ?_⟩; conv => whnf) | (refine ⟨_, c4, ?_⟩; conv => whnf) | (refine ⟨by simp; omega, ?_⟩; conv => whnf) | (refine ⟨_, rfl, ?_⟩; conv => whnf))
      simp [oneOf]
  · have e1 : ztext q.num = decN q.num.natAbs := by unfold ztext; rw [if_neg hn]; rfl
    show W J _ _ ⟨argS [.agg [.sl ((dg q.num.natAbs).map u32), .bool (decide (q.num < 0)), .sl ((dg (q.den - 1)).map u32)]], fun _ => none, 0⟩ _
    rw [decide_eq_false hn]
    unfold qr qd at c3
    rw [decide_eq_false hn] at c3
    by_cases hd : q.den = 1
    · rw [show (((dg (q.den - 1)).map u32).length : Int) == 0 by rw [beq_iff_eq]; have := hz.2 hd; omega] at c4
      rw [if_pos hd, e1]
      repeat (first | (refine W.RS (by kernel_rfl) ?_; conv => whnf) | (refine W.S ?_) | (refine W.ret ?_; conv => whnf) | (refine W.skip ?_; conv => whnf) | (refine W.condF rfl ?_) | (refine ⟨_, c1, ?_⟩; conv => whnf) | (refine ⟨_, c4, ?_⟩; conv => whnf) | (refine ⟨_, rfl, ?_⟩; conv => whnf))
      rfl
    · rw [show ((((dg (q.den - 1)).map u32).length : Int) == 0) = false by rw [beq_eq_false_iff_ne]; intro e; exact hd (hz.1 (by omega))] at c4
      rw [if_neg hd, e1]
      repeat (first | (refine W.RS (by kernel_rfl) ?_; conv => whnf) | (refine W.R (by kernel_rfl) ?_; conv => whnf) | (refine W.S ?_) | (refine W.ret ?_; conv => whnf) | (refine W.skip ?_; conv => whnf) | (refine W.condF rfl ?_) | (refine W.condT rfl ?_) | (refine ⟨_, c1, ?_⟩; conv => whnf) | (refine ⟨_, c2, ?_⟩; conv => whnf) | (refine ⟨_, c3, ?_⟩; conv => whnf) | (refine ⟨_, c4, ?_⟩; conv => whnf) | (refine ⟨by simp; omega, ?_⟩; conv => whnf) | (refine ⟨_, rfl, ?_⟩; conv => whnf))
      simp [oneOf]
theorem f150_ok (J : Keep) {a : Rat} {d1 d2 : IV} (hd : DOk a d1 d2) (h : rl a < 2 ^ 36) : C J 150 [rqd a d1 d2] (.str (qtext a)) := by
  refine fn_ok Tryz.func150 rfl rfl rfl ?_
  unfold rl at h
  have c1 := f161_ok J (z := a.num) (by omega)
  have c2 := f161_ok J (z := (a.den : Int)) (by rw [lhi]; omega)
  rw [ztext_nat] at c2
  have l1 := ztext_len a.num
  have l2 := decN_lh a.num.natAbs
  have l3 := decN_lh a.den
  unfold qtext
  by_cases hd1 : a.den = 1
  · have e : (decN a.den == [49]) = true := by rw [hd1, decN_small (by decide)]; rfl
    rw [if_pos hd1]
    repeat (first | (refine W.RS (by kernel_rfl) ?_; conv => whnf) | (refine W.S ?_) | (refine W.ret ?_; conv => whnf) | (refine W.condT rfl ?_) | (refine ⟨_, f153_ok J hd, ?_⟩; conv => whnf) | (refine ⟨_, c1, ?_⟩; conv => whnf) | (refine ⟨_, c2, ?_⟩; conv => whnf) | (refine ⟨_, e, ?_⟩; conv => whnf))
    rfl
  · have e : (decN a.den == [49]) = false := by
      rw [beq_eq_false_iff_ne]
      intro h'
      exact hd1 (decN_inj (h'.trans (decN_small (n := 1) (by decide)).symm))
    rw [if_neg hd1]
    repeat (first | (refine W.RS (by kernel_rfl) ?_; conv => whnf) | (refine W.S ?_) | (refine W.ret ?_; conv => whnf) | (refine W.skip ?_; conv => whnf) | (refine W.condF rfl ?_) | (refine ⟨_, f153_ok J hd, ?_⟩; conv => whnf) | (refine ⟨_, c1, ?_⟩; conv => whnf) | (refine ⟨_, c2, ?_⟩; conv => whnf) | (refine ⟨_, e, ?_⟩; conv => whnf) | (refine ⟨by simp; omega, ?_⟩; conv => whnf) | (refine ⟨rfl, ?_⟩; conv => whnf))
    rfl
end Go.Proofs.Fl
namespace Go.Proofs.Fl
open Go.RowKit Go.Proofs.Dig
attribute [local irreducible] IntKind.wrap PureC MutC MakC IterC
def chooseL (b : Int → Bool) : List Rat → Rat
  | [] => 0
  | x :: l => l.foldl (fun m y => if b (cmpR y m) then y else m) x
theorem chooseL_snoc (b : Int → Bool) (l : List Rat) (y : Rat) : chooseL b (l ++ [y]) = if l = [] then y else if b (cmpR y (chooseL b l)) then y else chooseL b l := by
  cases l with
  | nil => rfl
  | cons x l =>
    rw [if_neg (by simp)]
    show (l ++ [y]).foldl _ x = _
    rw [List.foldl_append]; rfl
theorem chooseL_mem (b : Int → Bool) : ∀ (l : List Rat), l ≠ [] → chooseL b l ∈ l
  | [], h => absurd rfl h
  | x :: l, _ => by
    show l.foldl _ x ∈ x :: l
    suffices h : ∀ (l : List Rat) (x : Rat), l.foldl (fun m y => if b (cmpR y m) then y else m) x = x ∨ l.foldl (fun m y => if b (cmpR y m) then y else m) x ∈ l by
      rcases h l x with h | h
      · rw [h]; simp
      · exact List.mem_cons_of_mem _ h
    intro l
    induction l with
    | nil => intro x; exact .inl rfl
    | cons y l ih =>
      intro x
      simp only [List.foldl_cons]
      by_cases hb : b (cmpR y x) = true
      · rw [if_pos hb]
        rcases ih y with h | h
        · rw [h]; exact .inr (by simp)
        · exact .inr (List.mem_cons_of_mem _ h)
      · rw [if_neg hb]
        rcases ih x with h | h
        · exact .inl h
        · exact .inr (List.mem_cons_of_mem _ h)
theorem f176_ok (J : Keep) (c : Int) : C J 176 [.int .i64 c] (.bool (decide (c < 0))) := by
  refine fn_ok Tryz.func176 rfl rfl rfl ?_
  by_cases h : c < 0
  · rw [decide_eq_true h]
    repeat (first | (refine W.RS (by kernel_rfl) ?_; conv => whnf) | (refine W.ret ?_; conv => whnf) | (refine ⟨true, decide_eq_true (by omega), ?_⟩; conv => whnf) | (refine ⟨rfl, ?_⟩; conv => whnf))
    rfl
  · rw [decide_eq_false h]
    repeat (first | (refine W.RS (by kernel_rfl) ?_; conv => whnf) | (refine W.ret ?_; conv => whnf) | (refine ⟨false, decide_eq_false (by omega), ?_⟩; conv => whnf) | (refine ⟨rfl, ?_⟩; conv => whnf))
    rfl
theorem f177_ok (J : Keep) (c : Int) : C J 177 [.int .i64 c] (.bool (decide (c > 0))) := by
  refine fn_ok Tryz.func177 rfl rfl rfl ?_
  by_cases h : c > 0
  · rw [decide_eq_true h]
    repeat (first | (refine W.RS (by kernel_rfl) ?_; conv => whnf) | (refine W.ret ?_; conv => whnf) | (refine ⟨true, decide_eq_true (by omega), ?_⟩; conv => whnf) | (refine ⟨rfl, ?_⟩; conv => whnf))
    rfl
  · rw [decide_eq_false h]
    repeat (first | (refine W.RS (by kernel_rfl) ?_; conv => whnf) | (refine W.ret ?_; conv => whnf) | (refine ⟨false, decide_eq_false (by omega), ?_⟩; conv => whnf) | (refine ⟨rfl, ?_⟩; conv => whnf))
    rfl
theorem varQ {x y : Rat} (h : x = y) : some (Bx.var (qr x)) = some (Bx.var (qr y)) := by rw [h]
theorem varE {x y : IV} (h : x = y) : some (Bx.var x) = some (Bx.var y) := by rw [h]
theorem getq {f : Rat → IV} {l : List Rat} {k : Nat} (h : k < l.length) : (l.map f)[k]? = some (f (l.getD k 0)) := by
  simp [h]
theorem take_snoc {l : List Rat} {k : Nat} (h : k < l.length) : l.take (k + 1) = l.take k ++ [l.getD k 0] := by
  rw [List.take_add_one, List.getElem?_eq_getElem h]
  simp [List.getD, h]
theorem take_ne {l : List Rat} {k : Nat} (h0 : ¬ k = 0) (h : k < l.length) : ¬ l.take k = [] := by
  intro e
  have := congrArg List.length e
  rw [List.length_take, List.length_nil] at this
  omega
theorem getD_mem {l : List Rat} {k : Nat} (h : k < l.length) : l.getD k 0 ∈ l := by
  simp [List.getD, h]
theorem take_mem {l : List Rat} {k : Nat} {x : Rat} (h : x ∈ l.take k) : x ∈ l := List.mem_of_mem_take h
theorem qln_zero : qln 0 ≤ 1 := by
  show ln 0 + ln 1 ≤ 1
  have h0 : ln 0 ≤ 0 := ln_le (by decide)
  rw [ln_one]; omega
theorem chooseL_all {P : Rat → Prop} (b : Int → Bool) {l : List Rat} (h0 : P 0) (h : ∀ x ∈ l, P x) : P (chooseL b l) := by
  by_cases he : l = []
  · subst he; exact h0
  · exact h _ (chooseL_mem b l he)
theorem f175_176 (J : Keep) {b : Int → Bool} (hf : ∀ c, C J 176 [.int .i64 c] (.bool (b c))) {l : List Rat} (hl : l.length < 2 ^ 60) (hq : ∀ x ∈ l, qln x < 2 ^ 38) : C J 175 [.fn 176, .sl (l.map qr)] (qr (chooseL b l)) := by
  refine fn_ok Tryz.func175 rfl rfl rfl ?_
  have lm : (l.map qr).length = l.length := by simp
  repeat (first | (refine W.RS (by kernel_rfl) ?_; conv => whnf) | (refine W.S ?_) | (refine W.block ?_) | (refine ⟨_, rfl, ?_⟩; conv => whnf))
  refine W.loop (G := { k : Nat // k ≤ l.length }) (fun k => mkA [(0, .iv (.fn 176)), (4, .ptr 0 0), (5, .ptr 1 0), (8, .iv (.sl (l.map qr))), (9, .iv (.int .i64 (l.length : Nat))), (10, .iv (.int .i64 (k.1 : Nat)))] [(0, .var (.agg [.sl [], .bool false, .sl []])), (1, .var (qr (chooseL b (l.take k.1))))] 40) (fun k => l.length - k.1) ⟨0, Nat.zero_le _⟩
    (Wk.tab [] ⟨⟨rfl, rfl⟩, ⟨rfl, rfl⟩, ⟨rfl, rfl⟩, ⟨rfl, rfl⟩, ⟨ivEq (by rw [lm]), rfl⟩, ⟨rfl, rfl⟩, trivial⟩ ⟨rfl, varE (by dsimp only; rw [List.take_zero]; exact dg_zero_qr.symm), trivial⟩ rfl) ?_
  rintro ⟨k, hk⟩
  show W J _ _ (mkA [(0, .iv (.fn 176)), (4, .ptr 0 0), (5, .ptr 1 0), (8, .iv (.sl (l.map qr))), (9, .iv (.int .i64 (l.length : Nat))), (10, .iv (.int .i64 (k : Nat)))] [(0, .var (.agg [.sl [], .bool false, .sl []])), (1, .var (qr (chooseL b (l.take k))))] 40) _
  by_cases h : k < l.length
  · have hg := getq (f := qr) h
    have hx := hq _ (getD_mem h)
    have hs := chooseL_snoc b (l.take k) (l.getD k 0)
    rw [← take_snoc h] at hs
    have hm : qln (chooseL b (l.take k)) < 2 ^ 38 := chooseL_all b (P := fun x => qln x < 2 ^ 38) (by have := qln_zero; omega) (fun x hx => hq x (take_mem hx))
    obtain ⟨x, hxe⟩ : ∃ x, l.getD k 0 = x := ⟨_, rfl⟩
    obtain ⟨m, hme⟩ : ∃ m, chooseL b (l.take k) = m := ⟨_, rfl⟩
    rw [hxe] at hg hx hs
    rw [hme] at hm hs
    rw [hme]
    have c1 := f37_ok (J := J) hx hm
    have c2 := hf (cmpR x m)
    by_cases h0 : k = 0
    · subst h0
      rw [if_pos (by simp)] at hs
      repeat (first | (refine W.RS (by kernel_rfl) ?_; conv => whnf) | (refine W.R (by kernel_rfl) ?_; conv => whnf) | (refine W.S ?_) | (refine W.block ?_) | (refine W.skip ?_; conv => whnf) | (refine W.condT rfl ?_) | (refine ⟨0, _, rfl, hg, rfl, ?_⟩; conv => whnf) | (refine ⟨rfl, _, w64 (by omega), ?_⟩; conv => whnf) | (refine ⟨true, decide_eq_true (by omega), ?_⟩; conv => whnf) | (refine ⟨rfl, ?_⟩; conv => whnf) | (refine ⟨_, fun _ => rfl, fun h => absurd h.symm Bool.false_ne_true, ?_⟩; conv => whnf))
      exact ⟨⟨0 + 1, by omega⟩, Wk.tab [] ⟨⟨rfl, rfl⟩, ⟨rfl, rfl⟩, ⟨rfl, rfl⟩, ⟨rfl, rfl⟩, ⟨rfl, rfl⟩, ⟨rfl, rfl⟩, trivial⟩ ⟨rfl, varQ hs.symm, trivial⟩ rfl, by dsimp only; omega⟩
    · rw [if_neg (take_ne h0 h)] at hs
      by_cases hb : b (cmpR x m) = true
      · rw [if_pos hb] at hs
        rw [hb] at c2
        repeat (first | (refine W.RS (by kernel_rfl) ?_; conv => whnf) | (refine W.R (by kernel_rfl) ?_; conv => whnf) | (refine W.S ?_) | (refine W.block ?_) | (refine W.skip ?_; conv => whnf) | (refine W.condT rfl ?_) | (refine ⟨_, c1, ?_⟩; conv => whnf) | (refine ⟨_, c2, ?_⟩; conv => whnf) | (refine ⟨k, _, rfl, hg, rfl, ?_⟩; conv => whnf) | (refine ⟨rfl, _, w64 (by omega), ?_⟩; conv => whnf) | (refine ⟨true, decide_eq_true (by omega), ?_⟩; conv => whnf) | (refine ⟨false, decide_eq_false (by omega), ?_⟩; conv => whnf) | (refine ⟨rfl, ?_⟩; conv => whnf) | (refine ⟨_, fun h => absurd h Bool.false_ne_true, fun _ => rfl, ?_⟩; conv => whnf))
        exact ⟨⟨k + 1, by omega⟩, Wk.tab [] ⟨⟨rfl, rfl⟩, ⟨rfl, rfl⟩, ⟨rfl, rfl⟩, ⟨rfl, rfl⟩, ⟨rfl, rfl⟩, ⟨rfl, rfl⟩, trivial⟩ ⟨rfl, varQ hs.symm, trivial⟩ rfl, by dsimp only; omega⟩
      · rw [if_neg hb] at hs
        rw [Bool.not_eq_true] at hb
        rw [hb] at c2
        repeat (first | (refine W.RS (by kernel_rfl) ?_; conv => whnf) | (refine W.R (by kernel_rfl) ?_; conv => whnf) | (refine W.S ?_) | (refine W.block ?_) | (refine W.skip ?_; conv => whnf) | (refine W.condF rfl ?_) | (refine W.condT rfl ?_) | (refine ⟨_, c1, ?_⟩; conv => whnf) | (refine ⟨_, c2, ?_⟩; conv => whnf) | (refine ⟨k, _, rfl, hg, rfl, ?_⟩; conv => whnf) | (refine ⟨rfl, _, w64 (by omega), ?_⟩; conv => whnf) | (refine ⟨true, decide_eq_true (by omega), ?_⟩; conv => whnf) | (refine ⟨false, decide_eq_false (by omega), ?_⟩; conv => whnf) | (refine ⟨rfl, ?_⟩; conv => whnf) | (refine ⟨_, fun h => absurd h Bool.false_ne_true, fun _ => rfl, ?_⟩; conv => whnf))
        exact ⟨⟨k + 1, by omega⟩, Wk.tab [] ⟨⟨rfl, rfl⟩, ⟨rfl, rfl⟩, ⟨rfl, rfl⟩, ⟨rfl, rfl⟩, ⟨rfl, rfl⟩, ⟨rfl, rfl⟩, trivial⟩ ⟨rfl, varQ hs.symm, trivial⟩ rfl, by dsimp only; omega⟩
  · repeat (first | (refine W.RS (by kernel_rfl) ?_; conv => whnf) | (refine W.S ?_) | (refine W.ret ?_; conv => whnf) | (refine W.exit ?_; conv => whnf) | (refine W.condF rfl ?_) | (refine ⟨false, decide_eq_false (by omega), ?_⟩; conv => whnf) | (refine ⟨rfl, ?_⟩; conv => whnf))
    rw [show l.take k = l by rw [List.take_of_length_le (by omega)]]
    rfl
theorem f175_177 (J : Keep) {b : Int → Bool} (hf : ∀ c, C J 177 [.int .i64 c] (.bool (b c))) {l : List Rat} (hl : l.length < 2 ^ 60) (hq : ∀ x ∈ l, qln x < 2 ^ 38) : C J 175 [.fn 177, .sl (l.map qr)] (qr (chooseL b l)) := by
  refine fn_ok Tryz.func175 rfl rfl rfl ?_
  have lm : (l.map qr).length = l.length := by simp
  repeat (first | (refine W.RS (by kernel_rfl) ?_; conv => whnf) | (refine W.S ?_) | (refine W.block ?_) | (refine ⟨_, rfl, ?_⟩; conv => whnf))
  refine W.loop (G := { k : Nat // k ≤ l.length }) (fun k => mkA [(0, .iv (.fn 177)), (4, .ptr 0 0), (5, .ptr 1 0), (8, .iv (.sl (l.map qr))), (9, .iv (.int .i64 (l.length : Nat))), (10, .iv (.int .i64 (k.1 : Nat)))] [(0, .var (.agg [.sl [], .bool false, .sl []])), (1, .var (qr (chooseL b (l.take k.1))))] 40) (fun k => l.length - k.1) ⟨0, Nat.zero_le _⟩
    (Wk.tab [] ⟨⟨rfl, rfl⟩, ⟨rfl, rfl⟩, ⟨rfl, rfl⟩, ⟨rfl, rfl⟩, ⟨ivEq (by rw [lm]), rfl⟩, ⟨rfl, rfl⟩, trivial⟩ ⟨rfl, varE (by dsimp only; rw [List.take_zero]; exact dg_zero_qr.symm), trivial⟩ rfl) ?_
  rintro ⟨k, hk⟩
  show W J _ _ (mkA [(0, .iv (.fn 177)), (4, .ptr 0 0), (5, .ptr 1 0), (8, .iv (.sl (l.map qr))), (9, .iv (.int .i64 (l.length : Nat))), (10, .iv (.int .i64 (k : Nat)))] [(0, .var (.agg [.sl [], .bool false, .sl []])), (1, .var (qr (chooseL b (l.take k))))] 40) _
  by_cases h : k < l.length
  · have hg := getq (f := qr) h
    have hx := hq _ (getD_mem h)
    have hs := chooseL_snoc b (l.take k) (l.getD k 0)
    rw [← take_snoc h] at hs
    have hm : qln (chooseL b (l.take k)) < 2 ^ 38 := chooseL_all b (P := fun x => qln x < 2 ^ 38) (by have := qln_zero; omega) (fun x hx => hq x (take_mem hx))
    obtain ⟨x, hxe⟩ : ∃ x, l.getD k 0 = x := ⟨_, rfl⟩
    obtain ⟨m, hme⟩ : ∃ m, chooseL b (l.take k) = m := ⟨_, rfl⟩
    rw [hxe] at hg hx hs
    rw [hme] at hm hs
    rw [hme]
    have c1 := f37_ok (J := J) hx hm
    have c2 := hf (cmpR x m)
    by_cases h0 : k = 0
    · subst h0
      rw [if_pos (by simp)] at hs
      repeat (first | (refine W.RS (by kernel_rfl) ?_; conv => whnf) | (refine W.R (by kernel_rfl) ?_; conv => whnf) | (refine W.S ?_) | (refine W.block ?_) | (refine W.skip ?_; conv => whnf) | (refine W.condT rfl ?_) | (refine ⟨0, _, rfl, hg, rfl, ?_⟩; conv => whnf) | (refine ⟨rfl, _, w64 (by omega), ?_⟩; conv => whnf) | (refine ⟨true, decide_eq_true (by omega), ?_⟩; conv => whnf) | (refine ⟨rfl, ?_⟩; conv => whnf) | (refine ⟨_, fun _ => rfl, fun h => absurd h.symm Bool.false_ne_true, ?_⟩; conv => whnf))
      exact ⟨⟨0 + 1, by omega⟩, Wk.tab [] ⟨⟨rfl, rfl⟩, ⟨rfl, rfl⟩, ⟨rfl, rfl⟩, ⟨rfl, rfl⟩, ⟨rfl, rfl⟩, ⟨rfl, rfl⟩, trivial⟩ ⟨rfl, varQ hs.symm, trivial⟩ rfl, by dsimp only; omega⟩
    · rw [if_neg (take_ne h0 h)] at hs
      by_cases hb : b (cmpR x m) = true
      · rw [if_pos hb] at hs
        rw [hb] at c2
        repeat (first | (refine W.RS (by kernel_rfl) ?_; conv => whnf) | (refine W.R (by kernel_rfl) ?_; conv => whnf) | (refine W.S ?_) | (refine W.block ?_) | (refine W.skip ?_; conv => whnf) | (refine W.condT rfl ?_) | (refine ⟨_, c1, ?_⟩; conv => whnf) | (refine ⟨_, c2, ?_⟩; conv => whnf) | (refine ⟨k, _, rfl, hg, rfl, ?_⟩; conv => whnf) | (refine ⟨rfl, _, w64 (by omega), ?_⟩; conv => whnf) | (refine ⟨true, decide_eq_true (by omega), ?_⟩; conv => whnf) | (refine ⟨false, decide_eq_false (by omega), ?_⟩; conv => whnf) | (refine ⟨rfl, ?_⟩; conv => whnf) | (refine ⟨_, fun h => absurd h Bool.false_ne_true, fun _ => rfl, ?_⟩; conv => whnf))
        exact ⟨⟨k + 1, by omega⟩, Wk.tab [] ⟨⟨rfl, rfl⟩, ⟨rfl, rfl⟩, ⟨rfl, rfl⟩, ⟨rfl, rfl⟩, ⟨rfl, rfl⟩, ⟨rfl, rfl⟩, trivial⟩ ⟨rfl, varQ hs.symm, trivial⟩ rfl, by dsimp only; omega⟩
      · rw [if_neg hb] at hs
        rw [Bool.not_eq_true] at hb
        rw [hb] at c2
        repeat (first | (refine W.RS (by kernel_rfl) ?_; conv => whnf) | (refine W.R (by kernel_rfl) ?_; conv => whnf) | (refine W.S ?_) | (refine W.block ?_) | (refine W.skip ?_; conv => whnf) | (refine W.condF rfl ?_) | (refine W.condT rfl ?_) | (refine ⟨_, c1, ?_⟩; conv => whnf) | (refine ⟨_, c2, ?_⟩; conv => whnf) | (refine ⟨k, _, rfl, hg, rfl, ?_⟩; conv => whnf) | (refine ⟨rfl, _, w64 (by omega), ?_⟩; conv => whnf) | (refine ⟨true, decide_eq_true (by omega), ?_⟩; conv => whnf) | (refine ⟨false, decide_eq_false (by omega), ?_⟩; conv => whnf) | (refine ⟨rfl, ?_⟩; conv => whnf) | (refine ⟨_, fun h => absurd h Bool.false_ne_true, fun _ => rfl, ?_⟩; conv => whnf))
        exact ⟨⟨k + 1, by omega⟩, Wk.tab [] ⟨⟨rfl, rfl⟩, ⟨rfl, rfl⟩, ⟨rfl, rfl⟩, ⟨rfl, rfl⟩, ⟨rfl, rfl⟩, ⟨rfl, rfl⟩, trivial⟩ ⟨rfl, varQ hs.symm, trivial⟩ rfl, by dsimp only; omega⟩
  · repeat (first | (refine W.RS (by kernel_rfl) ?_; conv => whnf) | (refine W.S ?_) | (refine W.ret ?_; conv => whnf) | (refine W.exit ?_; conv => whnf) | (refine W.condF rfl ?_) | (refine ⟨false, decide_eq_false (by omega), ?_⟩; conv => whnf) | (refine ⟨rfl, ?_⟩; conv => whnf))
    rw [show l.take k = l by rw [List.take_of_length_le (by omega)]]
    rfl
def minL : List Rat → Rat := chooseL fun c => decide (c < 0)
def maxL : List Rat → Rat := chooseL fun c => decide (c > 0)
theorem f70_ok (J : Keep) {l : List Rat} (hl : l.length < 2 ^ 60) (hq : ∀ x ∈ l, qln x < 2 ^ 38) : C J 70 [.sl (l.map qr)] (qr (minL l)) := by
  refine fn_ok Tryz.func70 rfl rfl rfl ?_
  repeat (first | (refine W.RS (by kernel_rfl) ?_; conv => whnf) | (refine W.ret ?_; conv => whnf) | (refine ⟨_, f175_176 J (f176_ok J) hl hq, ?_⟩; conv => whnf))
  rfl
theorem f71_ok (J : Keep) {l : List Rat} (hl : l.length < 2 ^ 60) (hq : ∀ x ∈ l, qln x < 2 ^ 38) : C J 71 [.sl (l.map qr)] (qr (maxL l)) := by
  refine fn_ok Tryz.func71 rfl rfl rfl ?_
  repeat (first | (refine W.RS (by kernel_rfl) ?_; conv => whnf) | (refine W.ret ?_; conv => whnf) | (refine ⟨_, f175_177 J (f177_ok J) hl hq, ?_⟩; conv => whnf))
  rfl
end Go.Proofs.Fl
namespace Go.Proofs.Fl
open Go.RowKit Go.Proofs.Dig
attribute [local irreducible] IntKind.wrap PureC MutC MakC IterC
def vx (e : Option Rat) : Rat := e.getD 0
def dx1 : Option Rat → IV
  | none => .int .i64 0
  | some _ => .int .i64 1
noncomputable def dx2 : Option Rat → IV
  | none => .sl []
  | some q => .sl ((dh q.den).map d64)
theorem rl_zero : rl 0 ≤ 1 := by
  show lh 0 + lh 1 ≤ 1
  have h0 : lh 0 ≤ 0 := lh_le (by decide)
  have := lh_one
  omega
end Go.Proofs.Fl
namespace Go.Proofs.Fl
open Go.RowKit Go.Proofs.Dig
attribute [local irreducible] IntKind.wrap PureC MutC MakC IterC
theorem ln_lh (n : Nat) : ln n ≤ lh n := ln_le (Nat.lt_of_lt_of_le (lt_lh n) (Nat.pow_le_pow_left (by decide) _))
theorem qln_rl (q : Rat) : qln q ≤ rl q := by
  unfold qln rl
  have h1 := ln_lh q.num.natAbs
  have h2 := ln_lh q.den
  omega
end Go.Proofs.Fl
namespace Go.Proofs.Fl
open Go.RowKit Go.Proofs.Dig
attribute [local irreducible] IntKind.wrap PureC MutC MakC IterC
theorem dg_low {n : Nat} (h : n ≠ 0) : 0 < (dg n).length ∧ (dg n).getD 0 0 % 2 = n % 2 := by
  have h1 : dg n ≠ [] := fun e => h (dg_nil_iff.1 e)
  refine ⟨List.length_pos_iff.2 h1, ?_⟩
  obtain ⟨d, l, e⟩ : ∃ d l, dg n = d :: l := by
    cases hd : dg n with
    | nil => exact absurd hd h1
    | cons d l => exact ⟨d, l, rfl⟩
  have h2 := dg_nv n
  rw [e, nv_cons] at h2
  rw [e]
  show d % 2 = n % 2
  have h3 : B9 = 1000000000 := rfl
  rw [h3] at h2
  omega
theorem qln_i (z : Int) : qln (z : Rat) ≤ ln z.natAbs + 1 := by
  show ln z.natAbs + ln 1 ≤ _
  rw [ln_one]; omega
theorem ln_floor {q : Rat} : ln q.floor.natAbs ≤ ln q.num.natAbs := by
  rw [Rat.floor_def]
  exact ln_mono (Int.natAbs_ediv_le_natAbs q.num (q.den : Int))
set_option maxHeartbeats 4000000 in
theorem f156_ok {J : Keep} (B : Base J) {a : Rat} (ha : qln a < 2 ^ 30) : C J 156 [qr a] (qr ((nearI a : Int) : Rat)) := by
  have hq := ha
  unfold qln at hq
  have lf := ln_floor (q := a)
  have lf2 := qln_i a.floor
  have c1 := f86_ok (J := J) (q := a) (by omega)
  have c2 := f50_ok B (a := a) (b := ((a.floor : Int) : Rat)) (by omega) (by omega)
  have s1 := qln_add a (-((a.floor : Int) : Rat))
  rw [← Rat.sub_eq_add_neg] at s1
  have s2 : qln (-((a.floor : Int) : Rat)) = qln ((a.floor : Int) : Rat) := by unfold qln; rw [Rat.neg_num, Int.natAbs_neg, Rat.neg_den]
  rw [s2] at s1
  have c3 := f46_ok B 1
  rw [show (2 ^ intoN 1 256 : Nat) = 2 from rfl] at c3
  have s3 := qln_ratio (z := 1) (d := 2) (by decide)
  have s4 : ln (1 : Int).natAbs ≤ 1 := ln_le (by decide)
  have s5 : ln 2 ≤ 1 := ln_le (by decide)
  have c4 := f37_ok (J := J) (a := a - ((a.floor : Int) : Rat)) (b := mkRat 1 2) (by omega) (by omega)
  have hnc := near_c a
  have hcr := cmpR_range (a - ((a.floor : Int) : Rat)) (mkRat 1 2)
  have hlow := @dg_low a.floor.natAbs
  have c5 := f163_ok J ((dg a.floor.natAbs).map u32)
  have c6 := f61_ok J (n := 1) (by omega) (by omega)
  have c7 := f48_ok B (a := ((a.floor : Int) : Rat)) (b := ((1 : Int) : Rat)) (by omega) (by show ln 1 + ln 1 < _; rw [ln_one]; omega)
  rw [← Rat.intCast_add] at c7
  obtain ⟨c, hc⟩ : ∃ c, cmpR (a - ((a.floor : Int) : Rat)) (mkRat 1 2) = c := ⟨_, rfl⟩
  rw [hc] at hnc c4 hcr
  obtain ⟨F, hF⟩ : ∃ F, a.floor = F := ⟨_, rfl⟩
  simp only [hF] at hnc c1 c2 c4 c5 c7 hlow
  have lm : ((dg F.natAbs).map u32).length = (dg F.natAbs).length := by simp
  refine fn_ok Tryz.func156 rfl rfl rfl ?_
  by_cases h0 : F = 0
  · have e0 : (dg F.natAbs).length = 0 := by rw [h0]; show (dg 0).length = 0; rw [dg_zero]; rfl
    rw [show ((((dg F.natAbs).map u32).length : Int) == 0) = true by rw [beq_iff_eq]; omega] at c5
    by_cases h1 : c > 0
    · rw [if_neg (by omega)] at hnc
      rw [hnc]
      repeat (first | (refine W.RS (by kernel_rfl) ?_; conv => whnf) | (refine W.S ?_) | (refine W.ret ?_; conv => whnf) | (refine W.condT rfl ?_) | (refine ⟨_, c1, ?_⟩; conv => whnf) | (refine ⟨_, c2, ?_⟩; conv => whnf) | (refine ⟨_, c3, ?_⟩; conv => whnf) | (refine ⟨_, c4, ?_⟩; conv => whnf) | (refine ⟨_, c5, ?_⟩; conv => whnf) | (refine ⟨_, c6, ?_⟩; conv => whnf) | (refine ⟨_, c7, ?_⟩; conv => whnf) | (refine ⟨true, decide_eq_true (by omega), ?_⟩; conv => whnf) | (refine ⟨_, rfl, ?_⟩; conv => whnf) | (refine ⟨rfl, ?_⟩; conv => whnf) | (refine ⟨_, fun h => absurd h Bool.false_ne_true, fun _ => rfl, ?_⟩; conv => whnf) | (refine ⟨_, fun _ => rfl, fun h => absurd h.symm Bool.false_ne_true, ?_⟩; conv => whnf))
      rfl
    · rw [if_pos (by omega)] at hnc
      rw [hnc]
      by_cases h2 : c = 0
      · repeat (first | (refine W.RS (by kernel_rfl) ?_; conv => whnf) | (refine W.S ?_) | (refine W.ret ?_; conv => whnf) | (refine W.skip ?_; conv => whnf) | (refine W.condF rfl ?_) | (refine ⟨_, c1, ?_⟩; conv => whnf) | (refine ⟨_, c2, ?_⟩; conv => whnf) | (refine ⟨_, c3, ?_⟩; conv => whnf) | (refine ⟨_, c4, ?_⟩; conv => whnf) | (refine ⟨_, c5, ?_⟩; conv => whnf) | (refine ⟨true, decide_eq_true (by omega), ?_⟩; conv => whnf) | (refine ⟨false, decide_eq_false (by omega), ?_⟩; conv => whnf) | (refine ⟨_, rfl, ?_⟩; conv => whnf) | (refine ⟨rfl, ?_⟩; conv => whnf) | (refine ⟨_, fun h => absurd h Bool.false_ne_true, fun _ => rfl, ?_⟩; conv => whnf) | (refine ⟨_, fun _ => rfl, fun h => absurd h.symm Bool.false_ne_true, ?_⟩; conv => whnf))
        rfl
      · repeat (first | (refine W.RS (by kernel_rfl) ?_; conv => whnf) | (refine W.S ?_) | (refine W.ret ?_; conv => whnf) | (refine W.skip ?_; conv => whnf) | (refine W.condF rfl ?_) | (refine ⟨_, c1, ?_⟩; conv => whnf) | (refine ⟨_, c2, ?_⟩; conv => whnf) | (refine ⟨_, c3, ?_⟩; conv => whnf) | (refine ⟨_, c4, ?_⟩; conv => whnf) | (refine ⟨_, c5, ?_⟩; conv => whnf) | (refine ⟨false, decide_eq_false (by omega), ?_⟩; conv => whnf) | (refine ⟨_, rfl, ?_⟩; conv => whnf) | (refine ⟨rfl, ?_⟩; conv => whnf) | (refine ⟨_, fun h => absurd h Bool.false_ne_true, fun _ => rfl, ?_⟩; conv => whnf))
        rfl
  · obtain ⟨e0, e1⟩ := hlow (by omega)
    rw [show ((((dg F.natAbs).map u32).length : Int) == 0) = false by rw [beq_eq_false_iff_ne]; omega] at c5
    have hm : (((dg F.natAbs).getD 0 0 : Nat) : Int).tmod 2 = (((dg F.natAbs).getD 0 0 % 2 : Nat) : Int) := tmodN _ 2
    have hg := getu (l := dg F.natAbs) e0
    by_cases hp : F % 2 = 0
    · by_cases h1 : c > 0
      · rw [if_neg (by omega)] at hnc
        rw [hnc]
        repeat (first | (refine W.RS (by kernel_rfl) ?_; conv => whnf) | (refine W.S ?_) | (refine W.ret ?_; conv => whnf) | (refine W.condT rfl ?_) | (refine ⟨_, c1, ?_⟩; conv => whnf) | (refine ⟨_, c2, ?_⟩; conv => whnf) | (refine ⟨_, c3, ?_⟩; conv => whnf) | (refine ⟨_, c4, ?_⟩; conv => whnf) | (refine ⟨_, c5, ?_⟩; conv => whnf) | (refine ⟨_, c6, ?_⟩; conv => whnf) | (refine ⟨_, c7, ?_⟩; conv => whnf) | (refine ⟨by omega, _, hm, ?_⟩; conv => whnf) | (refine ⟨0, _, rfl, hg, rfl, ?_⟩; conv => whnf) | (refine ⟨true, decide_eq_true (by omega), ?_⟩; conv => whnf) | (refine ⟨false, decide_eq_false (by omega), ?_⟩; conv => whnf) | (refine ⟨_, rfl, ?_⟩; conv => whnf) | (refine ⟨rfl, ?_⟩; conv => whnf) | (refine ⟨_, fun _ => rfl, fun h => absurd h.symm Bool.false_ne_true, ?_⟩; conv => whnf))
        rfl
      · rw [if_pos (by omega)] at hnc
        rw [hnc]
        by_cases h2 : c = 0
        · repeat (first | (refine W.RS (by kernel_rfl) ?_; conv => whnf) | (refine W.S ?_) | (refine W.ret ?_; conv => whnf) | (refine W.skip ?_; conv => whnf) | (refine W.condF rfl ?_) | (refine ⟨_, c1, ?_⟩; conv => whnf) | (refine ⟨_, c2, ?_⟩; conv => whnf) | (refine ⟨_, c3, ?_⟩; conv => whnf) | (refine ⟨_, c4, ?_⟩; conv => whnf) | (refine ⟨_, c5, ?_⟩; conv => whnf) | (refine ⟨by omega, _, hm, ?_⟩; conv => whnf) | (refine ⟨0, _, rfl, hg, rfl, ?_⟩; conv => whnf) | (refine ⟨true, decide_eq_true (by omega), ?_⟩; conv => whnf) | (refine ⟨false, decide_eq_false (by omega), ?_⟩; conv => whnf) | (refine ⟨_, rfl, ?_⟩; conv => whnf) | (refine ⟨rfl, ?_⟩; conv => whnf) | (refine ⟨_, fun h => absurd h Bool.false_ne_true, fun _ => rfl, ?_⟩; conv => whnf) | (refine ⟨_, fun _ => rfl, fun h => absurd h.symm Bool.false_ne_true, ?_⟩; conv => whnf))
          rfl
        · repeat (first | (refine W.RS (by kernel_rfl) ?_; conv => whnf) | (refine W.S ?_) | (refine W.ret ?_; conv => whnf) | (refine W.skip ?_; conv => whnf) | (refine W.condF rfl ?_) | (refine ⟨_, c1, ?_⟩; conv => whnf) | (refine ⟨_, c2, ?_⟩; conv => whnf) | (refine ⟨_, c3, ?_⟩; conv => whnf) | (refine ⟨_, c4, ?_⟩; conv => whnf) | (refine ⟨_, c5, ?_⟩; conv => whnf) | (refine ⟨by omega, _, hm, ?_⟩; conv => whnf) | (refine ⟨0, _, rfl, hg, rfl, ?_⟩; conv => whnf) | (refine ⟨false, decide_eq_false (by omega), ?_⟩; conv => whnf) | (refine ⟨_, rfl, ?_⟩; conv => whnf) | (refine ⟨rfl, ?_⟩; conv => whnf) | (refine ⟨_, fun h => absurd h Bool.false_ne_true, fun _ => rfl, ?_⟩; conv => whnf) | (refine ⟨_, fun _ => rfl, fun h => absurd h.symm Bool.false_ne_true, ?_⟩; conv => whnf))
          rfl
    · by_cases h1 : c > 0
      · rw [if_neg (by omega)] at hnc
        rw [hnc]
        repeat (first | (refine W.RS (by kernel_rfl) ?_; conv => whnf) | (refine W.S ?_) | (refine W.ret ?_; conv => whnf) | (refine W.condT rfl ?_) | (refine ⟨_, c1, ?_⟩; conv => whnf) | (refine ⟨_, c2, ?_⟩; conv => whnf) | (refine ⟨_, c3, ?_⟩; conv => whnf) | (refine ⟨_, c4, ?_⟩; conv => whnf) | (refine ⟨_, c5, ?_⟩; conv => whnf) | (refine ⟨_, c6, ?_⟩; conv => whnf) | (refine ⟨_, c7, ?_⟩; conv => whnf) | (refine ⟨by omega, _, hm, ?_⟩; conv => whnf) | (refine ⟨0, _, rfl, hg, rfl, ?_⟩; conv => whnf) | (refine ⟨true, decide_eq_true (by omega), ?_⟩; conv => whnf) | (refine ⟨_, rfl, ?_⟩; conv => whnf) | (refine ⟨rfl, ?_⟩; conv => whnf) | (refine ⟨_, fun _ => rfl, fun h => absurd h.symm Bool.false_ne_true, ?_⟩; conv => whnf))
        rfl
      · by_cases h2 : c = 0
        · rw [if_neg (by omega)] at hnc
          rw [hnc]
          repeat (first | (refine W.RS (by kernel_rfl) ?_; conv => whnf) | (refine W.S ?_) | (refine W.ret ?_; conv => whnf) | (refine W.condT rfl ?_) | (refine ⟨_, c1, ?_⟩; conv => whnf) | (refine ⟨_, c2, ?_⟩; conv => whnf) | (refine ⟨_, c3, ?_⟩; conv => whnf) | (refine ⟨_, c4, ?_⟩; conv => whnf) | (refine ⟨_, c5, ?_⟩; conv => whnf) | (refine ⟨_, c6, ?_⟩; conv => whnf) | (refine ⟨_, c7, ?_⟩; conv => whnf) | (refine ⟨by omega, _, hm, ?_⟩; conv => whnf) | (refine ⟨0, _, rfl, hg, rfl, ?_⟩; conv => whnf) | (refine ⟨true, decide_eq_true (by omega), ?_⟩; conv => whnf) | (refine ⟨false, decide_eq_false (by omega), ?_⟩; conv => whnf) | (refine ⟨_, rfl, ?_⟩; conv => whnf) | (refine ⟨rfl, ?_⟩; conv => whnf) | (refine ⟨_, fun h => absurd h Bool.false_ne_true, fun _ => rfl, ?_⟩; conv => whnf) | (refine ⟨_, fun _ => rfl, fun h => absurd h.symm Bool.false_ne_true, ?_⟩; conv => whnf))
          rfl
        · rw [if_pos (by omega)] at hnc
          rw [hnc]
          repeat (first | (refine W.RS (by kernel_rfl) ?_; conv => whnf) | (refine W.S ?_) | (refine W.ret ?_; conv => whnf) | (refine W.skip ?_; conv => whnf) | (refine W.condF rfl ?_) | (refine ⟨_, c1, ?_⟩; conv => whnf) | (refine ⟨_, c2, ?_⟩; conv => whnf) | (refine ⟨_, c3, ?_⟩; conv => whnf) | (refine ⟨_, c4, ?_⟩; conv => whnf) | (refine ⟨_, c5, ?_⟩; conv => whnf) | (refine ⟨by omega, _, hm, ?_⟩; conv => whnf) | (refine ⟨0, _, rfl, hg, rfl, ?_⟩; conv => whnf) | (refine ⟨true, decide_eq_true (by omega), ?_⟩; conv => whnf) | (refine ⟨false, decide_eq_false (by omega), ?_⟩; conv => whnf) | (refine ⟨_, rfl, ?_⟩; conv => whnf) | (refine ⟨rfl, ?_⟩; conv => whnf) | (refine ⟨_, fun h => absurd h Bool.false_ne_true, fun _ => rfl, ?_⟩; conv => whnf) | (refine ⟨_, fun _ => rfl, fun h => absurd h.symm Bool.false_ne_true, ?_⟩; conv => whnf))
          rfl
theorem f42_ok {J : Keep} (B : Base J) {a : Rat} (ha : qln a < 2 ^ 28) (k : Int) : C J 42 [qr a, .int .i64 k] (qr (((nearI (a * (((gk k : Nat) : Int) : Rat)) : Int) : Rat) * mkRat 1 (gk k))) := by
  refine fn_ok Tryz.func42 rfl rfl rfl ?_
  have c1 := f167_ok B (q := a) (by omega) k
  have r2 := qln_mul a (((gk k : Nat) : Int) : Rat)
  have r3 : qln (((gk k : Nat) : Int) : Rat) ≤ 258 := by
    have h := qln_i ((gk k : Nat) : Int)
    rw [Int.natAbs_natCast] at h
    have := ln_two_pow k
    unfold gk at *
    omega
  have c2 := f156_ok B (a := a * (((gk k : Nat) : Int) : Rat)) (by omega)
  have l1 : ln (nearI (a * (((gk k : Nat) : Int) : Rat))).natAbs ≤ ln (a * (((gk k : Nat) : Int) : Rat)).num.natAbs + 2 := by
    generalize a * (((gk k : Nat) : Int) : Rat) = q
    have lf := ln_floor (q := q)
    unfold nearI
    split
    · omega
    · have h1 := ln_mono (Int.natAbs_add_le q.floor 1)
      have h2 := ln_add_le q.floor.natAbs (1 : Int).natAbs
      have h3 : ln (1 : Int).natAbs ≤ 1 := ln_le (by decide)
      omega
  have l2 : ln (a * (((gk k : Nat) : Int) : Rat)).num.natAbs ≤ qln (a * (((gk k : Nat) : Int) : Rat)) := by unfold qln; omega
  have l3 := qln_i (nearI (a * (((gk k : Nat) : Int) : Rat)))
  have r4 := qln_fine k
  have c3 := f49_ok B (a := ((nearI (a * (((gk k : Nat) : Int) : Rat)) : Int) : Rat)) (b := mkRat 1 (gk k)) (by omega) (by omega)
  repeat (first | (refine W.RS (by kernel_rfl) ?_; conv => whnf) | (refine W.ret ?_; conv => whnf) | (refine ⟨_, c1, ?_⟩; conv => whnf) | (refine ⟨_, c2, ?_⟩; conv => whnf) | (refine ⟨_, f46_ok B k, ?_⟩; conv => whnf) | (refine ⟨_, c3, ?_⟩; conv => whnf))
  rfl
end Go.Proofs.Fl
namespace Go.Proofs.Fl
open Go.RowKit Go.Proofs.Dig
attribute [local irreducible] IntKind.wrap PureC MutC MakC IterC
section
variable {J : Keep} {a b c d : Rat}
theorem mem4 {P : Rat → Prop} (ha : P a) (hb : P b) (hc : P c) (hd : P d) : ∀ x ∈ [a, b, c, d], P x := by
  intro x hx; simp at hx; rcases hx with rfl | rfl | rfl | rfl <;> assumption
theorem f181_ok {l : List Rat} (hl : l.length < 2 ^ 60) (hq : ∀ x ∈ l, qln x < 2 ^ 38) : C J 181 [.sl (l.map qr)] (sd (minL l) (maxL l)) := by
  refine fn_ok Tryz.func181 rfl rfl rfl ?_
  repeat (first | (refine W.RS (by kernel_rfl) ?_; conv => whnf) | (refine W.ret ?_; conv => whnf) | (refine ⟨_, f70_ok J hl hq, ?_⟩; conv => whnf) | (refine ⟨_, f71_ok J hl hq, ?_⟩; conv => whnf))
  rfl
theorem f181_4 (ha : qln a < 2 ^ 38) (hb : qln b < 2 ^ 38) (hc : qln c < 2 ^ 38) (hd : qln d < 2 ^ 38) : C J 181 [.sl [qr a, qr b, qr c, qr d]] (sd (minL [a, b, c, d]) (maxL [a, b, c, d])) := f181_ok (l := [a, b, c, d]) (by simp) (mem4 ha hb hc hd)
def mulE (a b c d : Rat) : List Rat := [a * c, a * d, b * c, b * d]
theorem f179_mul (B : Base J) (ha : qln a < 2 ^ 36) (hb : qln b < 2 ^ 36) (hc : qln c < 2 ^ 36) (hd : qln d < 2 ^ 36) : C J 179 [.fn 49, sd a b, sd c d] (sd (minL (mulE a b c d)) (maxL (mulE a b c d))) := by
  refine fn_ok Tryz.func179 rfl rfl rfl ?_
  have m1 := qln_mul a c
  have m2 := qln_mul a d
  have m3 := qln_mul b c
  have m4 := qln_mul b d
  have c1 := f181_4 (J := J) (a := a * c) (b := a * d) (c := b * c) (d := b * d) (by omega) (by omega) (by omega) (by omega)
  have d1 := f49_ok B (a := a) (b := c) (by omega) (by omega)
  have d2 := f49_ok B (a := a) (b := d) (by omega) (by omega)
  have d3 := f49_ok B (a := b) (b := c) (by omega) (by omega)
  have d4 := f49_ok B (a := b) (b := d) (by omega) (by omega)
  repeat (first | (refine W.RS (by kernel_rfl) ?_; conv => whnf) | (refine W.ret ?_; conv => whnf) | (refine ⟨_, d1, ?_⟩; conv => whnf) | (refine ⟨_, d2, ?_⟩; conv => whnf) | (refine ⟨_, d3, ?_⟩; conv => whnf) | (refine ⟨_, d4, ?_⟩; conv => whnf) | (refine ⟨_, c1, ?_⟩; conv => whnf) | (refine ⟨rfl, ?_⟩; conv => whnf))
  rfl
theorem f100_ok (B : Base J) (ha : qln a < 2 ^ 36) (hb : qln b < 2 ^ 36) (hc : qln c < 2 ^ 36) (hd : qln d < 2 ^ 36) : C J 100 [sd a b, sd c d] (sd (minL (mulE a b c d)) (maxL (mulE a b c d))) := by
  refine fn_ok Tryz.func100 rfl rfl rfl ?_
  repeat (first | (refine W.RS (by kernel_rfl) ?_; conv => whnf) | (refine W.ret ?_; conv => whnf) | (refine ⟨_, f179_mul B ha hb hc hd, ?_⟩; conv => whnf))
  rfl
theorem f113_ok (L : LibI J) (ha : qln a < 2 ^ 36) (hb : qln b < 2 ^ 36) : C J 113 [sd a b] (.str ([91] ++ qtext a ++ [32] ++ qtext b ++ [93])) := by
  refine fn_ok Tryz.func113 rfl rfl rfl ?_
  have c1 := f35_ok L (q := a) (by omega)
  have c2 := f35_ok L (q := b) (by omega)
  have t : ∀ q : Rat, qln q < 2 ^ 36 → (qtext q).length < 2 ^ 42 := fun q h => by
    unfold qln at h
    have l1 := ztext_len q.num
    have l2 := decN_ln q.num.natAbs
    have l3 := decN_ln q.den
    unfold qtext
    split <;> simp <;> omega
  have t1 := t a ha
  have t2 := t b hb
  repeat (first | (refine W.RS (by kernel_rfl) ?_; conv => whnf) | (refine W.ret ?_; conv => whnf) | (refine ⟨_, c1, ?_⟩; conv => whnf) | (refine ⟨_, c2, ?_⟩; conv => whnf) | (refine ⟨by simp; omega, ?_⟩; conv => whnf) | (refine ⟨rfl, ?_⟩; conv => whnf))
  rfl
end
end Go.Proofs.Fl
namespace Go.Proofs.Fl
open Go.RowKit Go.Proofs.Dig
attribute [local irreducible] IntKind.wrap PureC MutC MakC IterC
theorem sign_cmp (q : Rat) : cmpI q.num 0 = cmpR q 0 := by
  unfold cmpR
  show cmpI q.num 0 = cmpI (q.num * ((1 : Nat) : Int)) (0 * (q.den : Int))
  rw [Int.zero_mul]; simp
section
variable {J : Keep} {a b c d : Rat}
end
end Go.Proofs.Fl
namespace Go.Proofs.Fl
open Go.RowKit Go.Proofs.Dig
attribute [local irreducible] IntKind.wrap PureC MutC MakC IterC
noncomputable abbrev sx (e f : Option Rat) : IV := .agg [.int .i64 (vx e).num.sign, .sl ((dh (vx e).num.natAbs).map d64), dx1 e, dx2 e, .int .i64 (vx f).num.sign, .sl ((dh (vx f).num.natAbs).map d64), dx1 f, dx2 f]
section
variable {J : Keep} {a b c d : Rat} {e f : Option Rat}
end
end Go.Proofs.Fl
namespace Go.Proofs.Fl
open Go.RowKit Go.Proofs.Dig
attribute [local irreducible] IntKind.wrap PureC MutC MakC IterC
theorem rl_div (a b : Rat) : rl (a / b) ≤ rl a + rl b + 1 := by
  by_cases hb : b = 0
  · rw [hb, Rat.div_def, Rat.inv_zero, Rat.mul_zero]
    have := rl_zero; omega
  · have hi : b⁻¹.num.natAbs = b.den ∧ b⁻¹.den = b.num.natAbs := by
      have hn0 : b.num ≠ 0 := fun e => hb (Rat.num_eq_zero.1 e)
      show (Rat.inv b).num.natAbs = _ ∧ (Rat.inv b).den = _
      unfold Rat.inv
      split
      · simp
      · split
        · simp
        · omega
    have h := rl_mul a b⁻¹
    rw [← Rat.div_def] at h
    unfold rl at *
    rw [hi.1, hi.2] at h
    omega
section
variable {J : Keep} {a b c d : Rat} {e f : Option Rat}
end
end Go.Proofs.Fl
namespace Go.Proofs.Fl
open Go.RowKit Go.Proofs.Dig
attribute [local irreducible] IntKind.wrap PureC MutC MakC IterC
def digB (c : UInt8) : Bool := decide (48 ≤ c.toNat ∧ c.toNat ≤ 57)
def digs (s : List UInt8) : Bool := !s.isEmpty && s.all digB
def intS (s : List UInt8) : Bool := digs s && (decide (s.length = 1) || decide (s.head? ≠ some 48))
def tenS : List UInt8 := [48, 49, 50, 51, 52, 53, 54, 55, 56, 57]
theorem ten_contains (c : UInt8) : tenS.contains c = digB c := by
  have : ∀ n : Fin 256, tenS.contains (UInt8.ofNat n.1) = digB (UInt8.ofNat n.1) := by decide +kernel
  have h := this ⟨c.toNat, c.toNat_lt⟩
  simpa using h
theorem dropWhile_nil {l : List UInt8} {p : UInt8 → Bool} : l.dropWhile p = [] ↔ l.all p = true := by
  induction l with
  | nil => simp
  | cons c l ih =>
    by_cases h : p c = true
    · rw [List.dropWhile_cons_of_pos h, ih]; simp [h]
    · rw [List.dropWhile_cons_of_neg h]; simp [h]
theorem takeWhile_mem {l : List UInt8} {p : UInt8 → Bool} {x : UInt8} (h : x ∈ l.takeWhile p) : p x = true := by
  induction l with
  | nil => simp at h
  | cons c l ih =>
    by_cases hc : p c = true
    · rw [List.takeWhile_cons_of_pos hc] at h
      rcases List.mem_cons.1 h with rfl | h
      · exact hc
      · exact ih h
    · rw [List.takeWhile_cons_of_neg hc] at h; simp at h
theorem trimS_nil {l : List UInt8} : Lib.trimS l tenS = [] ↔ l.all digB = true := by
  have e : (fun c => tenS.contains c) = digB := funext ten_contains
  unfold Lib.trimS Lib.trimLeftS Lib.trimRightS
  rw [e]
  constructor
  · intro h
    have h1 := dropWhile_nil.1 h
    rw [List.all_reverse] at h1
    -- what was dropped is of digits, what stays too
    have h2 : (l.reverse.takeWhile digB ++ l.reverse.dropWhile digB) = l.reverse := List.takeWhile_append_dropWhile
    have h3 : l.reverse.all digB = true := by
      rw [← h2, List.all_append, h1, Bool.and_true]
      rw [List.all_eq_true]
      intro x hx
      exact takeWhile_mem hx
    rwa [List.all_reverse] at h3
  · intro h
    have h1 : l.reverse.dropWhile digB = [] := dropWhile_nil.2 (by rwa [List.all_reverse])
    rw [h1]; rfl
theorem f189_set (J : Keep) {s : List UInt8} (hs : s.length ≤ 9223372036854775807) : C J 189 [.str s, .str tenS] (.str (Lib.trimS s tenS)) := by
  refine pure_lib ⟨_, Tryz.func189, rfl, rfl⟩ fun H w args hI hargs => ?_
  obtain ⟨u, v, rfl, hu, hv⟩ := hargs.two
  obtain ⟨s, rfl, rfl⟩ := VR.asStr hu
  obtain ⟨p, rfl, hp⟩ := VR.asStr hv
  rw [← hp]
  have hsz : p.size < 4294967281 := by rw [strSize, hp]; decide
  have hasc : ∀ (j : Nat) b, p.data.toList[j]? = some b → b.toNat < 128 := by rw [hp]; exact ascii_of_all (by decide)
  refine (Any.strings_Trim_laid Tryz.lays160 (by kernel_rfl) s p w (by rw [strSize]; exact hs) hsz hasc).mono ?_
  rintro e w' ⟨rfl, hb⟩
  exact ⟨_, rfl, fun H => .str _ _ (by simp), hb⟩
theorem f132_ok (J : Keep) {s : List UInt8} (hs : s.length ≤ 9223372036854775807) : C J 132 [.str s] (.bool (digs s)) := by
  refine fn_ok Tryz.func132 rfl rfl rfl ?_
  have c1 := f189_set J hs
  unfold digs
  by_cases h0 : s = []
  · subst h0
    repeat (first | (refine W.RS (by kernel_rfl) ?_; conv => whnf) | (refine W.ret ?_; conv => whnf) | (refine ⟨_, rfl, ?_⟩; conv => whnf) | (refine ⟨_, fun h => absurd h Bool.false_ne_true, fun _ => rfl, ?_⟩; conv => whnf))
    rfl
  · have e0 : (s == ([] : List UInt8)) = false := by rw [beq_eq_false_iff_ne]; exact h0
    have e1 : (!(s == ([] : List UInt8))) = true := by rw [e0]; rfl
    have e2 : (!s.isEmpty) = true := by simp [h0]
    rw [e2, Bool.true_and]
    have e3 : (Lib.trimS s tenS == ([] : List UInt8)) = s.all digB := by
      cases hb : s.all digB with
      | true => rw [beq_iff_eq]; exact trimS_nil.2 hb
      | false =>
        rw [beq_eq_false_iff_ne]
        intro e
        rw [trimS_nil.1 e] at hb; cases hb
    repeat (first | (refine W.RS (by kernel_rfl) ?_; conv => whnf) | (refine W.ret ?_; conv => whnf) | (refine ⟨_, e1, ?_⟩; conv => whnf) | (refine ⟨_, c1, ?_⟩; conv => whnf) | (refine ⟨_, e3, ?_⟩; conv => whnf) | (refine ⟨_, fun _ => rfl, fun h => absurd h.symm Bool.false_ne_true, ?_⟩; conv => whnf))
    rfl
theorem f128_ok (J : Keep) {s : List UInt8} (hs : s.length ≤ 9223372036854775807) : C J 128 [.str s] (.bool (intS s)) := by
  refine fn_ok Tryz.func128 rfl rfl rfl ?_
  have c1 := f132_ok J hs
  unfold intS
  cases hd : digs s with
  | false =>
    rw [hd] at c1
    repeat (first | (refine W.RS (by kernel_rfl) ?_; conv => whnf) | (refine W.ret ?_; conv => whnf) | (refine ⟨_, c1, ?_⟩; conv => whnf) | (refine ⟨_, fun h => absurd h Bool.false_ne_true, fun _ => rfl, ?_⟩; conv => whnf))
    rfl
  | true =>
    rw [hd] at c1
    rw [Bool.true_and]
    cases s with
    | nil => cases hd
    | cons c s =>
      by_cases h1 : (c :: s).length = 1
      · have h1' : s.length + 1 = 1 := h1
        rw [decide_eq_true h1, Bool.true_or]
        repeat (first | (refine W.RS (by kernel_rfl) ?_; conv => whnf) | (refine W.ret ?_; conv => whnf) | (refine ⟨_, c1, ?_⟩; conv => whnf) | (refine ⟨_, castA _, ?_⟩; conv => whnf) | (refine ⟨true, decide_eq_true (by omega), ?_⟩; conv => whnf) | (refine ⟨rfl, ?_⟩; conv => whnf) | (refine ⟨_, fun _ => rfl, fun h => absurd h.symm Bool.false_ne_true, ?_⟩; conv => whnf))
        rfl
      · have h1' : ¬ s.length + 1 = 1 := h1
        rw [decide_eq_false h1, Bool.false_or]
        by_cases h2 : c = 48
        · subst h2
          rw [decide_eq_false (by simp)]
          repeat (first | (refine W.RS (by kernel_rfl) ?_; conv => whnf) | (refine W.ret ?_; conv => whnf) | (refine ⟨_, c1, ?_⟩; conv => whnf) | (refine ⟨0, 48, rfl, rfl, ?_⟩; conv => whnf) | (refine ⟨_, castA _, ?_⟩; conv => whnf) | (refine ⟨false, decide_eq_false (by omega), ?_⟩; conv => whnf) | (refine ⟨false, bne_eq_false_iff_eq.2 (by omega), ?_⟩; conv => whnf) | (refine ⟨rfl, ?_⟩; conv => whnf) | (refine ⟨_, fun h => absurd h Bool.false_ne_true, fun _ => rfl, ?_⟩; conv => whnf) | (refine ⟨_, fun _ => rfl, fun h => absurd h.symm Bool.false_ne_true, ?_⟩; conv => whnf))
          rfl
        · have hct : (c.toNat : Int) ≠ 48 := fun e => h2 (UInt8.toNat_inj.1 (Int.ofNat.inj e))
          rw [decide_eq_true (by simpa using h2)]
          repeat (first | (refine W.RS (by kernel_rfl) ?_; conv => whnf) | (refine W.ret ?_; conv => whnf) | (refine ⟨_, c1, ?_⟩; conv => whnf) | (refine ⟨0, c, rfl, rfl, ?_⟩; conv => whnf) | (refine ⟨_, castA _, ?_⟩; conv => whnf) | (refine ⟨false, decide_eq_false (by omega), ?_⟩; conv => whnf) | (refine ⟨true, bne_iff_ne.2 (by omega), ?_⟩; conv => whnf) | (refine ⟨_, rfl, ?_⟩; conv => whnf) | (refine ⟨rfl, ?_⟩; conv => whnf) | (refine ⟨_, fun h => absurd h Bool.false_ne_true, fun _ => rfl, ?_⟩; conv => whnf) | (refine ⟨_, fun _ => rfl, fun h => absurd h.symm Bool.false_ne_true, ?_⟩; conv => whnf))
          rfl
end Go.Proofs.Fl
namespace Go.Proofs.Fl
open Go.RowKit Go.Proofs.Dig
attribute [local irreducible] IntKind.wrap PureC MutC MakC IterC
theorem digB_iff {c : UInt8} : digB c = true ↔ 48 ≤ c.toNat ∧ c.toNat ≤ 57 := by simp [digB]
theorem all_dig {s : List UInt8} (h : s.all digB = true) : ∀ c ∈ s, 48 ≤ c.toNat ∧ c.toNat ≤ 57 := fun c hc => digB_iff.1 (List.all_eq_true.1 h c hc)
theorem decFrom_dig : ∀ {l : List UInt8} (acc : Nat), l.all digB = true → Lib.decFrom acc l = some (l.foldl (fun a c => a * 10 + (c.toNat - 48)) acc)
  | [], _, _ => rfl
  | c :: l, acc, h => by
    simp only [List.all_cons, Bool.and_eq_true] at h
    have hc := digB_iff.1 h.1
    rw [Lib.decFrom, Lib.digitVal, if_pos hc]
    exact decFrom_dig _ h.2
theorem atoi_dig {l : List UInt8} (h : l.all digB = true) (hne : l ≠ []) : Lib.atoi l = some ((dv l : Nat) : Int) := by
  cases l with
  | nil => exact absurd rfl hne
  | cons c l =>
    have hc : 48 ≤ c.toNat := by
      simp only [List.all_cons, Bool.and_eq_true] at h
      exact (digB_iff.1 h.1).1
    have n45 : (c == 45) = false := by
      rw [beq_eq_false_iff_ne]; intro e; rw [e] at hc; exact absurd hc (by decide)
    have n43 : (c == 43) = false := by
      rw [beq_eq_false_iff_ne]; intro e; rw [e] at hc; exact absurd hc (by decide)
    unfold Lib.atoi
    simp only [n45, n43, Bool.false_eq_true, if_false]
    unfold Lib.decNat
    rw [if_neg (by simp), decFrom_dig 0 h]
    rfl
theorem dv_foldl (l : List UInt8) : ∀ acc : Nat, l.foldl (fun a c => a * 10 + (c.toNat - 48)) acc = acc * 10 ^ l.length + dv l := by
  induction l with
  | nil => intro acc; simp [dv]
  | cons c l ih =>
    intro acc
    unfold dv
    simp only [List.foldl_cons, List.length_cons]
    rw [ih, ih]
    rw [Nat.pow_succ, Nat.add_mul, Nat.zero_mul, Nat.zero_add, Nat.mul_assoc, Nat.mul_comm 10]
    omega
theorem dv_append (a b : List UInt8) : dv (a ++ b) = dv a * 10 ^ b.length + dv b := by
  show (a ++ b).foldl _ 0 = _
  rw [List.foldl_append, dv_foldl]; rfl
theorem all_take {s : List UInt8} (h : s.all digB = true) (k : Nat) : (s.take k).all digB = true := List.all_eq_true.2 fun c hc => List.all_eq_true.1 h c (List.mem_of_mem_take hc)
theorem all_drop {s : List UInt8} (h : s.all digB = true) (k : Nat) : (s.drop k).all digB = true := List.all_eq_true.2 fun c hc => List.all_eq_true.1 h c (List.mem_of_mem_drop hc)
noncomputable def rdInv (rest : List UInt8) : List Nat → AS
  | [] => mkA [(0, .iv (.str rest)), (2, .ptr 0 0), (3, .nilS)] [(0, .var (.agg [.sl []]))] 40
  | x :: o => mkA [(0, .iv (.str rest)), (2, .ptr 0 0), (3, .ref 5 0 (o.length + 1) true)] [(0, .var (.agg [.sl []])), (5, .arr 173 1 ((x :: o).map u32) false)] 40
set_option maxHeartbeats 2000000 in
theorem f131_ok (J : Keep) {s : List UInt8} (h : s.all digB = true) (hl : s.length < 2 ^ 40) : C J 131 [.str s] (mag (dv s)) := by
  refine fn_ok Tryz.func131 rfl rfl rfl ?_
  repeat (first | (refine W.RS (by kernel_rfl) ?_; conv => whnf) | (refine W.S ?_) | (refine W.block ?_))
  refine W.loop (G := { p : List UInt8 × List Nat // p.1.all digB = true ∧ dv s = dv p.1 * B9 ^ p.2.length + nv B9 p.2 ∧ Dg B9 p.2 ∧ p.1.length + p.2.length ≤ s.length }) (fun p => rdInv p.1.1 p.1.2) (fun p => p.1.1.length) ⟨(s, []), h, by simp [nv], Dg.nil _, by simp⟩
    (Wk.tab (l := [(0, .iv (.str s)), (2, .ptr 0 0), (3, .nilS)]) (m := [(0, .var (.agg [.sl []]))]) [] ⟨⟨rfl, rfl⟩, ⟨rfl, rfl⟩, ⟨rfl, rfl⟩, trivial⟩ ⟨rfl, trivial⟩ rfl) ?_
  rintro ⟨⟨rest, ds⟩, i1, i2, i3, i4⟩
  dsimp only at i1 i2 i3 i4
  show W J _ _ (rdInv rest ds) _
  by_cases h0 : rest = []
  · subst h0
    have hdv : dv s = nv B9 ds := by rw [i2]; simp [dv]
    have c1 := f188_at J (l := ds) rfl (by omega)
    have e : mgI (strip ds) = mag (dv s) := by
      show IV.agg [.sl ((strip ds).map u32)] = IV.agg [.sl ((dg (dv s)).map u32)]
      rw [dg_strip i3 hdv.symm]
    rw [e] at c1
    cases ds with
    | nil =>
      show W J _ _ (mkA [(0, .iv (.str [])), (2, .ptr 0 0), (3, .nilS)] [(0, .var (.agg [.sl []]))] 40) _
      repeat (first | (refine W.RS (by kernel_rfl) ?_; conv => whnf) | (refine W.S ?_) | (refine W.ret ?_; conv => whnf) | (refine W.exit ?_; conv => whnf) | (refine W.condF rfl ?_) | (refine ⟨_, c1, ?_⟩; conv => whnf) | (refine ⟨_, rfl, ?_⟩; conv => whnf) | (refine ⟨rfl, ?_⟩; conv => whnf))
      rfl
    | cons x o =>
      show W J _ _ (mkA [(0, .iv (.str [])), (2, .ptr 0 0), (3, .ref 5 0 (o.length + 1) true)] [(0, .var (.agg [.sl []])), (5, .arr 173 1 ((x :: o).map u32) false)] 40) _
      have c2 : C J 188 [.sl (List.take (o.length + 1) (List.drop 0 (List.map u32 (x :: o))))] (mag (dv s)) := by
        rw [← e]
        exact f188_at J (l := x :: o) (by rw [List.drop_zero, List.take_of_length_le (by simp)]) (by omega)
      repeat (first | (refine W.RS (by kernel_rfl) ?_; conv => whnf) | (refine W.S ?_) | (refine W.ret ?_; conv => whnf) | (refine W.exit ?_; conv => whnf) | (refine W.condF rfl ?_) | (refine ⟨_, c2, ?_⟩; conv => whnf) | (refine ⟨_, rfl, ?_⟩; conv => whnf) | (refine ⟨rfl, ?_⟩; conv => whnf))
      rfl
  · have hp : 0 < rest.length := List.length_pos_iff.2 h0
    obtain ⟨k, hk⟩ : ∃ k, rest.length - 9 = k := ⟨_, rfl⟩
    have hkl : k < rest.length := by omega
    have hmax : (if ((rest.length : Nat) : Int) - 9 > 0 then ((rest.length : Nat) : Int) - 9 else 0) = ((k : Nat) : Int) := by split <;> omega
    have hch : (rest.drop k).length ≤ 9 := by rw [List.length_drop]; omega
    have hcn : rest.drop k ≠ [] := fun e => by
      have := congrArg List.length e
      rw [List.length_drop, List.length_nil] at this; omega
    have hcd := all_drop i1 k
    have hv : dv (rest.drop k) < 1000000000 := by
      have h1 := dv_lt (all_dig hcd)
      have h2 : 10 ^ (rest.drop k).length ≤ 10 ^ 9 := Nat.pow_le_pow_right (by decide) hch
      have h3 : (10 : Nat) ^ 9 = 1000000000 := by decide
      omega
    have hat := atoi_dig hcd hcn
    have htk : List.drop k (List.take rest.length rest) = rest.drop k := by rw [List.take_length]
    have c1 := f187_ok J (s := List.drop k (List.take rest.length rest)) (n := ((dv (rest.drop k) : Nat) : Int)) (by rw [htk]; omega) (by rw [htk]; exact hat)
    have hsplit : dv rest = dv (rest.take k) * 10 ^ (rest.drop k).length + dv (rest.drop k) := by rw [← dv_append, List.take_append_drop]
    have hnext : dv s = dv (rest.take k) * B9 ^ (ds ++ [dv (rest.drop k)]).length + nv B9 (ds ++ [dv (rest.drop k)]) := by
      rw [i2, hsplit, nv_snoc, List.length_append, List.length_singleton, Nat.pow_succ]
      have h9 : dv (rest.take k) * 10 ^ (rest.drop k).length = dv (rest.take k) * B9 := by
        by_cases hk0 : k = 0
        · subst hk0
          show dv [] * _ = dv [] * _
          simp [dv]
        · rw [List.length_drop, show rest.length - k = 9 by omega]
      rw [h9, Nat.add_mul, Nat.mul_assoc, Nat.mul_comm B9, Nat.mul_comm (dv (rest.drop k))]
      omega
    have h32 : IntKind.wrap .u32 ((dv (rest.drop k) : Nat) : Int) = ((dv (rest.drop k) : Nat) : Int) := w32 (by omega)
    have hG : (rest.take k).all digB = true ∧ dv s = dv (rest.take k) * B9 ^ (ds ++ [dv (rest.drop k)]).length + nv B9 (ds ++ [dv (rest.drop k)]) ∧ Dg B9 (ds ++ [dv (rest.drop k)]) ∧ (rest.take k).length + (ds ++ [dv (rest.drop k)]).length ≤ s.length :=
      ⟨all_take i1 k, hnext, i3.append (Dg.single hv), by rw [List.length_append, List.length_singleton, List.length_take]; omega⟩
    have hmu : (rest.take k).length < rest.length := by rw [List.length_take]; omega
    cases ds with
    | nil =>
      show W J _ _ (mkA [(0, .iv (.str rest)), (2, .ptr 0 0), (3, .nilS)] [(0, .var (.agg [.sl []]))] 40) _
      repeat (first | (refine W.RS (by kernel_rfl) ?_; conv => whnf) | (refine W.R (by kernel_rfl) ?_; conv => whnf) | (refine W.S ?_) | (refine W.block ?_) | (refine W.skip ?_; conv => whnf) | (refine W.condT rfl ?_) | (refine ⟨_, c1, ?_⟩; conv => whnf) | (refine ⟨_, hmax, ?_⟩; conv => whnf) | (refine ⟨k, rfl, ?_⟩; conv => whnf) | (refine ⟨by omega, Nat.le_refl _, ?_⟩; conv => whnf) | (refine ⟨_, h32, ?_⟩; conv => whnf) | (refine ⟨by omega, by omega, ?_⟩; conv => whnf) | (refine ⟨rfl, _, w64 (by omega), ?_⟩; conv => whnf) | (refine ⟨one32, Nat.le_of_ble_eq_true rfl, Nat.le_of_ble_eq_true rfl, ?_⟩; conv => whnf) | (refine ⟨true, decide_eq_true (by omega), ?_⟩; conv => whnf) | (refine ⟨_, rfl, ?_⟩; conv => whnf) | (refine ⟨rfl, ?_⟩; conv => whnf))
      exact ⟨⟨(rest.take k, [dv (rest.drop k)]), hG⟩, Wk.tab (l := [(0, .iv (.str (rest.take k))), (2, .ptr 0 0), (3, .ref 5 0 (0 + 1) true)]) (m := [(0, .var (.agg [.sl []])), (5, .arr 173 1 ([dv (rest.drop k)].map u32) false)]) [(5, 61)] ⟨⟨rfl, rfl⟩, ⟨rfl, rfl⟩, ⟨rfl, rfl⟩, trivial⟩ ⟨rfl, rfl, trivial⟩ rfl, hmu⟩
    | cons x o =>
      show W J _ _ (mkA [(0, .iv (.str rest)), (2, .ptr 0 0), (3, .ref 5 0 (o.length + 1) true)] [(0, .var (.agg [.sl []])), (5, .arr 173 1 ((x :: o).map u32) false)] 40) _
      repeat (first | (refine W.RS (by kernel_rfl) ?_; conv => whnf) | (refine W.S ?_) | (refine W.block ?_) | (refine W.skip ?_; conv => whnf) | (refine W.condT rfl ?_) | (refine ⟨_, c1, ?_⟩; conv => whnf) | (refine ⟨_, hmax, ?_⟩; conv => whnf) | (refine ⟨k, rfl, ?_⟩; conv => whnf) | (refine ⟨by omega, Nat.le_refl _, ?_⟩; conv => whnf) | (refine ⟨_, h32, ?_⟩; conv => whnf) | (refine ⟨rfl, _, w64 (by omega), ?_⟩; conv => whnf) | (refine ⟨true, decide_eq_true (by omega), ?_⟩; conv => whnf) | (refine ⟨_, rfl, ?_⟩; conv => whnf) | (refine ⟨rfl, ?_⟩; conv => whnf))
      refine ⟨nin1 rfl, rfl, rfl, by simp, one32, ?_, ?_, ?_⟩
      · show (o.length + 1 + 1) * 4 ≤ 140737488355328
        simp at i4; omega
      · show o.length + 1 + 1 ≤ maxLen
        simp at i4
        unfold maxLen; omega
      · repeat (first | (refine W.R (by kernel_rfl) ?_; conv => whnf) | (refine ⟨k, rfl, ?_⟩; conv => whnf) | (refine ⟨by omega, by omega, ?_⟩; conv => whnf))
        refine ⟨⟨(rest.take k, x :: o ++ [dv (rest.drop k)]), hG⟩, Wk.tab (l := [(0, .iv (.str (rest.take k))), (2, .ptr 0 0), (3, .ref 5 0 ((o ++ [dv (rest.drop k)]).length + 1) true)]) (m := [(0, .var (.agg [.sl []])), (5, .arr 173 1 ((x :: (o ++ [dv (rest.drop k)])).map u32) false)]) [(5, 61)] ⟨⟨rfl, rfl⟩, ⟨rfl, rfl⟩, ⟨?_, rfl⟩, trivial⟩ ⟨rfl, ?_, trivial⟩ rfl, hmu⟩
        · refine congrArg (fun k => SV.ref 61 0 k true) ?_
          show o.length + 1 + 1 = _
          simp
        · refine congrArg (fun l => some (Bx.arr 173 1 l false)) ?_
          simp; rfl
end Go.Proofs.Fl
namespace Go.Proofs.Fl
open Go.RowKit Go.Proofs.Dig
attribute [local irreducible] IntKind.wrap PureC MutC MakC IterC
theorem base (J : Keep) : Base J := ⟨fun _ h => f135_ok J h⟩
theorem cut_len (s sep : List UInt8) : (Lib.cut s sep).1.length ≤ s.length ∧ (Lib.cut s sep).2.1.length ≤ s.length ∧ ((Lib.cut s sep).2.2 = false → (Lib.cut s sep).2.1 = []) := by
  unfold Lib.cut
  split
  · simp; omega
  · simp
theorem trimP_len (s p : List UInt8) : (Lib.trimPrefix s p).length ≤ s.length := by
  unfold Lib.trimPrefix
  split
  · simp
  · exact Nat.le_refl _
theorem digs_all {s : List UInt8} (h : digs s = true) : s.all digB = true := by
  simp only [digs, Bool.and_eq_true] at h; exact h.2
theorem intS_digs {s : List UInt8} (h : intS s = true) : digs s = true := by
  simp only [intS, Bool.and_eq_true] at h; exact h.1
theorem intS_all {s : List UInt8} (h : intS s = true) : s.all digB = true := digs_all (intS_digs h)
theorem dv_cons (c : UInt8) (l : List UInt8) : dv (c :: l) = (c.toNat - 48) * 10 ^ l.length + dv l := by
  show l.foldl _ (0 * 10 + (c.toNat - 48)) = _
  rw [dv_foldl]; simp
theorem intS_pos {s : List UInt8} (h : intS s = true) (h0 : s ≠ [48]) : 0 < dv s := by
  have hd := intS_digs h
  have ha := all_dig (intS_all h)
  cases s with
  | nil => cases hd
  | cons c s =>
    rw [dv_cons]
    have hc := ha c (by simp)
    have h48 : c.toNat ≠ 48 := fun e => by
      have ec : c = 48 := UInt8.toNat_inj.1 e
      subst ec
      simp only [intS, Bool.and_eq_true, Bool.or_eq_true, decide_eq_true_eq] at h
      rcases h.2 with h1 | h1
      · have : s = [] := List.length_eq_zero_iff.1 (by simpa using h1)
        exact h0 (by rw [this])
      · simp at h1
    have := Nat.mul_pos (show 0 < c.toNat - 48 by omega) (Nat.pow_pos (n := s.length) (show 0 < 10 by decide))
    omega
theorem ln_dv {s : List UInt8} (h : s.all digB = true) : ln (dv s) ≤ s.length := ln_le (Nat.lt_of_lt_of_le (dv_lt (all_dig h)) (Nat.pow_le_pow_left (by decide) _))
def parseQ (s : List UInt8) : Rat × Int :=
  if s.length > 1000 then (0, 5)
  else if (Lib.cut (Lib.trimPrefix s [45]) [47]).2.2 then
    if (!intS (Lib.cut (Lib.trimPrefix s [45]) [47]).1 || !intS (Lib.cut (Lib.trimPrefix s [45]) [47]).2.1) then (0, 4)
    else if (Lib.cut (Lib.trimPrefix s [45]) [47]).2.1 = [48] then (0, 9)
    else (mkRat (sv (Lib.hasPrefix s [45]) (dv (Lib.cut (Lib.trimPrefix s [45]) [47]).1)) (dv (Lib.cut (Lib.trimPrefix s [45]) [47]).2.1), 0)
  else
    let d := Lib.cut (Lib.trimPrefix s [45]) [101]
    let f := Lib.cut d.1 [46]
    let ex := Lib.trimPrefix d.2.1 [45]
    if (!intS f.1 || ((f.2.2 && !digs f.2.1) || (d.2.2 && !intS ex))) then (0, 4)
    else if dv ex > 1000 then (0, 5)
    else
      let P : Int := (if Lib.hasPrefix d.2.1 [45] then -(dv ex : Int) else (dv ex : Int)) - f.2.1.length
      (mkRat (sv (Lib.hasPrefix s [45]) (dv (f.1 ++ f.2.1) * 10 ^ P.toNat)) (10 ^ (-P).toNat), 0)
noncomputable def rePq (p : Rat × Int) : IV := .tup [qr p.1, .int .i64 p.2]
theorem rePq_zero (e : Int) : rePq (0, e) = .tup [.agg [.sl [], .bool false, .sl []], .int .i64 e] := by
  unfold rePq
  show IV.tup [qr 0, _] = _
  rw [dg_zero_qr]
theorem W.wkRS {J : Keep} {nt id : Nat} {σ σ' : AS} {K : Exit → AS → Prop} {all : Array Oper} {draw : Bool} {y : Code} (hw : Wk σ σ') (h0 : regOk nt all draw = true) (h : regP (cx J) all draw σ' fun σ' => W J nt y σ' K) : W J nt (.seq (.region id all draw) y) σ K :=
  W.weak hw (W.RS h0 h)
set_option maxHeartbeats 1000000 in
theorem parse_limit {J : Keep} {s t a b d1 d2 fa fr ex : List UInt8} {m d3 f3 dn gr gx : Bool} {E : Nat} {cv : Int} (h1000 : ¬ s.length > 1000) (c1 : C J 126 [.str s, .str [45]] (.tup [.str t, .bool m])) (c2 : C J 127 [.str t, .str [47]] (.tup [.str a, .str b, .bool false]))
    (c5 : C J 127 [.str t, .str [101]] (.tup [.str d1, .str d2, .bool d3])) (c6 : C J 127 [.str d1, .str [46]] (.tup [.str fa, .str fr, .bool f3])) (c7 : C J 126 [.str d2, .str [45]] (.tup [.str ex, .bool dn]))
    (c8 : C J 128 [.str fa] (.bool true)) (c9 : C J 132 [.str fr] (.bool gr)) (c10 : C J 128 [.str ex] (.bool gx)) (k9 : f3 = true → gr = true) (k10 : d3 = true → gx = true)
    (c11 : C J 131 [.str ex] (mag E)) (c12 : C J 134 [.int .u64 (1000 : Nat)] (mag 1000)) (c13 : C J 133 [mag E, mag 1000] (.int .i64 cv)) (hcv : cv > 0) : C J 20 [.str s] (.tup [.agg [.sl [], .bool false, .sl []], .int .i64 5]) := by
  refine fn_ok Tryz.func20 rfl rfl rfl ?_
  cases f3 with
  | true =>
    rw [k9 rfl] at c9
    cases d3 with
    | true =>
      rw [k10 rfl] at c10
      repeat (first | (refine W.wkRS (id := 16) (σ' := mkA [(2, .ptr 0 0), (4, .iv (.bool m)), (8, .iv (.str ex)), (10, .iv (.str fa)), (11, .iv (.str fr)), (13, .iv (.bool dn))] [(0, .var (.agg [.sl [], .bool false, .sl []]))] 40) (Wk.tab [] ⟨⟨rfl, rfl⟩, ⟨rfl, rfl⟩, ⟨rfl, rfl⟩, ⟨rfl, rfl⟩, ⟨rfl, rfl⟩, ⟨rfl, rfl⟩, trivial⟩ ⟨rfl, trivial⟩ rfl) (by kernel_rfl) ?_; conv => whnf) | (refine W.RS (by kernel_rfl) ?_; conv => whnf) | (refine W.S ?_) | (refine W.ret ?_; conv => whnf) | (refine W.skip ?_; conv => whnf) | (refine W.condF rfl ?_) | (refine W.condT rfl ?_) | (refine ⟨_, c1, ?_⟩; conv => whnf) | (refine ⟨_, c2, ?_⟩; conv => whnf) | (refine ⟨_, c5, ?_⟩; conv => whnf) | (refine ⟨_, c6, ?_⟩; conv => whnf) | (refine ⟨_, c7, ?_⟩; conv => whnf) | (refine ⟨_, c8, ?_⟩; conv => whnf) | (refine ⟨_, c9, ?_⟩; conv => whnf) | (refine ⟨_, c10, ?_⟩; conv => whnf) | (refine ⟨_, c11, ?_⟩; conv => whnf) | (refine ⟨_, c12, ?_⟩; conv => whnf) | (refine ⟨_, c13, ?_⟩; conv => whnf) | (refine ⟨true, decide_eq_true (by omega), ?_⟩; conv => whnf) | (refine ⟨false, decide_eq_false (by omega), ?_⟩; conv => whnf) | (refine ⟨_, rfl, ?_⟩; conv => whnf) | (refine ⟨rfl, ?_⟩; conv => whnf) | (refine ⟨_, fun h => absurd h Bool.false_ne_true, fun _ => rfl, ?_⟩; conv => whnf) | (refine ⟨_, fun _ => rfl, fun h => absurd h.symm Bool.false_ne_true, ?_⟩; conv => whnf))
      rfl
    | false =>
      repeat (first | (refine W.wkRS (id := 16) (σ' := mkA [(2, .ptr 0 0), (4, .iv (.bool m)), (8, .iv (.str ex)), (10, .iv (.str fa)), (11, .iv (.str fr)), (13, .iv (.bool dn))] [(0, .var (.agg [.sl [], .bool false, .sl []]))] 40) (Wk.tab [] ⟨⟨rfl, rfl⟩, ⟨rfl, rfl⟩, ⟨rfl, rfl⟩, ⟨rfl, rfl⟩, ⟨rfl, rfl⟩, ⟨rfl, rfl⟩, trivial⟩ ⟨rfl, trivial⟩ rfl) (by kernel_rfl) ?_; conv => whnf) | (refine W.RS (by kernel_rfl) ?_; conv => whnf) | (refine W.S ?_) | (refine W.ret ?_; conv => whnf) | (refine W.skip ?_; conv => whnf) | (refine W.condF rfl ?_) | (refine W.condT rfl ?_) | (refine ⟨_, c1, ?_⟩; conv => whnf) | (refine ⟨_, c2, ?_⟩; conv => whnf) | (refine ⟨_, c5, ?_⟩; conv => whnf) | (refine ⟨_, c6, ?_⟩; conv => whnf) | (refine ⟨_, c7, ?_⟩; conv => whnf) | (refine ⟨_, c8, ?_⟩; conv => whnf) | (refine ⟨_, c9, ?_⟩; conv => whnf) | (refine ⟨_, c11, ?_⟩; conv => whnf) | (refine ⟨_, c12, ?_⟩; conv => whnf) | (refine ⟨_, c13, ?_⟩; conv => whnf) | (refine ⟨true, decide_eq_true (by omega), ?_⟩; conv => whnf) | (refine ⟨false, decide_eq_false (by omega), ?_⟩; conv => whnf) | (refine ⟨_, rfl, ?_⟩; conv => whnf) | (refine ⟨rfl, ?_⟩; conv => whnf) | (refine ⟨_, fun h => absurd h Bool.false_ne_true, fun _ => rfl, ?_⟩; conv => whnf) | (refine ⟨_, fun _ => rfl, fun h => absurd h.symm Bool.false_ne_true, ?_⟩; conv => whnf))
      rfl
  | false =>
    cases d3 with
    | true =>
      rw [k10 rfl] at c10
      repeat (first | (refine W.wkRS (id := 16) (σ' := mkA [(2, .ptr 0 0), (4, .iv (.bool m)), (8, .iv (.str ex)), (10, .iv (.str fa)), (11, .iv (.str fr)), (13, .iv (.bool dn))] [(0, .var (.agg [.sl [], .bool false, .sl []]))] 40) (Wk.tab [] ⟨⟨rfl, rfl⟩, ⟨rfl, rfl⟩, ⟨rfl, rfl⟩, ⟨rfl, rfl⟩, ⟨rfl, rfl⟩, ⟨rfl, rfl⟩, trivial⟩ ⟨rfl, trivial⟩ rfl) (by kernel_rfl) ?_; conv => whnf) | (refine W.RS (by kernel_rfl) ?_; conv => whnf) | (refine W.S ?_) | (refine W.ret ?_; conv => whnf) | (refine W.skip ?_; conv => whnf) | (refine W.condF rfl ?_) | (refine W.condT rfl ?_) | (refine ⟨_, c1, ?_⟩; conv => whnf) | (refine ⟨_, c2, ?_⟩; conv => whnf) | (refine ⟨_, c5, ?_⟩; conv => whnf) | (refine ⟨_, c6, ?_⟩; conv => whnf) | (refine ⟨_, c7, ?_⟩; conv => whnf) | (refine ⟨_, c8, ?_⟩; conv => whnf) | (refine ⟨_, c10, ?_⟩; conv => whnf) | (refine ⟨_, c11, ?_⟩; conv => whnf) | (refine ⟨_, c12, ?_⟩; conv => whnf) | (refine ⟨_, c13, ?_⟩; conv => whnf) | (refine ⟨true, decide_eq_true (by omega), ?_⟩; conv => whnf) | (refine ⟨false, decide_eq_false (by omega), ?_⟩; conv => whnf) | (refine ⟨_, rfl, ?_⟩; conv => whnf) | (refine ⟨rfl, ?_⟩; conv => whnf) | (refine ⟨_, fun h => absurd h Bool.false_ne_true, fun _ => rfl, ?_⟩; conv => whnf) | (refine ⟨_, fun _ => rfl, fun h => absurd h.symm Bool.false_ne_true, ?_⟩; conv => whnf))
      rfl
    | false =>
      repeat (first | (refine W.wkRS (id := 16) (σ' := mkA [(2, .ptr 0 0), (4, .iv (.bool m)), (8, .iv (.str ex)), (10, .iv (.str fa)), (11, .iv (.str fr)), (13, .iv (.bool dn))] [(0, .var (.agg [.sl [], .bool false, .sl []]))] 40) (Wk.tab [] ⟨⟨rfl, rfl⟩, ⟨rfl, rfl⟩, ⟨rfl, rfl⟩, ⟨rfl, rfl⟩, ⟨rfl, rfl⟩, ⟨rfl, rfl⟩, trivial⟩ ⟨rfl, trivial⟩ rfl) (by kernel_rfl) ?_; conv => whnf) | (refine W.RS (by kernel_rfl) ?_; conv => whnf) | (refine W.S ?_) | (refine W.ret ?_; conv => whnf) | (refine W.skip ?_; conv => whnf) | (refine W.condF rfl ?_) | (refine W.condT rfl ?_) | (refine ⟨_, c1, ?_⟩; conv => whnf) | (refine ⟨_, c2, ?_⟩; conv => whnf) | (refine ⟨_, c5, ?_⟩; conv => whnf) | (refine ⟨_, c6, ?_⟩; conv => whnf) | (refine ⟨_, c7, ?_⟩; conv => whnf) | (refine ⟨_, c8, ?_⟩; conv => whnf) | (refine ⟨_, c11, ?_⟩; conv => whnf) | (refine ⟨_, c12, ?_⟩; conv => whnf) | (refine ⟨_, c13, ?_⟩; conv => whnf) | (refine ⟨true, decide_eq_true (by omega), ?_⟩; conv => whnf) | (refine ⟨false, decide_eq_false (by omega), ?_⟩; conv => whnf) | (refine ⟨_, rfl, ?_⟩; conv => whnf) | (refine ⟨rfl, ?_⟩; conv => whnf) | (refine ⟨_, fun h => absurd h Bool.false_ne_true, fun _ => rfl, ?_⟩; conv => whnf))
      rfl
end Go.Proofs.Fl
namespace Go.Proofs.Fl
open Go.RowKit Go.Proofs.Dig
attribute [local irreducible] IntKind.wrap PureC MutC MakC IterC
set_option maxHeartbeats 20000000 in
theorem parse_num {J : Keep} {s t a b d1 d2 fa fr ex : List UInt8} {m d3 f3 dn gr gx : Bool} {E : Nat} {cv : Int} (h1000 : ¬ s.length > 1000) (c1 : C J 126 [.str s, .str [45]] (.tup [.str t, .bool m])) (c2 : C J 127 [.str t, .str [47]] (.tup [.str a, .str b, .bool false]))
    (c5 : C J 127 [.str t, .str [101]] (.tup [.str d1, .str d2, .bool d3])) (c6 : C J 127 [.str d1, .str [46]] (.tup [.str fa, .str fr, .bool f3])) (c7 : C J 126 [.str d2, .str [45]] (.tup [.str ex, .bool dn]))
    (c8 : C J 128 [.str fa] (.bool true)) (c9 : C J 132 [.str fr] (.bool gr)) (c10 : C J 128 [.str ex] (.bool gx)) (k9 : f3 = true → gr = true) (k10 : d3 = true → gx = true)
    (c11 : C J 131 [.str ex] (mag E)) (c12 : C J 134 [.int .u64 (1000 : Nat)] (mag 1000)) (c13 : C J 133 [mag E, mag 1000] (.int .i64 cv)) (hcv : ¬ cv > 0) (hE : E ≤ 1000) (hfa : fa.length ≤ 1000) (hfr : fr.length ≤ 1000) {P : Int} (hP : P = (if dn = true then -(E : Int) else (E : Int)) - (fr.length : Int)) {n1 n2 M N T : Nat} {z : Int} {q : Rat}
    (m1 : (if (0 : Int) > P then 0 else P) = ((n1 : Nat) : Int)) (m2 : (if (0 : Int) > -P then 0 else -P) = ((n2 : Nat) : Int)) (hPb : -2000 ≤ P ∧ P ≤ 1000)
    (c14 : C J 135 [mag E] (.int .u64 E)) (c15 : C J 131 [.str (fa ++ fr)] (mag M)) (c16 : C J 134 [.int .u64 (10 : Nat)] (mag 10)) (c17 : C J 137 [mag 10, .int .i64 (n1 : Nat)] (mag T)) (c18 : C J 137 [mag 10, .int .i64 (n2 : Nat)] (mag (10 ^ n2)))
    (c19 : C J 136 [mag M, mag T] (mag N)) (c20 : C J 130 [.bool m, mag N] (zd z)) (c21 : C J 129 [zd z, mag (10 ^ n2)] (qr q)) : C J 20 [.str s] (rePq (q, 0)) := by
  refine fn_ok Tryz.func20 rfl rfl rfl ?_
  cases dn with
  | true =>
    rw [if_pos rfl] at hP
    have hP' : P = 0 - (E : Int) - (fr.length : Int) := by omega
    subst hP'
    rw [← Int.zero_sub] at m2
    cases f3 with
    | true =>
      rw [k9 rfl] at c9
      cases d3 with
      | true =>
        rw [k10 rfl] at c10
        repeat (first | (refine W.wkRS (id := 16) (σ' := mkA [(2, .ptr 0 0), (4, .iv (.bool m)), (8, .iv (.str ex)), (10, .iv (.str fa)), (11, .iv (.str fr)), (13, .iv (.bool true))] [(0, .var (.agg [.sl [], .bool false, .sl []]))] 40) (Wk.tab [] ⟨⟨rfl, rfl⟩, ⟨rfl, rfl⟩, ⟨rfl, rfl⟩, ⟨rfl, rfl⟩, ⟨rfl, rfl⟩, ⟨rfl, rfl⟩, trivial⟩ ⟨rfl, trivial⟩ rfl) (by kernel_rfl) ?_; conv => whnf) | (refine W.RS (by kernel_rfl) ?_; conv => whnf) | (refine W.R (by kernel_rfl) ?_; conv => whnf) | (refine W.S ?_) | (refine W.ret ?_; conv => whnf) | (refine W.skip ?_; conv => whnf) | (refine W.condF rfl ?_) | (refine W.condT rfl ?_) | (refine ⟨_, c1, ?_⟩; conv => whnf) | (refine ⟨_, c2, ?_⟩; conv => whnf) | (refine ⟨_, c5, ?_⟩; conv => whnf) | (refine ⟨_, c6, ?_⟩; conv => whnf) | (refine ⟨_, c7, ?_⟩; conv => whnf) | (refine ⟨_, c8, ?_⟩; conv => whnf) | (refine ⟨_, c9, ?_⟩; conv => whnf) | (refine ⟨_, c10, ?_⟩; conv => whnf) | (refine ⟨_, c11, ?_⟩; conv => whnf) | (refine ⟨_, c12, ?_⟩; conv => whnf) | (refine ⟨_, c13, ?_⟩; conv => whnf) | (refine ⟨_, c14, ?_⟩; conv => whnf) | (refine ⟨_, c15, ?_⟩; conv => whnf) | (refine ⟨_, c16, ?_⟩; conv => whnf) | (refine ⟨_, c17, ?_⟩; conv => whnf) | (refine ⟨_, c18, ?_⟩; conv => whnf) | (refine ⟨_, c19, ?_⟩; conv => whnf) | (refine ⟨_, c20, ?_⟩; conv => whnf) | (refine ⟨_, c21, ?_⟩; conv => whnf) | (refine ⟨_, m1, ?_⟩; conv => whnf) | (refine ⟨_, m2, ?_⟩; conv => whnf) | (refine ⟨rfl, _, w64 (by omega), ?_⟩; conv => whnf) | (refine ⟨_, w64 (by omega), ?_⟩; conv => whnf) | (refine ⟨false, decide_eq_false (by omega), ?_⟩; conv => whnf) | (refine ⟨_, rfl, ?_⟩; conv => whnf) | (refine ⟨rfl, ?_⟩; conv => whnf) | (refine And.intro (by omega) ?_; conv => whnf) | (refine ⟨_, fun h => absurd h Bool.false_ne_true, fun _ => rfl, ?_⟩; conv => whnf) | (refine ⟨_, fun _ => rfl, fun h => absurd h.symm Bool.false_ne_true, ?_⟩; conv => whnf))
        rfl
      | false =>
        repeat (first | (refine W.wkRS (id := 16) (σ' := mkA [(2, .ptr 0 0), (4, .iv (.bool m)), (8, .iv (.str ex)), (10, .iv (.str fa)), (11, .iv (.str fr)), (13, .iv (.bool true))] [(0, .var (.agg [.sl [], .bool false, .sl []]))] 40) (Wk.tab [] ⟨⟨rfl, rfl⟩, ⟨rfl, rfl⟩, ⟨rfl, rfl⟩, ⟨rfl, rfl⟩, ⟨rfl, rfl⟩, ⟨rfl, rfl⟩, trivial⟩ ⟨rfl, trivial⟩ rfl) (by kernel_rfl) ?_; conv => whnf) | (refine W.RS (by kernel_rfl) ?_; conv => whnf) | (refine W.R (by kernel_rfl) ?_; conv => whnf) | (refine W.S ?_) | (refine W.ret ?_; conv => whnf) | (refine W.skip ?_; conv => whnf) | (refine W.condF rfl ?_) | (refine W.condT rfl ?_) | (refine ⟨_, c1, ?_⟩; conv => whnf) | (refine ⟨_, c2, ?_⟩; conv => whnf) | (refine ⟨_, c5, ?_⟩; conv => whnf) | (refine ⟨_, c6, ?_⟩; conv => whnf) | (refine ⟨_, c7, ?_⟩; conv => whnf) | (refine ⟨_, c8, ?_⟩; conv => whnf) | (refine ⟨_, c9, ?_⟩; conv => whnf) | (refine ⟨_, c11, ?_⟩; conv => whnf) | (refine ⟨_, c12, ?_⟩; conv => whnf) | (refine ⟨_, c13, ?_⟩; conv => whnf) | (refine ⟨_, c14, ?_⟩; conv => whnf) | (refine ⟨_, c15, ?_⟩; conv => whnf) | (refine ⟨_, c16, ?_⟩; conv => whnf) | (refine ⟨_, c17, ?_⟩; conv => whnf) | (refine ⟨_, c18, ?_⟩; conv => whnf) | (refine ⟨_, c19, ?_⟩; conv => whnf) | (refine ⟨_, c20, ?_⟩; conv => whnf) | (refine ⟨_, c21, ?_⟩; conv => whnf) | (refine ⟨_, m1, ?_⟩; conv => whnf) | (refine ⟨_, m2, ?_⟩; conv => whnf) | (refine ⟨rfl, _, w64 (by omega), ?_⟩; conv => whnf) | (refine ⟨_, w64 (by omega), ?_⟩; conv => whnf) | (refine ⟨false, decide_eq_false (by omega), ?_⟩; conv => whnf) | (refine ⟨_, rfl, ?_⟩; conv => whnf) | (refine ⟨rfl, ?_⟩; conv => whnf) | (refine And.intro (by omega) ?_; conv => whnf) | (refine ⟨_, fun h => absurd h Bool.false_ne_true, fun _ => rfl, ?_⟩; conv => whnf) | (refine ⟨_, fun _ => rfl, fun h => absurd h.symm Bool.false_ne_true, ?_⟩; conv => whnf))
        rfl
    | false =>
      cases d3 with
      | true =>
        rw [k10 rfl] at c10
        repeat (first | (refine W.wkRS (id := 16) (σ' := mkA [(2, .ptr 0 0), (4, .iv (.bool m)), (8, .iv (.str ex)), (10, .iv (.str fa)), (11, .iv (.str fr)), (13, .iv (.bool true))] [(0, .var (.agg [.sl [], .bool false, .sl []]))] 40) (Wk.tab [] ⟨⟨rfl, rfl⟩, ⟨rfl, rfl⟩, ⟨rfl, rfl⟩, ⟨rfl, rfl⟩, ⟨rfl, rfl⟩, ⟨rfl, rfl⟩, trivial⟩ ⟨rfl, trivial⟩ rfl) (by kernel_rfl) ?_; conv => whnf) | (refine W.RS (by kernel_rfl) ?_; conv => whnf) | (refine W.R (by kernel_rfl) ?_; conv => whnf) | (refine W.S ?_) | (refine W.ret ?_; conv => whnf) | (refine W.skip ?_; conv => whnf) | (refine W.condF rfl ?_) | (refine W.condT rfl ?_) | (refine ⟨_, c1, ?_⟩; conv => whnf) | (refine ⟨_, c2, ?_⟩; conv => whnf) | (refine ⟨_, c5, ?_⟩; conv => whnf) | (refine ⟨_, c6, ?_⟩; conv => whnf) | (refine ⟨_, c7, ?_⟩; conv => whnf) | (refine ⟨_, c8, ?_⟩; conv => whnf) | (refine ⟨_, c10, ?_⟩; conv => whnf) | (refine ⟨_, c11, ?_⟩; conv => whnf) | (refine ⟨_, c12, ?_⟩; conv => whnf) | (refine ⟨_, c13, ?_⟩; conv => whnf) | (refine ⟨_, c14, ?_⟩; conv => whnf) | (refine ⟨_, c15, ?_⟩; conv => whnf) | (refine ⟨_, c16, ?_⟩; conv => whnf) | (refine ⟨_, c17, ?_⟩; conv => whnf) | (refine ⟨_, c18, ?_⟩; conv => whnf) | (refine ⟨_, c19, ?_⟩; conv => whnf) | (refine ⟨_, c20, ?_⟩; conv => whnf) | (refine ⟨_, c21, ?_⟩; conv => whnf) | (refine ⟨_, m1, ?_⟩; conv => whnf) | (refine ⟨_, m2, ?_⟩; conv => whnf) | (refine ⟨rfl, _, w64 (by omega), ?_⟩; conv => whnf) | (refine ⟨_, w64 (by omega), ?_⟩; conv => whnf) | (refine ⟨false, decide_eq_false (by omega), ?_⟩; conv => whnf) | (refine ⟨_, rfl, ?_⟩; conv => whnf) | (refine ⟨rfl, ?_⟩; conv => whnf) | (refine And.intro (by omega) ?_; conv => whnf) | (refine ⟨_, fun h => absurd h Bool.false_ne_true, fun _ => rfl, ?_⟩; conv => whnf) | (refine ⟨_, fun _ => rfl, fun h => absurd h.symm Bool.false_ne_true, ?_⟩; conv => whnf))
        rfl
      | false =>
        repeat (first | (refine W.wkRS (id := 16) (σ' := mkA [(2, .ptr 0 0), (4, .iv (.bool m)), (8, .iv (.str ex)), (10, .iv (.str fa)), (11, .iv (.str fr)), (13, .iv (.bool true))] [(0, .var (.agg [.sl [], .bool false, .sl []]))] 40) (Wk.tab [] ⟨⟨rfl, rfl⟩, ⟨rfl, rfl⟩, ⟨rfl, rfl⟩, ⟨rfl, rfl⟩, ⟨rfl, rfl⟩, ⟨rfl, rfl⟩, trivial⟩ ⟨rfl, trivial⟩ rfl) (by kernel_rfl) ?_; conv => whnf) | (refine W.RS (by kernel_rfl) ?_; conv => whnf) | (refine W.R (by kernel_rfl) ?_; conv => whnf) | (refine W.S ?_) | (refine W.ret ?_; conv => whnf) | (refine W.skip ?_; conv => whnf) | (refine W.condF rfl ?_) | (refine W.condT rfl ?_) | (refine ⟨_, c1, ?_⟩; conv => whnf) | (refine ⟨_, c2, ?_⟩; conv => whnf) | (refine ⟨_, c5, ?_⟩; conv => whnf) | (refine ⟨_, c6, ?_⟩; conv => whnf) | (refine ⟨_, c7, ?_⟩; conv => whnf) | (refine ⟨_, c8, ?_⟩; conv => whnf) | (refine ⟨_, c11, ?_⟩; conv => whnf) | (refine ⟨_, c12, ?_⟩; conv => whnf) | (refine ⟨_, c13, ?_⟩; conv => whnf) | (refine ⟨_, c14, ?_⟩; conv => whnf) | (refine ⟨_, c15, ?_⟩; conv => whnf) | (refine ⟨_, c16, ?_⟩; conv => whnf) | (refine ⟨_, c17, ?_⟩; conv => whnf) | (refine ⟨_, c18, ?_⟩; conv => whnf) | (refine ⟨_, c19, ?_⟩; conv => whnf) | (refine ⟨_, c20, ?_⟩; conv => whnf) | (refine ⟨_, c21, ?_⟩; conv => whnf) | (refine ⟨_, m1, ?_⟩; conv => whnf) | (refine ⟨_, m2, ?_⟩; conv => whnf) | (refine ⟨rfl, _, w64 (by omega), ?_⟩; conv => whnf) | (refine ⟨_, w64 (by omega), ?_⟩; conv => whnf) | (refine ⟨false, decide_eq_false (by omega), ?_⟩; conv => whnf) | (refine ⟨_, rfl, ?_⟩; conv => whnf) | (refine ⟨rfl, ?_⟩; conv => whnf) | (refine And.intro (by omega) ?_; conv => whnf) | (refine ⟨_, fun h => absurd h Bool.false_ne_true, fun _ => rfl, ?_⟩; conv => whnf))
        rfl
  | false =>
    rw [if_neg (by simp)] at hP
    have hP' : P = (E : Int) - (fr.length : Int) := hP
    subst hP'
    rw [← Int.zero_sub] at m2
    cases f3 with
    | true =>
      rw [k9 rfl] at c9
      cases d3 with
      | true =>
        rw [k10 rfl] at c10
        repeat (first | (refine W.wkRS (id := 16) (σ' := mkA [(2, .ptr 0 0), (4, .iv (.bool m)), (8, .iv (.str ex)), (10, .iv (.str fa)), (11, .iv (.str fr)), (13, .iv (.bool false))] [(0, .var (.agg [.sl [], .bool false, .sl []]))] 40) (Wk.tab [] ⟨⟨rfl, rfl⟩, ⟨rfl, rfl⟩, ⟨rfl, rfl⟩, ⟨rfl, rfl⟩, ⟨rfl, rfl⟩, ⟨rfl, rfl⟩, trivial⟩ ⟨rfl, trivial⟩ rfl) (by kernel_rfl) ?_; conv => whnf) | (refine W.RS (by kernel_rfl) ?_; conv => whnf) | (refine W.S ?_) | (refine W.ret ?_; conv => whnf) | (refine W.skip ?_; conv => whnf) | (refine W.condF rfl ?_) | (refine ⟨_, c1, ?_⟩; conv => whnf) | (refine ⟨_, c2, ?_⟩; conv => whnf) | (refine ⟨_, c5, ?_⟩; conv => whnf) | (refine ⟨_, c6, ?_⟩; conv => whnf) | (refine ⟨_, c7, ?_⟩; conv => whnf) | (refine ⟨_, c8, ?_⟩; conv => whnf) | (refine ⟨_, c9, ?_⟩; conv => whnf) | (refine ⟨_, c10, ?_⟩; conv => whnf) | (refine ⟨_, c11, ?_⟩; conv => whnf) | (refine ⟨_, c12, ?_⟩; conv => whnf) | (refine ⟨_, c13, ?_⟩; conv => whnf) | (refine ⟨_, c14, ?_⟩; conv => whnf) | (refine ⟨_, c15, ?_⟩; conv => whnf) | (refine ⟨_, c16, ?_⟩; conv => whnf) | (refine ⟨_, c17, ?_⟩; conv => whnf) | (refine ⟨_, c18, ?_⟩; conv => whnf) | (refine ⟨_, c19, ?_⟩; conv => whnf) | (refine ⟨_, c20, ?_⟩; conv => whnf) | (refine ⟨_, c21, ?_⟩; conv => whnf) | (refine ⟨_, m1, ?_⟩; conv => whnf) | (refine ⟨_, m2, ?_⟩; conv => whnf) | (refine ⟨rfl, _, w64 (by omega), ?_⟩; conv => whnf) | (refine ⟨_, w64 (by omega), ?_⟩; conv => whnf) | (refine ⟨false, decide_eq_false (by omega), ?_⟩; conv => whnf) | (refine ⟨_, rfl, ?_⟩; conv => whnf) | (refine ⟨rfl, ?_⟩; conv => whnf) | (refine And.intro (by omega) ?_; conv => whnf) | (refine ⟨_, fun h => absurd h Bool.false_ne_true, fun _ => rfl, ?_⟩; conv => whnf) | (refine ⟨_, fun _ => rfl, fun h => absurd h.symm Bool.false_ne_true, ?_⟩; conv => whnf))
        rfl
      | false =>
        repeat (first | (refine W.wkRS (id := 16) (σ' := mkA [(2, .ptr 0 0), (4, .iv (.bool m)), (8, .iv (.str ex)), (10, .iv (.str fa)), (11, .iv (.str fr)), (13, .iv (.bool false))] [(0, .var (.agg [.sl [], .bool false, .sl []]))] 40) (Wk.tab [] ⟨⟨rfl, rfl⟩, ⟨rfl, rfl⟩, ⟨rfl, rfl⟩, ⟨rfl, rfl⟩, ⟨rfl, rfl⟩, ⟨rfl, rfl⟩, trivial⟩ ⟨rfl, trivial⟩ rfl) (by kernel_rfl) ?_; conv => whnf) | (refine W.RS (by kernel_rfl) ?_; conv => whnf) | (refine W.S ?_) | (refine W.ret ?_; conv => whnf) | (refine W.skip ?_; conv => whnf) | (refine W.condF rfl ?_) | (refine ⟨_, c1, ?_⟩; conv => whnf) | (refine ⟨_, c2, ?_⟩; conv => whnf) | (refine ⟨_, c5, ?_⟩; conv => whnf) | (refine ⟨_, c6, ?_⟩; conv => whnf) | (refine ⟨_, c7, ?_⟩; conv => whnf) | (refine ⟨_, c8, ?_⟩; conv => whnf) | (refine ⟨_, c9, ?_⟩; conv => whnf) | (refine ⟨_, c11, ?_⟩; conv => whnf) | (refine ⟨_, c12, ?_⟩; conv => whnf) | (refine ⟨_, c13, ?_⟩; conv => whnf) | (refine ⟨_, c14, ?_⟩; conv => whnf) | (refine ⟨_, c15, ?_⟩; conv => whnf) | (refine ⟨_, c16, ?_⟩; conv => whnf) | (refine ⟨_, c17, ?_⟩; conv => whnf) | (refine ⟨_, c18, ?_⟩; conv => whnf) | (refine ⟨_, c19, ?_⟩; conv => whnf) | (refine ⟨_, c20, ?_⟩; conv => whnf) | (refine ⟨_, c21, ?_⟩; conv => whnf) | (refine ⟨_, m1, ?_⟩; conv => whnf) | (refine ⟨_, m2, ?_⟩; conv => whnf) | (refine ⟨rfl, _, w64 (by omega), ?_⟩; conv => whnf) | (refine ⟨_, w64 (by omega), ?_⟩; conv => whnf) | (refine ⟨false, decide_eq_false (by omega), ?_⟩; conv => whnf) | (refine ⟨_, rfl, ?_⟩; conv => whnf) | (refine ⟨rfl, ?_⟩; conv => whnf) | (refine And.intro (by omega) ?_; conv => whnf) | (refine ⟨_, fun h => absurd h Bool.false_ne_true, fun _ => rfl, ?_⟩; conv => whnf) | (refine ⟨_, fun _ => rfl, fun h => absurd h.symm Bool.false_ne_true, ?_⟩; conv => whnf))
        rfl
    | false =>
      cases d3 with
      | true =>
        rw [k10 rfl] at c10
        repeat (first | (refine W.wkRS (id := 16) (σ' := mkA [(2, .ptr 0 0), (4, .iv (.bool m)), (8, .iv (.str ex)), (10, .iv (.str fa)), (11, .iv (.str fr)), (13, .iv (.bool false))] [(0, .var (.agg [.sl [], .bool false, .sl []]))] 40) (Wk.tab [] ⟨⟨rfl, rfl⟩, ⟨rfl, rfl⟩, ⟨rfl, rfl⟩, ⟨rfl, rfl⟩, ⟨rfl, rfl⟩, ⟨rfl, rfl⟩, trivial⟩ ⟨rfl, trivial⟩ rfl) (by kernel_rfl) ?_; conv => whnf) | (refine W.RS (by kernel_rfl) ?_; conv => whnf) | (refine W.S ?_) | (refine W.ret ?_; conv => whnf) | (refine W.skip ?_; conv => whnf) | (refine W.condF rfl ?_) | (refine ⟨_, c1, ?_⟩; conv => whnf) | (refine ⟨_, c2, ?_⟩; conv => whnf) | (refine ⟨_, c5, ?_⟩; conv => whnf) | (refine ⟨_, c6, ?_⟩; conv => whnf) | (refine ⟨_, c7, ?_⟩; conv => whnf) | (refine ⟨_, c8, ?_⟩; conv => whnf) | (refine ⟨_, c10, ?_⟩; conv => whnf) | (refine ⟨_, c11, ?_⟩; conv => whnf) | (refine ⟨_, c12, ?_⟩; conv => whnf) | (refine ⟨_, c13, ?_⟩; conv => whnf) | (refine ⟨_, c14, ?_⟩; conv => whnf) | (refine ⟨_, c15, ?_⟩; conv => whnf) | (refine ⟨_, c16, ?_⟩; conv => whnf) | (refine ⟨_, c17, ?_⟩; conv => whnf) | (refine ⟨_, c18, ?_⟩; conv => whnf) | (refine ⟨_, c19, ?_⟩; conv => whnf) | (refine ⟨_, c20, ?_⟩; conv => whnf) | (refine ⟨_, c21, ?_⟩; conv => whnf) | (refine ⟨_, m1, ?_⟩; conv => whnf) | (refine ⟨_, m2, ?_⟩; conv => whnf) | (refine ⟨rfl, _, w64 (by omega), ?_⟩; conv => whnf) | (refine ⟨_, w64 (by omega), ?_⟩; conv => whnf) | (refine ⟨false, decide_eq_false (by omega), ?_⟩; conv => whnf) | (refine ⟨_, rfl, ?_⟩; conv => whnf) | (refine ⟨rfl, ?_⟩; conv => whnf) | (refine And.intro (by omega) ?_; conv => whnf) | (refine ⟨_, fun h => absurd h Bool.false_ne_true, fun _ => rfl, ?_⟩; conv => whnf) | (refine ⟨_, fun _ => rfl, fun h => absurd h.symm Bool.false_ne_true, ?_⟩; conv => whnf))
        rfl
      | false =>
        repeat (first | (refine W.wkRS (id := 16) (σ' := mkA [(2, .ptr 0 0), (4, .iv (.bool m)), (8, .iv (.str ex)), (10, .iv (.str fa)), (11, .iv (.str fr)), (13, .iv (.bool false))] [(0, .var (.agg [.sl [], .bool false, .sl []]))] 40) (Wk.tab [] ⟨⟨rfl, rfl⟩, ⟨rfl, rfl⟩, ⟨rfl, rfl⟩, ⟨rfl, rfl⟩, ⟨rfl, rfl⟩, ⟨rfl, rfl⟩, trivial⟩ ⟨rfl, trivial⟩ rfl) (by kernel_rfl) ?_; conv => whnf) | (refine W.RS (by kernel_rfl) ?_; conv => whnf) | (refine W.S ?_) | (refine W.ret ?_; conv => whnf) | (refine W.skip ?_; conv => whnf) | (refine W.condF rfl ?_) | (refine ⟨_, c1, ?_⟩; conv => whnf) | (refine ⟨_, c2, ?_⟩; conv => whnf) | (refine ⟨_, c5, ?_⟩; conv => whnf) | (refine ⟨_, c6, ?_⟩; conv => whnf) | (refine ⟨_, c7, ?_⟩; conv => whnf) | (refine ⟨_, c8, ?_⟩; conv => whnf) | (refine ⟨_, c11, ?_⟩; conv => whnf) | (refine ⟨_, c12, ?_⟩; conv => whnf) | (refine ⟨_, c13, ?_⟩; conv => whnf) | (refine ⟨_, c14, ?_⟩; conv => whnf) | (refine ⟨_, c15, ?_⟩; conv => whnf) | (refine ⟨_, c16, ?_⟩; conv => whnf) | (refine ⟨_, c17, ?_⟩; conv => whnf) | (refine ⟨_, c18, ?_⟩; conv => whnf) | (refine ⟨_, c19, ?_⟩; conv => whnf) | (refine ⟨_, c20, ?_⟩; conv => whnf) | (refine ⟨_, c21, ?_⟩; conv => whnf) | (refine ⟨_, m1, ?_⟩; conv => whnf) | (refine ⟨_, m2, ?_⟩; conv => whnf) | (refine ⟨rfl, _, w64 (by omega), ?_⟩; conv => whnf) | (refine ⟨_, w64 (by omega), ?_⟩; conv => whnf) | (refine ⟨false, decide_eq_false (by omega), ?_⟩; conv => whnf) | (refine ⟨_, rfl, ?_⟩; conv => whnf) | (refine ⟨rfl, ?_⟩; conv => whnf) | (refine And.intro (by omega) ?_; conv => whnf) | (refine ⟨_, fun h => absurd h Bool.false_ne_true, fun _ => rfl, ?_⟩; conv => whnf))
        rfl
end Go.Proofs.Fl
namespace Go.Proofs.Fl
open Go.RowKit Go.Proofs.Dig
attribute [local irreducible] IntKind.wrap PureC MutC MakC IterC
set_option maxHeartbeats 4000000 in
theorem f20_ok {J : Keep} (L : LibI J) {s : List UInt8} (hs : s.length < 2 ^ 31) : C J 20 [.str s] (rePq (parseQ s)) := by
  unfold parseQ
  by_cases h1000 : s.length > 1000
  · rw [if_pos h1000, rePq_zero]
    refine fn_ok Tryz.func20 rfl rfl rfl ?_
    repeat (first | (refine W.RS (by kernel_rfl) ?_; conv => whnf) | (refine W.S ?_) | (refine W.ret ?_; conv => whnf) | (refine W.condT rfl ?_) | (refine ⟨true, decide_eq_true (by omega), ?_⟩; conv => whnf) | (refine ⟨_, rfl, ?_⟩; conv => whnf) | (refine ⟨rfl, ?_⟩; conv => whnf))
    rfl
  · rw [if_neg h1000]
    have c1 := f126_ok J s [45]
    obtain ⟨m, hm⟩ : ∃ m, Lib.hasPrefix s [45] = m := ⟨_, rfl⟩
    have l1 := trimP_len s [45]
    obtain ⟨t, ht⟩ : ∃ t, Lib.trimPrefix s [45] = t := ⟨_, rfl⟩
    rw [hm, ht] at c1
    rw [ht] at l1
    simp only [hm, ht]
    have c2 := f127_ok L (s := t) (p := [47]) (by omega)
    obtain ⟨k1, k2, k3⟩ := cut_len t [47]
    obtain ⟨a, ha⟩ : ∃ a, (Lib.cut t [47]).1 = a := ⟨_, rfl⟩
    obtain ⟨b, hb⟩ : ∃ b, (Lib.cut t [47]).2.1 = b := ⟨_, rfl⟩
    obtain ⟨z, hz⟩ : ∃ z, (Lib.cut t [47]).2.2 = z := ⟨_, rfl⟩
    rw [ha, hb, hz] at c2
    rw [ha] at k1
    rw [hb] at k2 k3
    rw [ha, hb, hz]
    have c3 := f128_ok J (s := a) (by omega)
    have c4 := f128_ok J (s := b) (by omega)
    cases z with
    | true =>
      rw [if_pos rfl]
      cases hia : intS a with
      | false =>
        rw [hia] at c3
        rw [show (!false || !intS b) = true by simp, if_pos rfl, rePq_zero]
        refine fn_ok Tryz.func20 rfl rfl rfl ?_
        repeat (first | (refine W.RS (by kernel_rfl) ?_; conv => whnf) | (refine W.S ?_) | (refine W.block ?_) | (refine W.ret ?_; conv => whnf) | (refine W.skip ?_; conv => whnf) | (refine W.condF rfl ?_) | (refine W.condT rfl ?_) | (refine ⟨_, c1, ?_⟩; conv => whnf) | (refine ⟨_, c2, ?_⟩; conv => whnf) | (refine ⟨_, c3, ?_⟩; conv => whnf) | (refine ⟨false, decide_eq_false (by omega), ?_⟩; conv => whnf) | (refine ⟨_, rfl, ?_⟩; conv => whnf) | (refine ⟨rfl, ?_⟩; conv => whnf) | (refine ⟨_, fun _ => rfl, fun h => absurd h.symm Bool.false_ne_true, ?_⟩; conv => whnf))
        rfl
      | true =>
        rw [hia] at c3
        cases hib : intS b with
        | false =>
          rw [hib] at c4
          rw [show (!true || !false) = true by rfl, if_pos rfl, rePq_zero]
          refine fn_ok Tryz.func20 rfl rfl rfl ?_
          repeat (first | (refine W.RS (by kernel_rfl) ?_; conv => whnf) | (refine W.S ?_) | (refine W.block ?_) | (refine W.ret ?_; conv => whnf) | (refine W.skip ?_; conv => whnf) | (refine W.condF rfl ?_) | (refine W.condT rfl ?_) | (refine ⟨_, c1, ?_⟩; conv => whnf) | (refine ⟨_, c2, ?_⟩; conv => whnf) | (refine ⟨_, c3, ?_⟩; conv => whnf) | (refine ⟨_, c4, ?_⟩; conv => whnf) | (refine ⟨false, decide_eq_false (by omega), ?_⟩; conv => whnf) | (refine ⟨_, rfl, ?_⟩; conv => whnf) | (refine ⟨rfl, ?_⟩; conv => whnf) | (refine ⟨_, fun h => absurd h Bool.false_ne_true, fun _ => rfl, ?_⟩; conv => whnf))
          rfl
        | true =>
          rw [hib] at c4
          rw [show (!true || !true) = false by rfl, if_neg (by simp)]
          by_cases hb0 : b = [48]
          · have e : (b == [48]) = true := by rw [beq_iff_eq]; exact hb0
            rw [if_pos hb0, rePq_zero]
            refine fn_ok Tryz.func20 rfl rfl rfl ?_
            repeat (first | (refine W.RS (by kernel_rfl) ?_; conv => whnf) | (refine W.S ?_) | (refine W.block ?_) | (refine W.ret ?_; conv => whnf) | (refine W.skip ?_; conv => whnf) | (refine W.condF rfl ?_) | (refine W.condT rfl ?_) | (refine ⟨_, c1, ?_⟩; conv => whnf) | (refine ⟨_, c2, ?_⟩; conv => whnf) | (refine ⟨_, c3, ?_⟩; conv => whnf) | (refine ⟨_, c4, ?_⟩; conv => whnf) | (refine ⟨_, e, ?_⟩; conv => whnf) | (refine ⟨false, decide_eq_false (by omega), ?_⟩; conv => whnf) | (refine ⟨_, rfl, ?_⟩; conv => whnf) | (refine ⟨rfl, ?_⟩; conv => whnf) | (refine ⟨_, fun h => absurd h Bool.false_ne_true, fun _ => rfl, ?_⟩; conv => whnf))
            rfl
          · have e : (b == [48]) = false := by rw [beq_eq_false_iff_ne]; exact hb0
            rw [if_neg hb0]
            have l3 := ln_dv (intS_all hia)
            have l4 := ln_dv (intS_all hib)
            have c5 := f131_ok J (intS_all hia) (by omega)
            have c6 := f131_ok J (intS_all hib) (by omega)
            have c7 := f130_ok J m (dv a)
            have e7 : (sv m (dv a)).natAbs = dv a := by unfold sv; split <;> omega
            have c8 := f129_ok (base J) (z := sv m (dv a)) (intS_pos hib hb0) (by rw [e7]; omega) (by omega)
            refine fn_ok Tryz.func20 rfl rfl rfl ?_
            repeat (first | (refine W.RS (by kernel_rfl) ?_; conv => whnf) | (refine W.S ?_) | (refine W.block ?_) | (refine W.ret ?_; conv => whnf) | (refine W.skip ?_; conv => whnf) | (refine W.condF rfl ?_) | (refine W.condT rfl ?_) | (refine ⟨_, c1, ?_⟩; conv => whnf) | (refine ⟨_, c2, ?_⟩; conv => whnf) | (refine ⟨_, c3, ?_⟩; conv => whnf) | (refine ⟨_, c4, ?_⟩; conv => whnf) | (refine ⟨_, e, ?_⟩; conv => whnf) | (refine ⟨_, c5, ?_⟩; conv => whnf) | (refine ⟨_, c6, ?_⟩; conv => whnf) | (refine ⟨_, c7, ?_⟩; conv => whnf) | (refine ⟨_, c8, ?_⟩; conv => whnf) | (refine ⟨false, decide_eq_false (by omega), ?_⟩; conv => whnf) | (refine ⟨_, rfl, ?_⟩; conv => whnf) | (refine ⟨rfl, ?_⟩; conv => whnf) | (refine ⟨_, fun h => absurd h Bool.false_ne_true, fun _ => rfl, ?_⟩; conv => whnf))
            rfl
    | false =>
      rw [if_neg (by simp)]
      have c5 := f127_ok L (s := t) (p := [101]) (by omega)
      obtain ⟨p1, p2, p3⟩ := cut_len t [101]
      obtain ⟨d1, hd1⟩ : ∃ x, (Lib.cut t [101]).1 = x := ⟨_, rfl⟩
      obtain ⟨d2, hd2⟩ : ∃ x, (Lib.cut t [101]).2.1 = x := ⟨_, rfl⟩
      obtain ⟨d3, hd3⟩ : ∃ x, (Lib.cut t [101]).2.2 = x := ⟨_, rfl⟩
      simp only [hd1, hd2, hd3] at c5 p1 p2 p3 ⊢
      have c6 := f127_ok L (s := d1) (p := [46]) (by omega)
      obtain ⟨q1, q2, q3⟩ := cut_len d1 [46]
      obtain ⟨fa, hf1⟩ : ∃ x, (Lib.cut d1 [46]).1 = x := ⟨_, rfl⟩
      obtain ⟨fr, hf2⟩ : ∃ x, (Lib.cut d1 [46]).2.1 = x := ⟨_, rfl⟩
      obtain ⟨f3, hf3⟩ : ∃ x, (Lib.cut d1 [46]).2.2 = x := ⟨_, rfl⟩
      simp only [hf1, hf2, hf3] at c6 q1 q2 q3 ⊢
      have c7 := f126_ok J d2 [45]
      have r1 := trimP_len d2 [45]
      have r2 : d2 = [] → Lib.trimPrefix d2 [45] = [] := fun e => by rw [e]; rfl
      obtain ⟨ex, hex⟩ : ∃ x, Lib.trimPrefix d2 [45] = x := ⟨_, rfl⟩
      obtain ⟨dn, hdn⟩ : ∃ x, Lib.hasPrefix d2 [45] = x := ⟨_, rfl⟩
      simp only [hex, hdn] at c7 r1 r2 ⊢
      have c8 := f128_ok J (s := fa) (by omega)
      have c9 := f132_ok J (s := fr) (by omega)
      have c10 := f128_ok J (s := ex) (by omega)
      cases hx : (!intS fa || ((f3 && !digs fr) || (d3 && !intS ex))) with
      | true =>
        rw [if_pos rfl, rePq_zero]
        cases h1 : intS fa with
        | false =>
          rw [h1] at c8
          refine fn_ok Tryz.func20 rfl rfl rfl ?_
          repeat (first | (refine W.RS (by kernel_rfl) ?_; conv => whnf) | (refine W.S ?_) | (refine W.ret ?_; conv => whnf) | (refine W.skip ?_; conv => whnf) | (refine W.condF rfl ?_) | (refine W.condT rfl ?_) | (refine ⟨_, c1, ?_⟩; conv => whnf) | (refine ⟨_, c2, ?_⟩; conv => whnf) | (refine ⟨_, c5, ?_⟩; conv => whnf) | (refine ⟨_, c6, ?_⟩; conv => whnf) | (refine ⟨_, c7, ?_⟩; conv => whnf) | (refine ⟨_, c8, ?_⟩; conv => whnf) | (refine ⟨false, decide_eq_false (by omega), ?_⟩; conv => whnf) | (refine ⟨_, rfl, ?_⟩; conv => whnf) | (refine ⟨rfl, ?_⟩; conv => whnf) | (refine ⟨_, fun _ => rfl, fun h => absurd h.symm Bool.false_ne_true, ?_⟩; conv => whnf))
          rfl
        | true =>
          rw [h1] at c8 hx
          cases f3 with
          | true =>
            cases h2 : digs fr with
            | false =>
              rw [h2] at c9
              refine fn_ok Tryz.func20 rfl rfl rfl ?_
              repeat (first | (refine W.RS (by kernel_rfl) ?_; conv => whnf) | (refine W.S ?_) | (refine W.ret ?_; conv => whnf) | (refine W.skip ?_; conv => whnf) | (refine W.condF rfl ?_) | (refine W.condT rfl ?_) | (refine ⟨_, c1, ?_⟩; conv => whnf) | (refine ⟨_, c2, ?_⟩; conv => whnf) | (refine ⟨_, c5, ?_⟩; conv => whnf) | (refine ⟨_, c6, ?_⟩; conv => whnf) | (refine ⟨_, c7, ?_⟩; conv => whnf) | (refine ⟨_, c8, ?_⟩; conv => whnf) | (refine ⟨_, c9, ?_⟩; conv => whnf) | (refine ⟨false, decide_eq_false (by omega), ?_⟩; conv => whnf) | (refine ⟨_, rfl, ?_⟩; conv => whnf) | (refine ⟨rfl, ?_⟩; conv => whnf) | (refine ⟨_, fun h => absurd h Bool.false_ne_true, fun _ => rfl, ?_⟩; conv => whnf) | (refine ⟨_, fun _ => rfl, fun h => absurd h.symm Bool.false_ne_true, ?_⟩; conv => whnf))
              rfl
            | true =>
              rw [h2] at c9 hx
              cases d3 with
              | false => simp at hx
              | true =>
                cases h3 : intS ex with
                | true => rw [h3] at hx; simp at hx
                | false =>
                  rw [h3] at c10
                  refine fn_ok Tryz.func20 rfl rfl rfl ?_
                  repeat (first | (refine W.RS (by kernel_rfl) ?_; conv => whnf) | (refine W.S ?_) | (refine W.ret ?_; conv => whnf) | (refine W.skip ?_; conv => whnf) | (refine W.condF rfl ?_) | (refine W.condT rfl ?_) | (refine ⟨_, c1, ?_⟩; conv => whnf) | (refine ⟨_, c2, ?_⟩; conv => whnf) | (refine ⟨_, c5, ?_⟩; conv => whnf) | (refine ⟨_, c6, ?_⟩; conv => whnf) | (refine ⟨_, c7, ?_⟩; conv => whnf) | (refine ⟨_, c8, ?_⟩; conv => whnf) | (refine ⟨_, c9, ?_⟩; conv => whnf) | (refine ⟨_, c10, ?_⟩; conv => whnf) | (refine ⟨false, decide_eq_false (by omega), ?_⟩; conv => whnf) | (refine ⟨_, rfl, ?_⟩; conv => whnf) | (refine ⟨rfl, ?_⟩; conv => whnf) | (refine ⟨_, fun h => absurd h Bool.false_ne_true, fun _ => rfl, ?_⟩; conv => whnf) | (refine ⟨_, fun _ => rfl, fun h => absurd h.symm Bool.false_ne_true, ?_⟩; conv => whnf))
                  rfl
          | false =>
            cases d3 with
            | false => simp at hx
            | true =>
              cases h3 : intS ex with
              | true => rw [h3] at hx; simp at hx
              | false =>
                rw [h3] at c10
                refine fn_ok Tryz.func20 rfl rfl rfl ?_
                repeat (first | (refine W.RS (by kernel_rfl) ?_; conv => whnf) | (refine W.S ?_) | (refine W.ret ?_; conv => whnf) | (refine W.skip ?_; conv => whnf) | (refine W.condF rfl ?_) | (refine W.condT rfl ?_) | (refine ⟨_, c1, ?_⟩; conv => whnf) | (refine ⟨_, c2, ?_⟩; conv => whnf) | (refine ⟨_, c5, ?_⟩; conv => whnf) | (refine ⟨_, c6, ?_⟩; conv => whnf) | (refine ⟨_, c7, ?_⟩; conv => whnf) | (refine ⟨_, c8, ?_⟩; conv => whnf) | (refine ⟨_, c10, ?_⟩; conv => whnf) | (refine ⟨false, decide_eq_false (by omega), ?_⟩; conv => whnf) | (refine ⟨_, rfl, ?_⟩; conv => whnf) | (refine ⟨rfl, ?_⟩; conv => whnf) | (refine ⟨_, fun h => absurd h Bool.false_ne_true, fun _ => rfl, ?_⟩; conv => whnf) | (refine ⟨_, fun _ => rfl, fun h => absurd h.symm Bool.false_ne_true, ?_⟩; conv => whnf))
                rfl
      | false =>
        rw [if_neg (by simp)]
        simp only [Bool.or_eq_false_iff, Bool.not_eq_false', Bool.and_eq_false_iff] at hx
        obtain ⟨h1, h2, h3⟩ := hx
        rw [h1] at c8
        have hfr : fr.all digB = true := by
          rcases h2 with h2 | h2
          · rw [q3 h2]; rfl
          · exact digs_all h2
        have hexd : ex.all digB = true := by
          rcases h3 with h3 | h3
          · rw [r2 (p3 h3)]; rfl
          · exact intS_all h3
        have c11 := f131_ok J hexd (by omega)
        have e1 := ln_dv hexd
        have c12 := f134_ok J (n := 1000) (by omega)
        have c13 := f133_mag J (a := dv ex) (b := 1000) (by omega)
        have hcm : cmpI (dv ex : Int) (1000 : Nat) > 0 ↔ dv ex > 1000 := by unfold cmpI; split <;> (try split) <;> omega
        obtain ⟨cv, hcv⟩ : ∃ cv, cmpI (dv ex : Int) (1000 : Nat) = cv := ⟨_, rfl⟩
        rw [hcv] at c13 hcm
        have k9 : f3 = true → digs fr = true := fun e => h2.resolve_left (by rw [e]; simp)
        have k10 : d3 = true → intS ex = true := fun e => h3.resolve_left (by rw [e]; simp)
        by_cases hlim : dv ex > 1000
        · rw [if_pos hlim, rePq_zero]
          exact parse_limit h1000 c1 c2 c5 c6 c7 c8 c9 c10 k9 k10 c11 c12 c13 (hcm.2 hlim)
        · rw [if_neg hlim]
          have hcv1 : ¬ cv > 0 := fun h => hlim (hcm.1 h)
          have c14 := f135_ok J (n := dv ex) (ln_le (Nat.lt_of_le_of_lt (Nat.le_of_not_lt hlim) (by decide)))
          have hall : (fa ++ fr).all digB = true := by rw [List.all_append, intS_all h1, hfr]; rfl
          have lfa : (fa ++ fr).length = fa.length + fr.length := List.length_append
          have c15 := f131_ok J hall (by omega)
          have l15 := ln_dv hall
          have c16 := f134_ok J (n := 10) (by omega)
          obtain ⟨P, hP⟩ : ∃ P : Int, (if dn = true then -(dv ex : Int) else (dv ex : Int)) - (fr.length : Int) = P := ⟨_, rfl⟩
          have hPb : -2000 ≤ P ∧ P ≤ 1000 := by rw [← hP]; split <;> omega
          simp only [hP]
          have m1 : (if (0 : Int) > P then 0 else P) = ((P.toNat : Nat) : Int) := by split <;> omega
          have m2 : (if (0 : Int) > -P then 0 else -P) = (((-P).toNat : Nat) : Int) := by split <;> omega
          obtain ⟨n1, hn1⟩ : ∃ n, P.toNat = n := ⟨_, rfl⟩
          obtain ⟨n2, hn2⟩ : ∃ n, (-P).toNat = n := ⟨_, rfl⟩
          rw [hn1] at m1 ⊢
          rw [hn2] at m2 ⊢
          have b1 : n1 ≤ 2000 := by omega
          have b2 : n2 ≤ 2000 := by omega
          have l10 : ln 10 ≤ 1 := ln_le (by decide)
          have g1 := Nat.mul_le_mul (show n1 + 1 ≤ 2001 by omega) l10
          have g2 := Nat.mul_le_mul (show n2 + 1 ≤ 2001 by omega) l10
          have g3 := Nat.mul_le_mul b1 l10
          have g4 := Nat.mul_le_mul b2 l10
          have c17 := f137_ok J (a := 10) (n := n1) (by omega) (by omega)
          have c18 := f137_ok J (a := 10) (n := n2) (by omega) (by omega)
          have l17 := ln_pow 10 n1
          have l18 := ln_pow 10 n2
          have c19 := f136_ok J (a := dv (fa ++ fr)) (b := 10 ^ n1) (by omega)
          have l19 := ln_mul_le (dv (fa ++ fr)) (10 ^ n1)
          obtain ⟨N, hN⟩ : ∃ N, dv (fa ++ fr) * 10 ^ n1 = N := ⟨_, rfl⟩
          rw [hN] at c19 l19 ⊢
          have c20 := f130_ok J m N
          have e20 : (sv m N).natAbs = N := by unfold sv; split <;> omega
          have c21 := f129_ok (base J) (z := sv m N) (d := 10 ^ n2) (Nat.pow_pos (by decide)) (by rw [e20]; omega) (by omega)
          exact parse_num h1000 c1 c2 c5 c6 c7 c8 c9 c10 k9 k10 c11 c12 c13 hcv1 (by omega) (by omega) (by omega) hP.symm m1 m2 hPb c14 c15 c16 c17 c18 c19 c20 c21
end Go.Proofs.Fl
namespace Go.Proofs.Fl
open Go.RowKit Go.Proofs.Dig
attribute [local irreducible] IntKind.wrap PureC MutC MakC IterC
theorem f151_ok (J : Keep) (a b : Rat) : MK J 151 [qr a, qr b] 197 [qr a, qr b] := by
  refine mk_ok Tryz.func151 rfl rfl rfl ?_
  repeat (first | (refine W.RS (by kernel_rfl) ?_; conv => whnf) | (refine W.ret ?_; conv => whnf) | (refine ⟨rfl, ?_⟩; conv => whnf))
  exact ⟨⟨rfl, rfl, trivial⟩, by simp⟩
theorem sub_int (x : Rat) (n : Int) : (x - (n : Rat)).den = x.den ∧ (x - (n : Rat)).num = x.num - n * (x.den : Int) := by
  have h0 := den_pos x
  have e : x - (n : Rat) = mkRat (x.num - n * (x.den : Int)) x.den := by
    rw [Rat.sub_def']
    show mkRat (x.num * ((1 : Nat) : Int) - n * (x.den : Int)) (x.den * 1) = _
    rw [Nat.mul_one]; simp
  generalize hz : x.num - n * (x.den : Int) = z at e ⊢
  have hg : Nat.gcd z.natAbs x.den = 1 := by
    have h1 : (((Nat.gcd z.natAbs x.den : Nat) : Int)) ∣ z := Int.ofNat_dvd_left.2 (Nat.gcd_dvd_left _ _)
    have h2 : (((Nat.gcd z.natAbs x.den : Nat) : Int)) ∣ (x.den : Int) := Int.natCast_dvd_natCast.2 (Nat.gcd_dvd_right _ _)
    have h3 : (((Nat.gcd z.natAbs x.den : Nat) : Int)) ∣ x.num := by
      have : x.num = z + n * (x.den : Int) := by omega
      rw [this]
      exact Int.dvd_add h1 (Int.dvd_trans h2 (Int.dvd_mul_left _ _))
    have h4 : Nat.gcd z.natAbs x.den ∣ Nat.gcd x.num.natAbs x.den := Nat.dvd_gcd (Int.ofNat_dvd_left.1 h3) (Nat.gcd_dvd_right _ _)
    rw [x.reduced] at h4
    exact Nat.dvd_one.1 h4
  rw [e, mkRat_num h0, mkRat_den h0, hg, Nat.div_one, Nat.div_one, sv_neg]
  exact ⟨rfl, rfl⟩
theorem inv_num {x : Rat} (h : 0 < x.num) : (1 / x).num = (x.den : Int) ∧ (1 / x).den = x.num.natAbs := by
  have e : (1 : Rat) / x = x⁻¹ := by rw [Rat.div_def, Rat.one_mul]
  rw [e]
  show (Rat.inv x).num = _ ∧ (Rat.inv x).den = _
  unfold Rat.inv
  rw [dif_neg (by omega), dif_pos h]
  exact ⟨rfl, rfl⟩
def desc : Nat → Rat → Rat → List Rat
  | 0, _, _ => []
  | k + 1, a, b => if (((-((-a).floor) : Int)) : Rat) ≤ b then [(((-((-a).floor) : Int)) : Rat)] else ((a.floor : Int) : Rat) :: desc k (1 / (b - ((a.floor : Int) : Rat))) (1 / (a - ((a.floor : Int) : Rat)))
theorem intLe {c : Int} {b : Rat} : ((c : Int) : Rat) ≤ b ↔ c * (b.den : Int) ≤ b.num := by
  rw [Rat.le_iff]
  show c * (b.den : Int) ≤ b.num * ((1 : Nat) : Int) ↔ _
  simp
theorem floor_spec (q : Rat) : q.floor * (q.den : Int) ≤ q.num ∧ q.num < q.floor * (q.den : Int) + (q.den : Int) := by
  rw [Rat.floor_def]
  have h0 : (0 : Int) < (q.den : Int) := by have := den_pos q; omega
  have h1 := Int.ediv_mul_le q.num (show (q.den : Int) ≠ 0 by omega)
  have h2 := Int.lt_ediv_add_one_mul_self q.num h0
  rw [Int.add_mul, Int.one_mul] at h2
  exact ⟨h1, h2⟩
theorem ceil_spec (q : Rat) : q.num ≤ (-((-q).floor)) * (q.den : Int) ∧ (-((-q).floor)) * (q.den : Int) < q.num + (q.den : Int) := by
  have h := floor_spec (-q)
  rw [Rat.neg_num, Rat.neg_den] at h
  rw [Int.neg_mul]
  omega
theorem ceil_floor {q : Rat} (h : q.num ≠ q.floor * (q.den : Int)) : -((-q).floor) = q.floor + 1 := by
  have h0 : (0 : Int) < (q.den : Int) := by have := den_pos q; omega
  obtain ⟨f1, f2⟩ := floor_spec q
  obtain ⟨c1, c2⟩ := ceil_spec q
  have h1 : q.floor * (q.den : Int) < (-((-q).floor)) * (q.den : Int) := by omega
  have h2 := Int.lt_of_mul_lt_mul_right h1 (by omega)
  have h3 : (-((-q).floor) - 1) * (q.den : Int) < (q.floor + 1) * (q.den : Int) := by
    rw [Int.sub_mul, Int.add_mul, Int.one_mul]; omega
  have h4 := Int.lt_of_mul_lt_mul_right h3 (by omega)
  omega
theorem desc_step {a b : Rat} (hab : a ≤ b) (h : ¬ (((-((-a).floor) : Int)) : Rat) ≤ b) :
    0 < a.num - a.floor * (a.den : Int) ∧ a.num - a.floor * (a.den : Int) < (a.den : Int) ∧ 0 < b.num - a.floor * (b.den : Int) ∧ b.num - a.floor * (b.den : Int) < (b.den : Int) := by
  have h0 : (0 : Int) < (a.den : Int) := by have := den_pos a; omega
  have h0' : (0 : Int) < (b.den : Int) := by have := den_pos b; omega
  obtain ⟨f1, f2⟩ := floor_spec a
  have hne : a.num ≠ a.floor * (a.den : Int) := fun e => by
    apply h
    refine Rat.le_trans ?_ hab
    rw [intLe]
    have hc := ceil_spec a
    have h1 : (-((-a).floor)) * (a.den : Int) < (a.floor + 1) * (a.den : Int) := by rw [Int.add_mul, Int.one_mul]; omega
    have h2 := Int.lt_of_mul_lt_mul_right h1 (by omega)
    have h3 : (-((-a).floor)) * (a.den : Int) ≤ a.floor * (a.den : Int) := Int.mul_le_mul_of_nonneg_right (by omega) (by omega)
    omega
  rw [ceil_floor hne, intLe, Int.add_mul, Int.one_mul] at h
  have hlt : ((a.floor : Int) : Rat) < b := by
    have h1 : ((a.floor : Int) : Rat) < a := by
      rw [Rat.lt_iff]
      show a.floor * (a.den : Int) < a.num * ((1 : Nat) : Int)
      simp; omega
    exact Rat.not_le.1 (fun e => Rat.not_le.2 h1 (Rat.le_trans hab e))
  have hb : a.floor * (b.den : Int) < b.num := by
    have := (Rat.lt_iff _ _).1 hlt
    have h2 : a.floor * (b.den : Int) < b.num * ((1 : Nat) : Int) := this
    simpa using h2
  omega
theorem desc_ends {a b : Rat} (hab : a ≤ b) (h : ¬ (((-((-a).floor) : Int)) : Rat) ≤ b) :
    (1 / (b - ((a.floor : Int) : Rat))).num = (b.den : Int) ∧ (1 / (b - ((a.floor : Int) : Rat))).den = (b.num - a.floor * (b.den : Int)).natAbs ∧
    (1 / (a - ((a.floor : Int) : Rat))).num = (a.den : Int) ∧ (1 / (a - ((a.floor : Int) : Rat))).den = (a.num - a.floor * (a.den : Int)).natAbs ∧ 1 / (b - ((a.floor : Int) : Rat)) ≤ 1 / (a - ((a.floor : Int) : Rat)) := by
  obtain ⟨s1, s2, s3, s4⟩ := desc_step hab h
  obtain ⟨a1, a2⟩ := sub_int a a.floor
  obtain ⟨b1, b2⟩ := sub_int b a.floor
  have i1 := inv_num (x := a - ((a.floor : Int) : Rat)) (by rw [a2]; exact s1)
  have i2 := inv_num (x := b - ((a.floor : Int) : Rat)) (by rw [b2]; exact s3)
  refine ⟨by rw [i2.1, b1], by rw [i2.2, b2], by rw [i1.1, a1], by rw [i1.2, a2], ?_⟩
  rw [Rat.le_iff, i1.1, i1.2, i2.1, i2.2, a1, b1, a2, b2]
  have e1 : (((a.num - a.floor * (a.den : Int)).natAbs : Nat) : Int) = a.num - a.floor * (a.den : Int) := by omega
  have e2 : (((b.num - a.floor * (b.den : Int)).natAbs : Nat) : Int) = b.num - a.floor * (b.den : Int) := by omega
  rw [e1, e2]
  have h3 := (Rat.le_iff a b).1 hab
  rw [Int.mul_sub, Int.mul_sub, Int.mul_comm (b.den : Int) a.num, Int.mul_comm (a.den : Int) b.num]
  have e3 : (b.den : Int) * (a.floor * (a.den : Int)) = (a.den : Int) * (a.floor * (b.den : Int)) := by
    rw [Int.mul_left_comm, Int.mul_left_comm (a.den : Int), Int.mul_comm (b.den : Int)]
  omega
end Go.Proofs.Fl
namespace Go.Proofs.Fl
open Go.RowKit Go.Proofs.Dig
attribute [local irreducible] IntKind.wrap PureC MutC MakC IterC
noncomputable def yq (q : Rat) : List IV := [qr q]
theorem drop_cons {α : Type} {l m : List α} {x : α} {k : Nat} (h : l.drop k = x :: m) : l[k]? = some x ∧ l.drop (k + 1) = m := by
  have h1 : l[k]? = (l.drop k)[0]? := by simp
  refine ⟨by rw [h1, h]; rfl, ?_⟩
  rw [← List.drop_drop, h]; rfl
theorem drop_one {α : Type} {l : List α} {x : α} {k : Nat} (h : l.drop k = [x]) : k + 1 = l.length := by
  have := congrArg List.length h
  rw [List.length_drop, List.length_singleton] at this
  omega
theorem qln_le2 {q : Rat} {S : Nat} (h1 : ln q.num.natAbs ≤ S) (h2 : ln q.den ≤ S) : qln q ≤ 2 * S := by unfold qln; omega
set_option maxHeartbeats 2000000 in
theorem f197_ok (J : Keep) {a b : Rat} {S : Nat} (hS : S < 2 ^ 28) (hab : a ≤ b) (h1 : ln a.num.natAbs ≤ S) (h2 : ln a.den ≤ S) (h3 : ln b.num.natAbs ≤ S) (h4 : ln b.den ≤ S) : IT J 197 [qr a, qr b] ((desc (a.den + b.den) a b).map yq) := by
  refine it_ok Tryz.func197 rfl rfl rfl rfl fun l F hF => ?_
  obtain ⟨ys, hys⟩ : ∃ ys, (desc (a.den + b.den) a b).map yq = ys := ⟨_, rfl⟩
  rw [hys] at hF ⊢
  refine WY.block ?_
  refine WY.loop (G := { p : Nat × Nat × Rat × Rat // ys.drop p.1 = (desc p.2.1 p.2.2.1 p.2.2.2).map yq ∧ p.2.2.1.den + p.2.2.2.den ≤ p.2.1 ∧ p.2.2.1 ≤ p.2.2.2 ∧ ln p.2.2.1.num.natAbs ≤ S ∧ ln p.2.2.1.den ≤ S ∧ ln p.2.2.2.num.natAbs ≤ S ∧ ln p.2.2.2.den ≤ S })
    (fun p => mkA [(0, .yld l), (1, .ptr 0 0), (2, .ptr 1 0)] [(0, .var (qr p.1.2.2.1)), (1, .var (qr p.1.2.2.2))] 20) (fun p => p.1.1) (fun p => p.1.2.1) ⟨(0, a.den + b.den, a, b), by rw [← hys]; rfl, Nat.le_refl _, hab, h1, h2, h3, h4⟩
    (Wk.tab [] ⟨⟨rfl, rfl⟩, ⟨rfl, rfl⟩, ⟨rfl, rfl⟩, trivial⟩ ⟨rfl, rfl, trivial⟩ rfl) rfl ?_
  rintro ⟨⟨k, fuel, u, v⟩, i1, i2, i3, i4, i5, i6, i7⟩
  dsimp only at i1 i2 i3 i4 i5 i6 i7
  show WY (cx J.top) _ F _ (mkA [(0, .yld l), (1, .ptr 0 0), (2, .ptr 1 0)] [(0, .var (qr u)), (1, .var (qr v))] 20) k _
  have pu := den_pos u
  have pv := den_pos v
  obtain ⟨f, rfl⟩ : ∃ f, fuel = f + 1 := ⟨fuel - 1, by omega⟩
  have s1 := qln_le2 i4 i5
  have s2 := qln_le2 i6 i7
  have c1 := f88_ok (J := J.top) (q := u) (by omega)
  rw [← Rat.intCast_neg] at c1
  have lc : qln (((-((-u).floor) : Int)) : Rat) ≤ S + 1 := by
    have g1 := qln_i (-((-u).floor))
    have g2 := ln_floor (q := -u)
    rw [Rat.neg_num, Int.natAbs_neg] at g2
    rw [Int.natAbs_neg] at g1
    omega
  have lf : qln ((u.floor : Int) : Rat) ≤ S + 1 := by
    have g1 := qln_i u.floor
    have g2 := ln_floor (q := u)
    omega
  have c2 := f37_ok (J := J.top) (a := (((-((-u).floor) : Int)) : Rat)) (b := v) (by omega) (by omega)
  by_cases hc : (((-((-u).floor) : Int)) : Rat) ≤ v
  · have hcm : cmpR (((-((-u).floor) : Int)) : Rat) v ≤ 0 := cmpR_le.2 hc
    rw [desc, if_pos hc] at i1
    obtain ⟨y1, _⟩ := drop_cons i1
    have y2 := drop_one i1
    obtain ⟨C', hC⟩ : ∃ C', (((-((-u).floor) : Int)) : Rat) = C' := ⟨_, rfl⟩
    rw [hC] at c1 c2 hcm y1
    obtain ⟨cv, hcv⟩ : ∃ cv, cmpR C' v = cv := ⟨_, rfl⟩
    rw [hcv] at c2 hcm
    repeat (first | (refine WY.yieldS hF 2 (fo := .tmp 11) rfl rfl rfl rfl ?_; conv => whnf) | (refine WY.RS hF (by kernel_rfl) ?_; conv => whnf) | (refine WY.S ?_) | (refine WY.block ?_) | (refine WY.ret ?_; conv => whnf) | (refine WY.condT rfl ?_) | (refine ⟨y1, ?_⟩; conv => whnf) | (refine ⟨_, c1, ?_⟩; conv => whnf) | (refine ⟨_, c2, ?_⟩; conv => whnf) | (refine ⟨true, decide_eq_true (by omega), ?_⟩; conv => whnf) | (refine ⟨rfl, ?_⟩; conv => whnf))
    exact y2
  · have hcm : ¬ cmpR (((-((-u).floor) : Int)) : Rat) v ≤ 0 := fun h => hc (cmpR_le.1 h)
    rw [desc, if_neg hc, List.map_cons] at i1
    obtain ⟨y1, y2⟩ := drop_cons i1
    obtain ⟨e1, e2, e3, e4, e5⟩ := desc_ends i3 hc
    obtain ⟨t1, t2, t3, t4⟩ := desc_step i3 hc
    obtain ⟨su1, su2⟩ := sub_int u u.floor
    obtain ⟨sv1, sv2⟩ := sub_int v u.floor
    have m1 := ln_mono (show (v.num - u.floor * (v.den : Int)).natAbs ≤ v.den by omega)
    have m2 := ln_mono (show (u.num - u.floor * (u.den : Int)).natAbs ≤ u.den by omega)
    have c3 := f86_ok (J := J.top) (q := u) (by omega)
    have c4 := f61_ok J.top (n := 1) (by omega) (by omega)
    have c5 := f50_ok (base J.top) (a := v) (b := ((u.floor : Int) : Rat)) (by omega) (by omega)
    have c7 := f50_ok (base J.top) (a := u) (b := ((u.floor : Int) : Rat)) (by omega) (by omega)
    have w1 : qln (v - ((u.floor : Int) : Rat)) ≤ 2 * S := by unfold qln; rw [sv1, sv2]; omega
    have w2 : qln (u - ((u.floor : Int) : Rat)) ≤ 2 * S := by unfold qln; rw [su1, su2]; omega
    have n1 : v - ((u.floor : Int) : Rat) ≠ 0 := fun e => by
      have : (v - ((u.floor : Int) : Rat)).num = 0 := by rw [e]; rfl
      omega
    have n2 : u - ((u.floor : Int) : Rat) ≠ 0 := fun e => by
      have : (u - ((u.floor : Int) : Rat)).num = 0 := by rw [e]; rfl
      omega
    have q1 : qln ((1 : Int) : Rat) ≤ 2 := by show ln 1 + ln 1 ≤ 2; rw [ln_one]; omega
    have c6 := f152_ok (base J.top) (a := ((1 : Int) : Rat)) (b := v - ((u.floor : Int) : Rat)) n1 (by omega) (by omega)
    have c8 := f152_ok (base J.top) (a := ((1 : Int) : Rat)) (b := u - ((u.floor : Int) : Rat)) n2 (by omega) (by omega)
    have one : ((1 : Int) : Rat) = 1 := rfl
    rw [one] at c4 c6 c8
    have g1 : ln (1 / (v - ((u.floor : Int) : Rat))).num.natAbs ≤ S := by rw [e1, Int.natAbs_natCast]; exact i7
    have g2 : ln (1 / (v - ((u.floor : Int) : Rat))).den ≤ S := by rw [e2]; omega
    have g3 : ln (1 / (u - ((u.floor : Int) : Rat))).num.natAbs ≤ S := by rw [e3, Int.natAbs_natCast]; exact i5
    have g4 : ln (1 / (u - ((u.floor : Int) : Rat))).den ≤ S := by rw [e4]; omega
    have g5 : (1 / (v - ((u.floor : Int) : Rat))).den + (1 / (u - ((u.floor : Int) : Rat))).den ≤ f := by rw [e2, e4]; omega
    have hG : ys.drop (k + 1) = (desc f (1 / (v - ((u.floor : Int) : Rat))) (1 / (u - ((u.floor : Int) : Rat)))).map yq ∧ (1 / (v - ((u.floor : Int) : Rat))).den + (1 / (u - ((u.floor : Int) : Rat))).den ≤ f ∧ 1 / (v - ((u.floor : Int) : Rat)) ≤ 1 / (u - ((u.floor : Int) : Rat)) ∧ _ ∧ _ ∧ _ ∧ _ := ⟨y2, g5, e5, g1, g2, g3, g4⟩
    obtain ⟨C', hC⟩ : ∃ C', (((-((-u).floor) : Int)) : Rat) = C' := ⟨_, rfl⟩
    rw [hC] at c1 c2 hcm
    obtain ⟨cv, hcv⟩ : ∃ cv, cmpR C' v = cv := ⟨_, rfl⟩
    rw [hcv] at c2 hcm
    obtain ⟨n, hn⟩ : ∃ n, ((u.floor : Int) : Rat) = n := ⟨_, rfl⟩
    rw [hn] at c3 c5 c6 c7 c8 hG y1
    obtain ⟨u2, hu2⟩ : ∃ x, 1 / (v - n) = x := ⟨_, rfl⟩
    obtain ⟨v2, hv2⟩ : ∃ x, 1 / (u - n) = x := ⟨_, rfl⟩
    rw [hu2] at c6 hG
    rw [hv2] at c8 hG
    clear t1 t2 t3 t4 su1 su2 sv1 sv2 m1 m2 e1 e2 e3 e4 e5 g1 g2 g3 g4 g5 s1 s2 lc lf w1 w2 q1
    repeat (first | (refine WY.yieldS hF 2 (fo := .tmp 16) rfl rfl rfl rfl ?_; conv => whnf) | (refine WY.RS hF (by kernel_rfl) ?_; conv => whnf) | (refine WY.R hF (by kernel_rfl) ?_; conv => whnf) | (refine WY.S ?_) | (refine WY.block ?_) | (refine WY.skip ?_; conv => whnf) | (refine WY.condF rfl ?_) | (refine ⟨y1, ?_⟩; conv => whnf) | (refine ⟨_, c1, ?_⟩; conv => whnf) | (refine ⟨_, c2, ?_⟩; conv => whnf) | (refine ⟨_, c3, ?_⟩; conv => whnf) | (refine ⟨_, c4, ?_⟩; conv => whnf) | (refine ⟨_, c5, ?_⟩; conv => whnf) | (refine ⟨_, c6, ?_⟩; conv => whnf) | (refine ⟨_, c7, ?_⟩; conv => whnf) | (refine ⟨_, c8, ?_⟩; conv => whnf) | (refine ⟨false, decide_eq_false (by omega), ?_⟩; conv => whnf) | (refine ⟨_, rfl, ?_⟩; conv => whnf) | (refine ⟨rfl, ?_⟩; conv => whnf))
    exact ⟨⟨(k + 1, f, u2, v2), hG⟩, Wk.tab [] ⟨⟨rfl, rfl⟩, ⟨rfl, rfl⟩, ⟨rfl, rfl⟩, trivial⟩ ⟨rfl, rfl, trivial⟩ rfl, rfl, Nat.lt_succ_self f⟩
end Go.Proofs.Fl
namespace Go.Proofs.Fl
open Go.RowKit Go.Proofs.Dig
attribute [local irreducible] IntKind.wrap PureC MutC MakC IterC
abbrev St4 : Type := Nat × Nat × Nat × Nat
def stepN (s : St4) (n : Nat) : St4 := (n * s.1 + s.2.2.1, n * s.2.1 + s.2.2.2, s.1, s.2.1)
def le4 (A : Nat) (s : St4) : Prop := s.1 ≤ A ∧ s.2.1 ≤ A ∧ s.2.2.1 ≤ A ∧ s.2.2.2 ≤ A
def Cvg (A : Nat) : St4 → List Nat → Prop
  | s, [] => le4 A s
  | s, n :: ns => le4 A s ∧ n ≤ A ∧ Cvg A (stepN s n) ns
theorem Cvg.take {A : Nat} : ∀ {ns : List Nat} {s : St4} (k : Nat), Cvg A s ns → le4 A ((ns.take k).foldl stepN s)
  | [], s, k, h => by have h' : le4 A s := h; simpa using h'
  | n :: ns, s, 0, h => by simpa using h.1
  | n :: ns, s, k + 1, h => by simpa using Cvg.take k h.2.2
theorem Cvg.get {A : Nat} : ∀ {ns : List Nat} {s : St4}, Cvg A s ns → ∀ n ∈ ns, n ≤ A
  | [], _, _, n, h => by simp at h
  | m :: ns, s, h, n, hn => by
    rcases List.mem_cons.1 hn with rfl | hn
    · exact h.2.1
    · exact h.2.2.get n hn
def castQ (n : Nat) : Rat := ((n : Int) : Rat)
theorem floor_nonneg {u : Rat} (h : 0 < u.num) : 0 ≤ u.floor := by
  rw [Rat.floor_def]; exact Int.ediv_nonneg (by omega) (by omega)
theorem mul_le_pos {x y : Nat} (h : 0 < y) : x ≤ x * y := Nat.le_mul_of_pos_right x h
theorem desc_bd {A : Nat} : ∀ (fuel : Nat) (u v : Rat) (p q p' q' xn xd yn yd U V : Nat), u.num = (U : Int) → v.num = (V : Int) → 0 < U → u ≤ v → u.den + v.den ≤ fuel → U ≤ A → V ≤ A → u.den ≤ A → v.den ≤ A →
    xn = p * U + p' * u.den → xd = q * U + q' * u.den → yn = p * V + p' * v.den → yd = q * V + q' * v.den → xn ≤ A → xd ≤ A → yn ≤ A → yd ≤ A → le4 A (p, q, p', q') →
    ∃ ns : List Nat, desc fuel u v = ns.map castQ ∧ Cvg A (p, q, p', q') ns
  | 0, u, v, p, q, p', q', xn, xd, yn, yd, U, V, hu, hv, hU, huv, hf, _, _, _, _, _, _, _, _, _, _, _, _, _ => by
    have := den_pos u; omega
  | f + 1, u, v, p, q, p', q', xn, xd, yn, yd, U, V, hu, hv, hU, huv, hf, aU, aV, au, av, e1, e2, e3, e4, a1, a2, a3, a4, h4 => by
    have pu := den_pos u
    have pv := den_pos v
    by_cases hc : (((-((-u).floor) : Int)) : Rat) ≤ v
    · rw [desc, if_pos hc]
      obtain ⟨c1, c2⟩ := ceil_spec u
      rw [intLe] at hc
      obtain ⟨c, hcn⟩ : ∃ c : Nat, -((-u).floor) = (c : Int) := ⟨(-((-u).floor)).toNat, by
        have : 0 < (-((-u).floor)) * (u.den : Int) := by omega
        have : 0 < -((-u).floor) := by
          apply Classical.byContradiction
          intro hn
          have := Int.mul_nonpos_of_nonpos_of_nonneg (a := -((-u).floor)) (b := (u.den : Int)) (by omega) (by omega)
          omega
        omega⟩
      rw [hcn, hv] at hc
      have hcV : c * v.den ≤ V := by exact_mod_cast hc
      refine ⟨[c], by rw [hcn]; rfl, h4, ?_, ?_, ?_, h4.1, h4.2.1⟩
      · have := mul_le_pos (x := c) pv; omega
      · show c * p + p' ≤ A
        have g1 := mul_le_pos (x := c * p + p') pv
        have g2 : (c * p + p') * v.den = p * (c * v.den) + p' * v.den := by rw [Nat.add_mul, Nat.mul_comm c p, Nat.mul_assoc]
        have g3 := Nat.mul_le_mul_left p hcV
        omega
      · show c * q + q' ≤ A
        have g1 := mul_le_pos (x := c * q + q') pv
        have g2 : (c * q + q') * v.den = q * (c * v.den) + q' * v.den := by rw [Nat.add_mul, Nat.mul_comm c q, Nat.mul_assoc]
        have g3 := Nat.mul_le_mul_left q hcV
        omega
    · rw [desc, if_neg hc]
      obtain ⟨d1, d2, d3, d4, d5⟩ := desc_ends huv hc
      obtain ⟨t1, t2, t3, t4⟩ := desc_step huv hc
      obtain ⟨n, hn⟩ : ∃ n : Nat, u.floor = (n : Int) := ⟨u.floor.toNat, by have := floor_nonneg (u := u) (by omega); omega⟩
      rw [hn, hu] at t1 t2
      rw [hn, hv] at t3 t4
      rw [hn, hv] at d2
      rw [hn, hu] at d4
      rw [hn] at d1 d3 d5 ⊢
      obtain ⟨mu, hmu⟩ : ∃ m : Nat, n * u.den + m = U := ⟨U - n * u.den, by
        have : ((n * u.den : Nat) : Int) < (U : Int) := by rw [Int.natCast_mul]; omega
        omega⟩
      obtain ⟨mv, hmv⟩ : ∃ m : Nat, n * v.den + m = V := ⟨V - n * v.den, by
        have : ((n * v.den : Nat) : Int) < (V : Int) := by rw [Int.natCast_mul]; omega
        omega⟩
      have hmu' : (U : Int) - (n : Int) * (u.den : Int) = (mu : Int) := by rw [← hmu, Int.natCast_add, Int.natCast_mul]; omega
      have hmv' : (V : Int) - (n : Int) * (v.den : Int) = (mv : Int) := by rw [← hmv, Int.natCast_add, Int.natCast_mul]; omega
      rw [hmu', Int.natAbs_natCast] at d4
      rw [hmv', Int.natAbs_natCast] at d2
      rw [hmu'] at t1 t2
      rw [hmv'] at t3 t4
      have x1 : xn = (n * p + p') * u.den + p * mu := by rw [e1, ← hmu, Nat.mul_add, Nat.add_mul, Nat.mul_comm n p, Nat.mul_assoc]; omega
      have x2 : xd = (n * q + q') * u.den + q * mu := by rw [e2, ← hmu, Nat.mul_add, Nat.add_mul, Nat.mul_comm n q, Nat.mul_assoc]; omega
      have y1 : yn = (n * p + p') * v.den + p * mv := by rw [e3, ← hmv, Nat.mul_add, Nat.add_mul, Nat.mul_comm n p, Nat.mul_assoc]; omega
      have y2 : yd = (n * q + q') * v.den + q * mv := by rw [e4, ← hmv, Nat.mul_add, Nat.add_mul, Nat.mul_comm n q, Nat.mul_assoc]; omega
      have g1 := mul_le_pos (x := n * p + p') pu
      have g2 := mul_le_pos (x := n * q + q') pu
      have hnA : n ≤ A := by have := mul_le_pos (x := n) pu; omega
      obtain ⟨ns, h1, h2⟩ := desc_bd f _ _ (n * p + p') (n * q + q') p q yn yd xn xd v.den u.den d1 d3 (by omega) d5 (by rw [d2, d4]; omega) av au (by rw [d2]; omega) (by rw [d4]; omega)
        (by rw [d2]; exact y1) (by rw [d2]; exact y2) (by rw [d4]; exact x1) (by rw [d4]; exact x2) a3 a4 a1 a2 ⟨by show n * p + p' ≤ A; omega, by show n * q + q' ≤ A; omega, h4.1, h4.2.1⟩
      exact ⟨n :: ns, by rw [h1]; rfl, h4, hnA, h2⟩
end Go.Proofs.Fl
namespace Go.Proofs.Fl
open Go.RowKit Go.Proofs.Dig
attribute [local irreducible] IntKind.wrap PureC MutC MakC IterC
def stN (ns : List Nat) (k : Nat) : St4 := (ns.take k).foldl stepN (1, 0, 0, 1)
theorem stN_succ {ns : List Nat} {k : Nat} (h : k < ns.length) : stN ns (k + 1) = stepN (stN ns k) (ns.getD k 0) := by
  unfold stN
  rw [List.take_add_one, List.getElem?_eq_getElem h, List.foldl_append]
  simp [List.getD, h]
theorem castQ_num (n : Nat) : (castQ n).num = (n : Int) ∧ (castQ n).den = 1 := ⟨rfl, rfl⟩
theorem qln_cast {n A : Nat} (h : n ≤ A) : qln (castQ n) ≤ ln A + 1 := by
  have h1 := qln_i ((n : Nat) : Int)
  rw [Int.natAbs_natCast] at h1
  have := ln_mono h
  show qln (((n : Nat) : Int) : Rat) ≤ _
  omega
theorem castQ_step (n p q : Nat) : castQ n * castQ p + castQ q = castQ (n * p + q) := by
  unfold castQ
  rw [← Rat.intCast_mul, ← Rat.intCast_add, Int.natCast_add, Int.natCast_mul]
def simpP (ns : List Nat) : Rat := castQ (stN ns ns.length).1 / castQ (stN ns ns.length).2.1
theorem yqs (ns : List Nat) : ∀ y ∈ (ns.map castQ).map yq, y.length = 1 := by
  intro y hy
  obtain ⟨q, _, rfl⟩ := List.mem_map.1 hy
  rfl
theorem yq_at {ns : List Nat} {k : Nat} (hk : k < ((ns.map castQ).map yq).length) : ((ns.map castQ).map yq)[k] = [qr (castQ (ns.getD k 0))] := by
  have h : k < ns.length := by simpa using hk
  simp [yq, List.getD, h]
theorem bxLit {bx : Nat → Option Bx} {r : List (Nat × Nat)} {g : Nat} {b : Bx} (n : Nat) (h : rnT r g = n) (h2 : bx n = some b) : bx (rnT r g) = some b := by rw [h]; exact h2
theorem pinL {bx : Nat → Option Bx} {r : List (Nat × Nat)} {m : List (Nat × Bx)} {i : Nat} (n : Nat) (hn : pinId + i = n) (h : bx n = none) : pinW bx r m i := .inl (by rw [hn]; exact h)
def al4 (x y z t : IV) (r : IV) : List (Nat × Bx) := [(1000000, .var r), (1000001, .var x), (1000002, .var y), (1000003, .var z), (1000004, .var t)]
set_option maxRecDepth 4000 in
set_option maxHeartbeats 4000000 in
theorem simplest_pos (J : Keep) {a b : Rat} {ns : List Nat} {A : Nat} (hA : ln A < 2 ^ 28) (hns : desc (a.den + b.den) a b = ns.map castQ) (hbd : Cvg A (1, 0, 0, 1) ns) (hq0 : (stN ns ns.length).2.1 ≠ 0) (hab : a ≤ b) (ha : 0 < a.num) (hb : 0 < b.num)
    (la : ln a.num.natAbs ≤ ln A) (la' : ln a.den ≤ ln A) (lb : ln b.num.natAbs ≤ ln A) (lb' : ln b.den ≤ ln A) : C J 25 [sd a b] (.tup [qr (simpP ns), .int .i64 0]) := by
  refine fn_ok (J := J.top) Tryz.func25 rfl rfl rfl ?_
  have q1 : qln a < 2 ^ 38 := by unfold qln; omega
  have q2 : qln b < 2 ^ 38 := by unfold qln; omega
  have c1 := f55_ok (J := J) q1 q2
  rw [decide_eq_true (cmpR_le.2 hab)] at c1
  have c2 := f30_ok (J := J) (a := a) (b := b) (q := 0) q1 q2 (by have := qln_zero; omega)
  have h0 : ¬ cmpR a 0 ≤ 0 := fun h => by
    have h1 := (Rat.le_iff a 0).1 (cmpR_le.1 h)
    have h2 : a.num * ((1 : Nat) : Int) ≤ 0 * (a.den : Int) := h1
    rw [Int.zero_mul] at h2
    omega
  rw [decide_eq_false h0, Bool.false_and, dg_zero_qr] at c2
  have c3 := f22_ok J b
  rw [show cmpI b.num 0 = 1 by unfold cmpI; rw [if_neg (by omega), if_pos (by omega)]] at c3
  have c4 := f61_ok J (n := 1) (by omega) (by omega)
  have it := f197_ok J (S := ln A) hA hab la la' lb lb'
  rw [hns] at it
  repeat (first | (refine W.wkRS (id := 8) (σ' := mkA [(1, .ptr 0 0), (2, .ptr 1 0)] [(0, .var (sd a b)), (1, .var (.agg [.sl [], .bool false, .sl []]))] 20) (Wk.tab [] ⟨⟨rfl, rfl⟩, ⟨rfl, rfl⟩, trivial⟩ ⟨rfl, rfl, trivial⟩ rfl) (by kernel_rfl) ?_; conv => whnf) | (refine W.wkRS (id := 9) (σ' := mkA [(1, .ptr 0 0), (2, .ptr 1 0), (6, .ptr 2 0), (7, .ptr 3 0), (8, .ptr 4 0), (9, .ptr 5 0)] [(0, .var (sd a b)), (1, .var (.agg [.sl [], .bool false, .sl []])), (2, .var (qr ((1 : Int) : Rat))), (3, .var (.agg [.sl [], .bool false, .sl []])), (4, .var (.agg [.sl [], .bool false, .sl []])), (5, .var (qr ((1 : Int) : Rat)))] 40) (Wk.tab [(2, 24), (3, 25), (4, 26), (5, 27)] ⟨⟨rfl, rfl⟩, ⟨rfl, rfl⟩, ⟨rfl, rfl⟩, ⟨rfl, rfl⟩, ⟨rfl, rfl⟩, ⟨rfl, rfl⟩, trivial⟩ ⟨rfl, rfl, rfl, rfl, rfl, rfl, trivial⟩ rfl) (by kernel_rfl) ?_; conv => whnf) | (refine W.RS (by kernel_rfl) ?_; conv => whnf) | (refine W.S ?_) | (refine W.block ?_) | (refine W.skip ?_; conv => whnf) | (refine W.condF rfl ?_) | (refine ⟨_, c1, ?_⟩; conv => whnf) | (refine ⟨_, c2, ?_⟩; conv => whnf) | (refine ⟨_, c3, ?_⟩; conv => whnf) | (refine ⟨_, c4, ?_⟩; conv => whnf) | (refine ⟨197, [qr a, qr b], f151_ok J a b, rfl, ?_⟩; conv => whnf) | (refine ⟨false, decide_eq_false (by omega), ?_⟩; conv => whnf) | (refine ⟨_, rfl, ?_⟩; conv => whnf) | (refine ⟨rfl, ?_⟩; conv => whnf))
  have z0 : qr (castQ 0) = .agg [.sl [], .bool false, .sl []] := dg_zero_qr
  refine W.weak (σ' := mkA [(2, .ptr 1000000 0), (6, .ptr (1000001) 0), (7, .ptr (1000002) 0), (8, .ptr (1000003) 0), (9, .ptr (1000004) 0), (43, .clo 197 [44, 45])]
    [(1000000, .var (.agg [.sl [], .bool false, .sl []])), (1000001, .var (qr ((1 : Int) : Rat))), (1000002, .var (.agg [.sl [], .bool false, .sl []])), (1000003, .var (.agg [.sl [], .bool false, .sl []])), (1000004, .var (qr ((1 : Int) : Rat))), (44, .var (qr a)), (45, .var (qr b))] 50)
    (Wk.tab [(1000000, 1), (1000001, 2), (1000002, 3), (1000003, 4), (1000004, 5), (45, 134)] ⟨⟨rfl, rfl⟩, ⟨rfl, rfl⟩, ⟨rfl, rfl⟩, ⟨rfl, rfl⟩, ⟨rfl, rfl⟩, ⟨rfl, rfl⟩, trivial⟩ ⟨rfl, rfl, rfl, rfl, rfl, rfl, bxLit 134 rfl rfl, trivial⟩ rfl ⟨pinL 1000000 rfl rfl, pinL 1000001 rfl rfl, pinL 1000002 rfl rfl, pinL 1000003 rfl rfl, pinL 1000004 rfl rfl, pinL 1000005 rfl rfl, pinL 1000006 rfl rfl, pinL 1000007 rfl rfl⟩) ?_
  refine W.range it [1000000, 1000001, 1000002, 1000003, 1000004] [(2, .ptr 1000000 0), (6, .ptr (1000001) 0), (7, .ptr (1000002) 0), (8, .ptr (1000003) 0), (9, .ptr (1000004) 0)]
    (fun k => al4 (qr (castQ (stN ns k).1)) (qr (castQ (stN ns k).2.1)) (qr (castQ (stN ns k).2.2.1)) (qr (castQ (stN ns k).2.2.2)) (.agg [.sl [], .bool false, .sl []])) 60 rfl ⟨rfl, rfl, trivial⟩ (by simp) rfl (yqs ns) (fun _ => rfl)
    (fun _ => by intro p hp; simp [al4] at hp; rcases hp with rfl | rfl | rfl | rfl | rfl <;> rfl) rfl ⟨rfl, rfl, rfl, rfl, rfl, trivial⟩ rfl ⟨rfl, rfl, varE z0.symm, varE z0.symm, rfl, trivial⟩ rfl rfl (fun k hk => ?_) ?_
  · rw [yq_at hk]
    have hk' : k < ns.length := by simpa using hk
    have hst := stN_succ hk'
    have hle : le4 A (stN ns k) := hbd.take k
    have hn : ns.getD k 0 ≤ A := hbd.get _ (by simp [List.getD, hk'])
    obtain ⟨n, hne⟩ : ∃ n, ns.getD k 0 = n := ⟨_, rfl⟩
    obtain ⟨⟨p, q, p', q'⟩, hse⟩ : ∃ s, stN ns k = s := ⟨_, rfl⟩
    rw [hne] at hn hst ⊢
    rw [hse] at hst hle
    rw [hst]
    dsimp only
    rw [hse]
    show W J.any _ _ ⟨putsL (tbS [(2, .ptr 1000000 0), (6, .ptr (1000001) 0), (7, .ptr (1000002) 0), (8, .ptr (1000003) 0), (9, .ptr (1000004) 0)]) [44] [qr (castQ n)], tbB (al4 (qr (castQ p)) (qr (castQ q)) (qr (castQ p')) (qr (castQ q')) (.agg [.sl [], .bool false, .sl []])), 60⟩ _
    have q1' := qln_cast hn
    have q2' := qln_cast (show p ≤ A from hle.1)
    have q3' := qln_cast (show q ≤ A from hle.2.1)
    have q4' := qln_cast (show p' ≤ A from hle.2.2.1)
    have q5' := qln_cast (show q' ≤ A from hle.2.2.2)
    have m1 := qln_mul (castQ n) (castQ p)
    have m2 := qln_mul (castQ n) (castQ q)
    have d1 := f49_ok (base J) (a := castQ n) (b := castQ p) (by omega) (by omega)
    have d2 := f49_ok (base J) (a := castQ n) (b := castQ q) (by omega) (by omega)
    have d3 := f48_ok (base J) (a := castQ n * castQ p) (b := castQ p') (by omega) (by omega)
    have d4 := f48_ok (base J) (a := castQ n * castQ q) (b := castQ q') (by omega) (by omega)
    rw [castQ_step] at d3 d4
    have e1 : stepN (p, q, p', q') n = (n * p + p', n * q + q', p, q) := rfl
    rw [e1]
    clear hse hst hbd it hns hq0 hn hle m1 m2 q1' q2' q3' q4' q5' e1 c1 c2 c3 c4 h0
    repeat (first | (refine W.R (by kernel_rfl) ?_; conv => whnf) | (refine W.block ?_) | (refine ⟨_, d1, ?_⟩; conv => whnf) | (refine ⟨_, d2, ?_⟩; conv => whnf) | (refine ⟨_, d3, ?_⟩; conv => whnf) | (refine ⟨_, d4, ?_⟩; conv => whnf) | (refine ⟨rfl, ?_⟩; conv => whnf))
    exact trivial
  · rw [List.length_map, List.length_map]
    have hle : le4 A (stN ns ns.length) := hbd.take ns.length
    have q3' := qln_cast hle.1
    have q4' := qln_cast hle.2.1
    have hne : castQ (stN ns ns.length).2.1 ≠ 0 := fun e => hq0 (by
      have h1 : ((stN ns ns.length).2.1 : Int) = 0 := Rat.intCast_eq_zero_iff.1 e
      omega)
    have d1 := f152_ok (base J) (a := castQ (stN ns ns.length).1) (b := castQ (stN ns ns.length).2.1) hne (by omega) (by omega)
    show W J.top _ _ (mkA [(2, .ptr 1000000 0), (6, .ptr (1000001) 0), (7, .ptr (1000002) 0), (8, .ptr (1000003) 0), (9, .ptr (1000004) 0)] (al4 (qr (castQ (stN ns ns.length).1)) (qr (castQ (stN ns ns.length).2.1)) (qr (castQ (stN ns ns.length).2.2.1)) (qr (castQ (stN ns ns.length).2.2.2)) (.agg [.sl [], .bool false, .sl []])) 60) _
    repeat (first | (refine W.RS (by kernel_rfl) ?_; conv => whnf) | (refine W.ret ?_; conv => whnf) | (refine ⟨_, d1, ?_⟩; conv => whnf))
    rfl
end Go.Proofs.Fl
namespace Go.Proofs.Fl
open Go.RowKit Go.Proofs.Dig
attribute [local irreducible] IntKind.wrap PureC MutC MakC IterC
theorem ceil_pos {u : Rat} (h : 0 < u.num) : 0 < -((-u).floor) := by
  obtain ⟨c1, c2⟩ := ceil_spec u
  apply Classical.byContradiction
  intro hn
  have := Int.mul_nonpos_of_nonpos_of_nonneg (a := -((-u).floor)) (b := (u.den : Int)) (by omega) (by omega)
  omega
theorem desc_last : ∀ (fuel : Nat) (u v : Rat) (ns : List Nat), 0 < u.num → u ≤ v → u.den + v.den ≤ fuel → desc fuel u v = ns.map castQ → ∃ l c, ns = l ++ [c] ∧ 1 ≤ c
  | 0, u, v, ns, _, _, h, _ => by have := den_pos u; omega
  | f + 1, u, v, ns, hu, huv, h, hd => by
    by_cases hc : (((-((-u).floor) : Int)) : Rat) ≤ v
    · rw [desc, if_pos hc] at hd
      obtain ⟨c, rfl⟩ : ∃ c, ns = [c] := by
        have hl := congrArg List.length hd
        rw [List.length_map] at hl
        exact List.length_eq_one_iff.1 hl.symm
      · simp only [List.map_cons, List.map_nil, List.cons.injEq, and_true] at hd
        refine ⟨[], c, rfl, ?_⟩
        have h1 : ((((-((-u).floor) : Int)) : Rat)).num = (castQ c).num := by rw [hd]
        have h2 : -((-u).floor) = (c : Int) := h1
        have := ceil_pos hu
        omega
    · rw [desc, if_neg hc] at hd
      match ns, hd with
      | n :: ns, hd =>
        simp only [List.map_cons, List.cons.injEq] at hd
        obtain ⟨d1, d2, d3, d4, d5⟩ := desc_ends huv hc
        obtain ⟨t1, t2, t3, t4⟩ := desc_step huv hc
        have pv := den_pos v
        obtain ⟨l, c, e, h1⟩ := desc_last f _ _ ns (by rw [d1]; omega) d5 (by rw [d2, d4]; omega) hd.2
        exact ⟨n :: l, c, by rw [e]; rfl, h1⟩
theorem step_q : ∀ (ns : List Nat) (s : St4), 0 < s.2.1 + s.2.2.2 → 0 < (ns.foldl stepN s).2.1 + (ns.foldl stepN s).2.2.2
  | [], s, h => h
  | n :: ns, s, h => by
    refine step_q ns (stepN s n) ?_
    show 0 < (n * s.2.1 + s.2.2.2) + s.2.1
    omega
theorem stN_q {l : List Nat} {c : Nat} (h : 1 ≤ c) : (stN (l ++ [c]) (l ++ [c]).length).2.1 ≠ 0 := by
  unfold stN
  rw [List.take_length, List.foldl_append]
  have h1 := step_q l (1, 0, 0, 1) (by decide)
  generalize l.foldl stepN (1, 0, 0, 1) = s at h1
  show c * s.2.1 + s.2.2.2 ≠ 0
  have : s.2.1 ≤ c * s.2.1 := Nat.le_mul_of_pos_left _ h
  omega
def nsOf (a b : Rat) : List Nat := (desc (a.den + b.den) a b).map fun q => q.num.natAbs
theorem nsOf_eq {a b : Rat} {ns : List Nat} (h : desc (a.den + b.den) a b = ns.map castQ) : nsOf a b = ns := by
  unfold nsOf
  rw [h, List.map_map]
  have : (fun q : Rat => q.num.natAbs) ∘ castQ = id := by
    funext n
    show ((castQ n).num).natAbs = n
    rw [(castQ_num n).1]; omega
  rw [this, List.map_id]
def simpQ (a b : Rat) : Rat := simpP (nsOf a b)
theorem ln_max4 (x y z t : Nat) : ∃ A, x ≤ A ∧ y ≤ A ∧ z ≤ A ∧ t ≤ A ∧ (A = x ∨ A = y ∨ A = z ∨ A = t) :=
  ⟨max (max x y) (max z t), by omega, by omega, by omega, by omega, by omega⟩
theorem f25_pos (J : Keep) {a b : Rat} (hab : a ≤ b) (ha : 0 < a.num) (hb : 0 < b.num) (la : qln a < 2 ^ 28) (lb : qln b < 2 ^ 28) : C J 25 [sd a b] (.tup [qr (simpQ a b), .int .i64 0]) := by
  obtain ⟨A, h1, h2, h3, h4, h5⟩ := ln_max4 a.num.natAbs b.num.natAbs a.den b.den
  unfold qln at la lb
  obtain ⟨ns, hns, hbd⟩ := desc_bd (A := A) (a.den + b.den) a b 1 0 0 1 a.num.natAbs a.den b.num.natAbs b.den a.num.natAbs b.num.natAbs (by omega) (by omega) (by omega) hab (Nat.le_refl _) h1 h2 h3 h4 (by omega) (by omega) (by omega) (by omega) h1 h3 h2 h4
    (by have p1 := den_pos a; refine ⟨?_, ?_, ?_, ?_⟩ <;> dsimp only <;> omega)
  have hA : ln A < 2 ^ 28 := by
    rcases h5 with e | e | e | e <;> rw [e] <;> omega
  obtain ⟨l, c, e, hc⟩ := desc_last (a.den + b.den) a b ns ha hab (Nat.le_refl _) hns
  have hq0 : (stN ns ns.length).2.1 ≠ 0 := by rw [e]; exact stN_q hc
  have h := simplest_pos J hA hns hbd hq0 hab ha hb (ln_mono h1) (ln_mono h3) (ln_mono h2) (ln_mono h4)
  unfold simpQ
  rw [nsOf_eq hns]
  exact h
def simpR (a b : Rat) : Rat := if a.num ≤ 0 ∧ 0 ≤ b.num then 0 else if b.num < 0 then -(simpQ (-b) (-a)) else simpQ a b
noncomputable def simpT (a b : Rat) : IV := if a ≤ b then .tup [qr (simpR a b), .int .i64 0] else .tup [qr 0, .int .i64 2]
theorem cmpR_z1 {a : Rat} : cmpR a 0 ≤ 0 ↔ a.num ≤ 0 := by
  rw [← sign_cmp]; unfold cmpI; split <;> (try split) <;> omega
theorem cmpR_z2 {a : Rat} : cmpR 0 a ≤ 0 ↔ 0 ≤ a.num := by
  unfold cmpR
  show cmpI (0 * (a.den : Int)) (a.num * ((1 : Nat) : Int)) ≤ 0 ↔ _
  rw [Int.zero_mul]; unfold cmpI; split <;> (try split) <;> omega
theorem f25_ok (J : Keep) {a b : Rat} (la : qln a < 2 ^ 28) (lb : qln b < 2 ^ 28) : C J 25 [sd a b] (simpT a b) := by
  unfold simpT
  have c1 := f55_ok (J := J) (a := a) (b := b) (by omega) (by omega)
  have c2 := f30_ok (J := J) (a := a) (b := b) (q := 0) (by omega) (by omega) (by have := qln_zero; omega)
  rw [dg_zero_qr] at c2
  by_cases hab : a ≤ b
  · rw [if_pos hab]
    by_cases h0 : a.num ≤ 0 ∧ 0 ≤ b.num
    · unfold simpR
      rw [if_pos h0, dg_zero_qr]
      rw [decide_eq_true (cmpR_le.2 hab)] at c1
      rw [decide_eq_true (cmpR_z1.2 h0.1), decide_eq_true (cmpR_z2.2 h0.2)] at c2
      refine fn_ok Tryz.func25 rfl rfl rfl ?_
      repeat (first | (refine W.RS (by kernel_rfl) ?_; conv => whnf) | (refine W.S ?_) | (refine W.block ?_) | (refine W.ret ?_; conv => whnf) | (refine W.condF rfl ?_) | (refine W.condT rfl ?_) | (refine ⟨_, c1, ?_⟩; conv => whnf) | (refine ⟨_, c2, ?_⟩; conv => whnf) | (refine ⟨_, rfl, ?_⟩; conv => whnf))
      rfl
    · by_cases hb : b.num < 0
      · unfold simpR
        rw [if_neg h0, if_pos hb]
        rw [decide_eq_true (cmpR_le.2 hab)] at c1
        rw [decide_eq_false (p := cmpR 0 b ≤ 0) (fun h => by have := cmpR_z2.1 h; omega), Bool.and_false] at c2
        have c3 := f22_ok J b
        rw [show cmpI b.num 0 = -1 by unfold cmpI; rw [if_pos hb]] at c3
        have c4 := f102_ok J a b
        have ha : a.num < 0 := by
          have h1 := (Rat.le_iff a b).1 hab
          have h2 : b.num * (a.den : Int) < 0 := Int.mul_neg_of_neg_of_pos hb (by have := den_pos a; omega)
          apply Classical.byContradiction
          intro hn
          have := Int.mul_nonneg (a := a.num) (b := (b.den : Int)) (by omega) (by omega)
          omega
        have hn1 : qln (-a) = qln a := by unfold qln; rw [Rat.neg_num, Int.natAbs_neg, Rat.neg_den]
        have hn2 : qln (-b) = qln b := by unfold qln; rw [Rat.neg_num, Int.natAbs_neg, Rat.neg_den]
        have c5 := f25_pos J (a := -b) (b := -a) (Rat.neg_le_neg hab) (by rw [Rat.neg_num]; omega) (by rw [Rat.neg_num]; omega) (by omega) (by omega)
        have c6 := f66_ok J (simpQ (-b) (-a))
        refine fn_ok Tryz.func25 rfl rfl rfl ?_
        repeat (first | (refine W.RS (by kernel_rfl) ?_; conv => whnf) | (refine W.S ?_) | (refine W.block ?_) | (refine W.ret ?_; conv => whnf) | (refine W.condF rfl ?_) | (refine W.condT rfl ?_) | (refine ⟨_, c1, ?_⟩; conv => whnf) | (refine ⟨_, c2, ?_⟩; conv => whnf) | (refine ⟨_, c3, ?_⟩; conv => whnf) | (refine ⟨_, c4, ?_⟩; conv => whnf) | (refine ⟨_, c5, ?_⟩; conv => whnf) | (refine ⟨_, c6, ?_⟩; conv => whnf) | (refine ⟨true, decide_eq_true (by omega), ?_⟩; conv => whnf) | (refine ⟨_, rfl, ?_⟩; conv => whnf) | (refine ⟨rfl, ?_⟩; conv => whnf))
        rfl
      · unfold simpR
        rw [if_neg h0, if_neg hb]
        have ha : 0 < a.num := by omega
        have hb' : 0 < b.num := by
          have h1 := (Rat.le_iff a b).1 hab
          have h2 : 0 < a.num * (b.den : Int) := Int.mul_pos ha (by have := den_pos b; omega)
          apply Classical.byContradiction
          intro hn
          have : b.num = 0 := by omega
          rw [this] at h1
          omega
        exact f25_pos J hab ha hb' la lb
  · rw [if_neg hab, dg_zero_qr]
    rw [decide_eq_false (fun h => hab (cmpR_le.1 h))] at c1
    refine fn_ok Tryz.func25 rfl rfl rfl ?_
    repeat (first | (refine W.RS (by kernel_rfl) ?_; conv => whnf) | (refine W.S ?_) | (refine W.block ?_) | (refine W.ret ?_; conv => whnf) | (refine W.condT rfl ?_) | (refine ⟨_, c1, ?_⟩; conv => whnf) | (refine ⟨_, rfl, ?_⟩; conv => whnf))
    rfl
end Go.Proofs.Fl
namespace Go.Proofs.Fl
open Go.RowKit Go.Proofs.Dig
attribute [local irreducible] IntKind.wrap PureC MutC MakC IterC
theorem sep_inj {x : UInt8} : ∀ {a c b d : List UInt8}, a ++ x :: b = c ++ x :: d → ¬ x ∈ a → ¬ x ∈ c → a = c ∧ b = d
  | [], [], b, d, h, _, _ => by simp at h; exact ⟨rfl, h⟩
  | [], y :: c, b, d, h, _, hc => by simp at h; exact absurd (by rw [h.1]; simp) hc
  | y :: a, [], b, d, h, ha, _ => by simp at h; exact absurd (by rw [h.1]; simp) ha
  | y :: a, z :: c, b, d, h, ha, hc => by
    simp at h
    obtain ⟨h1, h2⟩ := sep_inj h.2 (fun e => ha (by simp [e])) (fun e => hc (by simp [e]))
    exact ⟨by rw [h.1, h1], h2⟩
theorem decN_no {n : Nat} {x : UInt8} (h : x.toNat < 48) : ¬ x ∈ decN n := fun e => by have := decN_digits n x e; omega
theorem ztext_inj {z w : Int} (h : ztext z = ztext w) : z = w := by
  unfold ztext at h
  by_cases hz : z < 0
  · rw [if_pos hz] at h
    by_cases hw : w < 0
    · rw [if_pos hw] at h
      have := decN_inj (List.append_cancel_left h)
      omega
    · rw [if_neg hw] at h
      have h1 : (45 : UInt8) ∈ decN w.natAbs := by rw [List.nil_append] at h; rw [← h]; simp
      exact absurd h1 (decN_no (by decide))
  · rw [if_neg hz] at h
    by_cases hw : w < 0
    · rw [if_pos hw] at h
      have h1 : (45 : UInt8) ∈ decN z.natAbs := by rw [List.nil_append] at h; rw [h]; simp
      exact absurd h1 (decN_no (by decide))
    · rw [if_neg hw] at h
      have := decN_inj h
      omega
theorem ztext_no (z : Int) : ¬ (47 : UInt8) ∈ ztext z := by
  unfold ztext
  split
  · simp; exact decN_no (by decide)
  · simp; exact decN_no (by decide)
theorem qtext_inj {p q : Rat} (h : qtext p = qtext q) : p = q := by
  unfold qtext at h
  by_cases hp : p.den = 1
  · rw [if_pos hp] at h
    by_cases hq : q.den = 1
    · rw [if_pos hq] at h
      exact Rat.ext (ztext_inj h) (by rw [hp, hq])
    · rw [if_neg hq] at h
      exact absurd (by rw [h]; simp) (ztext_no p.num)
  · rw [if_neg hp] at h
    by_cases hq : q.den = 1
    · rw [if_pos hq] at h
      exact absurd (by rw [← h]; simp) (ztext_no q.num)
    · rw [if_neg hq, List.append_assoc, List.append_assoc] at h
      obtain ⟨h1, h2⟩ := sep_inj h (ztext_no _) (ztext_no _)
      exact Rat.ext (ztext_inj h1) (decN_inj h2)
end Go.Proofs.Fl
namespace Go.Proofs.Fl
open Go.RowKit Go.Proofs.Dig
attribute [local irreducible] IntKind.wrap PureC MutC MakC IterC
theorem qtext_beq (p q : Rat) : (qtext p == qtext q) = decide (p = q) := by
  by_cases h : p = q
  · rw [h, decide_eq_true rfl, beq_self_eq_true]
  · rw [decide_eq_false h, beq_eq_false_iff_ne]
    exact fun e => h (qtext_inj e)
theorem f23_ok {J : Keep} (L : LibI J) {p q : Rat} {d1 d2 : IV} (hd : DOk q d1 d2) (hp : qln p < 2 ^ 36) (hq : rl q < 2 ^ 34) : C J 23 [qr p, rqd q d1 d2] (.bool (decide (p = q))) := by
  refine fn_ok Tryz.func23 rfl rfl rfl ?_
  have c1 := f35_ok L (q := p) (by omega)
  have c2 := f150_ok J hd (by omega)
  have e := qtext_beq p q
  repeat (first | (refine W.RS (by kernel_rfl) ?_; conv => whnf) | (refine W.ret ?_; conv => whnf) | (refine ⟨_, c1, ?_⟩; conv => whnf) | (refine ⟨_, c2, ?_⟩; conv => whnf) | (refine ⟨_, e, ?_⟩; conv => whnf) | (refine ⟨rfl, ?_⟩; conv => whnf))
  rfl
end Go.Proofs.Fl
namespace Go.Proofs.Fl
open Go.RowKit Go.Proofs.Dig
attribute [local irreducible] IntKind.wrap PureC MutC MakC IterC
def baseN (n d : Int) : Rat := (n : Rat) / ((if d = 0 then 1 else d : Int) : Rat)
def bothN (n d : Int) (p : Nat) : Rat := baseN n d ^ (p % 4 + 1)
theorem wu8 {a : Int} (h : 0 ≤ a ∧ a ≤ 255) : IntKind.wrap .u8 a = a := by
  have e : IntKind.wrap .u8 a = (let m := a % (256 : Int); if false && decide (m ≥ (128 : Int)) then m - (256 : Int) else m) := by with_unfolding_all rfl
  rw [e]
  simp; omega
theorem rl_base {n d : Int} (h1 : -9223372036854775808 ≤ n) (h2 : n ≤ 9223372036854775807) (h3 : -9223372036854775808 ≤ d) (h4 : d ≤ 9223372036854775807) : rl (baseN n d) ≤ 13 := by
  unfold baseN
  have e1 := rl_int n
  have e2 := rl_int (if d = 0 then 1 else d : Int)
  have l1 : lh n.natAbs ≤ 5 := lh_le (Nat.lt_of_le_of_lt (show n.natAbs ≤ 9223372036854775808 by omega) (by decide))
  have l2 : lh (if d = 0 then 1 else d : Int).natAbs ≤ 5 := lh_le (Nat.lt_of_le_of_lt (show (if d = 0 then 1 else d : Int).natAbs ≤ 9223372036854775808 by split <;> omega) (by decide))
  have := rl_div (n : Rat) ((if d = 0 then 1 else d : Int) : Rat)
  omega
theorem rl_powN {q : Rat} {N : Nat} (h : rl q ≤ N) : ∀ k, rl (q ^ (k + 1)) ≤ (k + 1) * N
  | 0 => by rw [Nat.zero_add, Rat.pow_succ, Rat.pow_zero, Rat.one_mul]; omega
  | k + 1 => by
    rw [Rat.pow_succ]
    have h1 := rl_mul (q ^ (k + 1)) q
    have h2 := rl_powN h k
    rw [Nat.succ_mul]
    omega
theorem rl_both {n d : Int} {p : Nat} (h1 : -9223372036854775808 ≤ n) (h2 : n ≤ 9223372036854775807) (h3 : -9223372036854775808 ≤ d) (h4 : d ≤ 9223372036854775807) : rl (bothN n d p) ≤ 52 := by
  unfold bothN
  have h := rl_powN (rl_base h1 h2 h3 h4) (p % 4)
  have h5 := Nat.mul_le_mul_right 13 (show p % 4 + 1 ≤ 4 by omega)
  omega
theorem varE' {x y : IV} (h : x = y) : some (Bx.var x) = some (Bx.var y) := by rw [h]
theorem pow_one' (q : Rat) : q ^ (0 + 1) = q := by rw [Rat.pow_succ, Rat.pow_zero, Rat.one_mul]
abbrev numI (n d : Int) (p : Nat) : IV := .agg [.int .i64 n, .int .i64 d, .int .u8 p]
set_option maxHeartbeats 4000000 in
theorem f34_ok (J : Keep) {n d : Int} {p : Nat} (h1 : -9223372036854775808 ≤ n) (h2 : n ≤ 9223372036854775807) (h3 : -9223372036854775808 ≤ d) (h4 : d ≤ 9223372036854775807) : C J 34 [numI n d p] (.tup [qr (bothN n d p), rr (bothN n d p)]) := by
  refine fn_ok Tryz.func34 rfl rfl rfl ?_
  have hb := rl_base h1 h2 h3 h4
  unfold bothN
  obtain ⟨D, hD⟩ : ∃ D : Int, (if d = 0 then 1 else d : Int) = D := ⟨_, rfl⟩
  have hD0 : D ≠ 0 := by rw [← hD]; split <;> omega
  have hD1 : -9223372036854775808 ≤ D ∧ D ≤ 9223372036854775807 := by rw [← hD]; split <;> omega
  have c57 := f57_ok (base J) (n := n) (d := D) h1 h2 hD1.1 hD1.2 hD0
  have c29 := f29_ok J (n := n) (d := D) h1 h2 hD1.1 hD1.2 hD0
  have hQ : baseN n d = (n : Rat) / (D : Rat) := by unfold baseN; rw [hD]
  rw [← hQ] at c57 c29
  obtain ⟨Q, hQe⟩ : ∃ Q, baseN n d = Q := ⟨_, rfl⟩
  rw [hQe] at c57 c29 hb ⊢
  obtain ⟨m, hm⟩ : ∃ m, p % 4 = m := ⟨_, rfl⟩
  have hm4 : m < 4 := by omega
  have hmod : ((p : Nat) : Int).tmod 4 = ((m : Nat) : Int) := by rw [← hm]; exact tmodN p 4
  rw [hm]
  clear hQ hQe
  iterate 1 ((refine W.RS (by kernel_rfl) ?_; conv => whnf))
  refine W.join (G := Unit) (fun _ => mkA [(1, .ptr 0 0), (2, .ptr 1 0), (3, .ptr 2 0)] [(0, .var (numI n D p)), (1, .var (.agg [.sl [], .bool false, .sl []])), (2, .var (.agg [.int .i64 0, .sl [], .int .i64 0, .sl []]))] 10) ?_ (fun _ => ?_)
  · by_cases h0 : d = 0
    · rw [if_pos h0] at hD
      subst hD
      iterate 5 (first | (refine W.RS (by kernel_rfl) ?_; conv => whnf) | (refine W.R (by kernel_rfl) ?_; conv => whnf) | (refine W.condT rfl ?_) | (refine ⟨true, decide_eq_true (by omega), ?_⟩; conv => whnf) | (refine ⟨rfl, ?_⟩; conv => whnf))
      exact ⟨(), Wk.tab [] ⟨⟨rfl, rfl⟩, ⟨rfl, rfl⟩, ⟨rfl, rfl⟩, trivial⟩ ⟨rfl, rfl, rfl, trivial⟩ rfl⟩
    · rw [if_neg h0] at hD
      subst hD
      iterate 5 (first | (refine W.RS (by kernel_rfl) ?_; conv => whnf) | (refine W.skip ?_; conv => whnf) | (refine W.condF rfl ?_) | (refine ⟨false, decide_eq_false (by omega), ?_⟩; conv => whnf) | (refine ⟨rfl, ?_⟩; conv => whnf))
      exact ⟨(), Wk.tab [] ⟨⟨rfl, rfl⟩, ⟨rfl, rfl⟩, ⟨rfl, rfl⟩, trivial⟩ ⟨rfl, rfl, rfl, trivial⟩ rfl⟩
  · show W J _ _ (mkA [(1, .ptr 0 0), (2, .ptr 1 0), (3, .ptr 2 0)] [(0, .var (numI n D p)), (1, .var (.agg [.sl [], .bool false, .sl []])), (2, .var (.agg [.int .i64 0, .sl [], .int .i64 0, .sl []]))] 10) _
    repeat (first | (refine W.RS (by kernel_rfl) ?_; conv => whnf) | (refine W.S ?_) | (refine W.block ?_) | (refine ⟨_, c57, ?_⟩; conv => whnf) | (refine ⟨_, c29, ?_⟩; conv => whnf) | (refine ⟨rfl, ?_⟩; conv => whnf))
    refine W.loop (G := { k : Nat // k ≤ m }) (fun k => mkA [(1, .ptr 0 0), (2, .ptr 1 0), (3, .ptr 2 0), (4, .ptr 3 0), (6, .ptr 4 0), (7, .ptr 5 0), (8, .ptr 6 0), (9, .iv (.int .u8 (k.1 : Nat)))]
      [(0, .var (numI n D p)), (1, .var (.agg [.sl [], .bool false, .sl []])), (2, .var (.agg [.int .i64 0, .sl [], .int .i64 0, .sl []])), (3, .var (qr Q)), (4, .var (rr Q)), (5, .var (qr (Q ^ (k.1 + 1)))), (6, .var (rr (Q ^ (k.1 + 1))))] 40) (fun k => m - k.1)
      ⟨0, Nat.zero_le _⟩ (Wk.tab [(3, 18), (4, 26), (5, 30), (6, 31)] ⟨⟨rfl, rfl⟩, ⟨rfl, rfl⟩, ⟨rfl, rfl⟩, ⟨rfl, rfl⟩, ⟨rfl, rfl⟩, ⟨rfl, rfl⟩, ⟨rfl, rfl⟩, ⟨rfl, rfl⟩, trivial⟩ ⟨rfl, rfl, rfl, rfl, rfl, varE' (by rw [pow_one']), varE' (by rw [pow_one']), trivial⟩ rfl) ?_
    rintro ⟨k, hk⟩
    show W J _ _ (mkA [(1, .ptr 0 0), (2, .ptr 1 0), (3, .ptr 2 0), (4, .ptr 3 0), (6, .ptr 4 0), (7, .ptr 5 0), (8, .ptr 6 0), (9, .iv (.int .u8 (k : Nat)))]
      [(0, .var (numI n D p)), (1, .var (.agg [.sl [], .bool false, .sl []])), (2, .var (.agg [.int .i64 0, .sl [], .int .i64 0, .sl []])), (3, .var (qr Q)), (4, .var (rr Q)), (5, .var (qr (Q ^ (k + 1)))), (6, .var (rr (Q ^ (k + 1))))] 40) _
    have lp := rl_powN hb k
    have lp2 := Nat.mul_le_mul_right 13 (show k + 1 ≤ 4 by omega)
    have lq := qln_rl Q
    have lq2 := qln_rl (Q ^ (k + 1))
    have c49 := f49_ok (base J) (a := Q ^ (k + 1)) (b := Q) (by omega) (by omega)
    have c65 := f65_ok J (DOk.rr (Q ^ (k + 1))) (DOk.rr Q) (by omega) (by omega)
    rw [← Rat.pow_succ] at c49 c65
    have hw : IntKind.wrap .u8 (((k : Nat) : Int) + 1) = ((k + 1 : Nat) : Int) := wu8 (by omega)
    by_cases hk2 : k = m
    · subst hk2
      repeat (first | (refine W.RS (by kernel_rfl) ?_; conv => whnf) | (refine W.S ?_) | (refine W.ret ?_; conv => whnf) | (refine W.exit ?_; conv => whnf) | (refine W.condF rfl ?_) | (refine ⟨by omega, _, hmod, ?_⟩; conv => whnf) | (refine ⟨false, decide_eq_false (by omega), ?_⟩; conv => whnf) | (refine ⟨rfl, ?_⟩; conv => whnf))
      rfl
    · repeat (first | (refine W.RS (by kernel_rfl) ?_; conv => whnf) | (refine W.R (by kernel_rfl) ?_; conv => whnf) | (refine W.S ?_) | (refine W.block ?_) | (refine W.skip ?_; conv => whnf) | (refine W.condT rfl ?_) | (refine ⟨by omega, _, hmod, ?_⟩; conv => whnf) | (refine ⟨_, c49, ?_⟩; conv => whnf) | (refine ⟨_, c65, ?_⟩; conv => whnf) | (refine ⟨_, hw, ?_⟩; conv => whnf) | (refine ⟨true, decide_eq_true (by omega), ?_⟩; conv => whnf) | (refine ⟨rfl, ?_⟩; conv => whnf))
      exact ⟨⟨k + 1, by omega⟩, Wk.tab [] ⟨⟨rfl, rfl⟩, ⟨rfl, rfl⟩, ⟨rfl, rfl⟩, ⟨rfl, rfl⟩, ⟨rfl, rfl⟩, ⟨rfl, rfl⟩, ⟨rfl, rfl⟩, ⟨rfl, rfl⟩, trivial⟩ ⟨rfl, rfl, rfl, rfl, rfl, rfl, rfl, trivial⟩ rfl, by dsimp only; omega⟩
end Go.Proofs.Fl
namespace Go.Proofs.Fl
open Go.RowKit Go.ChangeShapes Go.WideShapes Go.Deep
attribute [local irreducible] IntKind.wrap PureC MutC MakC IterC
set_option maxRecDepth 100000
theorem wf_i64 {n : Int} (h : (Lit.int .i64 n).wf = true) : -9223372036854775808 ≤ n ∧ n ≤ 9223372036854775807 := by
  simp only [Lit.wf, Bool.and_eq_true, decide_eq_true_eq] at h
  have e1 : IntKind.i64.min = -9223372036854775808 := rfl
  have e2 : IntKind.i64.max = 9223372036854775807 := rfl
  rw [e1, e2] at h
  exact h
theorem wf_u8 {n : Int} (h : (Lit.int .u8 n).wf = true) : ∃ p : Nat, n = (p : Int) ∧ p < 256 := by
  simp only [Lit.wf, Bool.and_eq_true, decide_eq_true_eq] at h
  have e1 : IntKind.u8.min = 0 := rfl
  have e2 : IntKind.u8.max = 255 := rfl
  rw [e1, e2] at h
  exact ⟨n.toNat, by omega, by omega⟩
section
variable {H : Type} {enc : TypeId × Value → H} {w : World} {base : Nat} {spare : Nat → Bool} {held : Bool}
theorem num_cells {fuel : Nat} {cs : List Value} {x : DataW H × List MemPlace} (h : DataW.trod enc Tryz.prog w base spare held fuel 45 cs = some x) :
    ∃ (n d : Int) (p : Nat), cs = [.int .i64 n, .int .i64 d, .int .u8 (p : Int)] ∧ (-9223372036854775808 ≤ n ∧ n ≤ 9223372036854775807) ∧ (-9223372036854775808 ≤ d ∧ d ≤ 9223372036854775807) ∧ p < 256 := by
  obtain ⟨y0, y1, y2, m, _, hl, h0, h1, h2⟩ := trod_struct3 Tryz.underlying45 h
  rw [show Tryz.prog.cellsOf 45 = 3 by kernel_rfl] at hl
  dsimp only at h0 h1 h2
  rw [show Tryz.prog.cellsOf 2 = 1 by kernel_rfl] at h0 h1
  rw [show Tryz.prog.cellsOf 5 = 1 by kernel_rfl] at h2
  match cs, hl with
  | [c0, c1, c2], _ =>
    obtain ⟨n, e0, _, w0⟩ := DataW.trod_int Tryz.underlying2 h0
    obtain ⟨d, e1, _, w1⟩ := DataW.trod_int Tryz.underlying2 h1
    obtain ⟨p, e2, _, w2⟩ := DataW.trod_int Tryz.underlying5 h2
    simp at e0 e1 e2
    obtain ⟨p, rfl, hp⟩ := wf_u8 w2
    exact ⟨n, d, p, by rw [e0, e1, e2], wf_i64 w0, wf_i64 w1, hp⟩
theorem num_arg {r : Reach} {b0 : Nat} {v : Value} {d : DataW H} {p : List MemPlace} (hv : Value.okWide Tryz.prog w r b0 45 v) (h : DataW.Trod enc Tryz.prog w base spare held 45 v d p) :
    ∃ (n d : Int) (p : Nat), v = .agg #[.int .i64 n, .int .i64 d, .int .u8 (p : Int)] ∧ (-9223372036854775808 ≤ n ∧ n ≤ 9223372036854775807) ∧ (-9223372036854775808 ≤ d ∧ d ≤ 9223372036854775807) ∧ p < 256 := by
  obtain ⟨cs, rfl, hsz⟩ := okWide_struct Tryz.underlying45 hv
  obtain ⟨fuel, hf⟩ := h
  obtain ⟨n, d, p, e, h1, h2, h3⟩ := num_cells hf
  refine ⟨n, d, p, ?_, h1, h2, h3⟩
  have e' : cs.toList = [.int .i64 n, .int .i64 d, .int .u8 (p : Int)] := e
  rw [← e']
theorem num_vr {Hp : Heap} {n d : Int} {p : Nat} : VR Hp (.agg #[.int .i64 n, .int .i64 d, .int .u8 (p : Int)]) (numI n d p) :=
  VR.agg [.int .i64 n, .int .i64 d, .int .u8 (p : Int)] _ (.cons _ _ _ _ (.int _ _) (.cons _ _ _ _ (.int _ _) (.cons _ _ _ _ (.int _ _) .nil))) (by intro v hv; simp at hv; rcases hv with rfl | rfl | rfl <;> rfl)
theorem int_arg {r : Reach} {b0 : Nat} {t : TypeId} (ht : Tryz.prog.underlying t = some (.int .i64)) {v : Value} {d : DataW H} {p : List MemPlace} (hv : Value.okWide Tryz.prog w r b0 t v) (h : DataW.Trod enc Tryz.prog w base spare held t v d p) :
    ∃ n : Int, v = .int .i64 n ∧ -9223372036854775808 ≤ n ∧ n ≤ 9223372036854775807 := by
  obtain ⟨n, rfl, _, _, hw⟩ := open_int ht hv h
  exact ⟨n, rfl, wf_i64 hw⟩
end
def noHeap : Heap := fun _ => none
theorem noHeap_has (w : World) : HeapHas w noHeap := fun _ _ h => by cases h
noncomputable def firstG : Nat := (Tryz.prog.globalNamed "unicode/utf8.first").getD 0
noncomputable def layFirst : Obj → Obj
  | .cells _ t frozen => .cells (Lib.firstTab.map fun z => Value.int .u8 z).toArray t frozen
  | o => o
noncomputable def witW (os : Os) : World :=
  { World.doorLaid Tryz.prog 72 os with heap := (World.doorLaid Tryz.prog 72 os).heap.modify firstG layFirst }
theorem wit_met (os : Os) (args : Array Value) : laidMetH Tryz.prog YtdheblnjmnlpfaaGreatDoor.Rows.numGridRow.laid ((witW os).forCall (fun _ _ => 0) ⟨#[], args, []⟩).memory :=
  laidMetH_of_parts3 (fuel := 8) (laidMet_of_run' 8 (by kernel_rfl) (by kernel_rfl)) (by kernel_rfl) (by kernel_rfl)
theorem laid_pow (W : World) (h : laidMetH Tryz.prog YtdheblnjmnlpfaaGreatDoor.Rows.numGridRow.laid W) : Lib.TabIs Tryz.prog W "internal/strconv.uint64pow10" .u64 Lib.pow10Tab := by
  have h1 := h.filter (fun x => x.1 == "internal/strconv.uint64pow10")
  have e : (YtdheblnjmnlpfaaGreatDoor.Rows.numGridRow.laid.filter fun x => x.1 == "internal/strconv.uint64pow10") = [("internal/strconv.uint64pow10", Lib.tabData .u64 Lib.pow10Tab)] := by kernel_rfl
  rw [e, MakeChecks.laidMetH_plain _ _ _ (by kernel_rfl)] at h1
  exact Lib.tabIs_of_head gPow (t := (Tryz.prog.globals[(Tryz.prog.globalNamed "internal/strconv.uint64pow10").getD 0]?.map (·.type)).getD 0) (e := 142) (n := 20) (by kernel_rfl) (by kernel_rfl) (by kernel_rfl) (by kernel_rfl) (by kernel_rfl) h1
end Go.Proofs.Fl
namespace Go.Proofs.Fl
open Go.RowKit Go.Proofs.Dig
attribute [local irreducible] IntKind.wrap PureC MutC MakC IterC
theorem rl_lt_qln {q : Rat} {N : Nat} (h : rl q < N) : qln q < N := Nat.lt_of_le_of_lt (qln_rl q) h
theorem f44_ok {J : Keep} (L : LibI J) {a b p q : Rat} (ha : qln a < 2 ^ 36) (hb : qln b < 2 ^ 36) (hp : rl p < 2 ^ 34) (hq : rl q < 2 ^ 34) : C J 44 [sd a b, sx (some p) (some q)] (.bool (decide (a = p) && decide (b = q))) := by
  refine fn_ok Tryz.func44 rfl rfl rfl ?_
  have c1 := f23_ok L (DOk.rr p) ha hp
  have c2 := f23_ok L (DOk.rr q) hb hq
  by_cases h : a = p
  · rw [decide_eq_true h] at c1 ⊢
    rw [Bool.true_and]
    repeat (first | (refine W.RS (by kernel_rfl) ?_; conv => whnf) | (refine W.ret ?_; conv => whnf) | (refine ⟨_, c1, ?_⟩; conv => whnf) | (refine ⟨_, c2, ?_⟩; conv => whnf) | (refine ⟨_, fun _ => rfl, fun h => absurd h.symm Bool.false_ne_true, ?_⟩; conv => whnf))
    rfl
  · rw [decide_eq_false h] at c1 ⊢
    rw [Bool.false_and]
    repeat (first | (refine W.RS (by kernel_rfl) ?_; conv => whnf) | (refine W.ret ?_; conv => whnf) | (refine ⟨_, c1, ?_⟩; conv => whnf) | (refine ⟨_, fun h => absurd h Bool.false_ne_true, fun _ => rfl, ?_⟩; conv => whnf))
    rfl
end Go.Proofs.Fl
namespace Go.Proofs.Fl
open Go.RowKit Go.Proofs.Dig
attribute [local irreducible] IntKind.wrap PureC MutC MakC IterC
def padT (n X : Nat) : List UInt8 := List.replicate (n + 1 - (decN X).length) 48 ++ decN X
def dotT (n : Nat) (t : List UInt8) : List UInt8 := if 0 < n then t.take (t.length - n) ++ [46] ++ t.drop (t.length - n) else t
def digT (n : Nat) (X : Int) : List UInt8 := (if X < 0 then [45] else []) ++ dotT n (padT n X.natAbs)
noncomputable def scaleQ (n : Nat) : Rat := (((10 ^ n : Nat) : Int) : Rat)
noncomputable def digR (a b : Rat) (n : Nat) : IV := if a ≤ b ∧ nearI (a * scaleQ n) = nearI (b * scaleQ n) then .tup [.str (digT n (nearI (a * scaleQ n))), .bool true] else .tup [.str [], .bool false]
theorem zdN (N : Nat) : zd ((N : Nat) : Int) = .agg [.sl ((dg N).map u32), .bool false] := by
  show IV.agg [.sl ((dg ((N : Nat) : Int).natAbs).map u32), .bool (decide (((N : Nat) : Int) < 0))] = _
  rw [Int.natAbs_natCast, decide_eq_false (by omega)]
theorem cmpR_int {x y : Int} : cmpR (x : Rat) (y : Rat) = 0 ↔ x = y := by
  rw [cmpR_eq, Rat.intCast_inj]
theorem padT_len (n X : Nat) : n + 1 ≤ (padT n X).length ∧ (padT n X).length ≤ n + 1 + (decN X).length := by
  unfold padT
  rw [List.length_append, List.length_replicate]
  omega
theorem ln_near {q : Rat} : ln (nearI q).natAbs ≤ ln q.num.natAbs + 2 := by
  have lf := ln_floor (q := q)
  unfold nearI
  split
  · omega
  · have h1 := ln_mono (Int.natAbs_add_le q.floor 1)
    have h2 := ln_add_le q.floor.natAbs (1 : Int).natAbs
    have h3 : ln (1 : Int).natAbs ≤ 1 := ln_le (by decide)
    omega
set_option maxHeartbeats 4000000 in
theorem f32_ok {J : Keep} (L : LibI J) {a b : Rat} (ha : qln a < 2 ^ 26) (hb : qln b < 2 ^ 26) (k : Int) : C J 32 [sd a b, .int .i64 k] (digR a b (intoN k 100)) := by
  refine fn_ok Tryz.func32 rfl rfl rfl ?_
  have c0 := f154_ok J k 100
  obtain ⟨n, hn⟩ : ∃ n, intoN k 100 = n := ⟨_, rfl⟩
  have hn1 : n ≤ 100 := by rw [← hn]; unfold intoN; omega
  rw [hn] at c0 ⊢
  have c1 := f134_ok J (n := 10) (by omega)
  have l10 : ln 10 ≤ 1 := ln_le (by decide)
  have g1 := Nat.mul_le_mul (show n + 1 ≤ 101 by omega) l10
  have g2 := Nat.mul_le_mul hn1 l10
  have c2 := f137_ok J (a := 10) (n := n) (by omega) (by omega)
  have l2 := ln_pow 10 n
  have c3 := f155_ok J (((10 ^ n : Nat) : Int))
  rw [zdN] at c3
  have ls : qln (scaleQ n) ≤ 110 := by
    have h := qln_i (((10 ^ n : Nat)) : Int)
    rw [Int.natAbs_natCast] at h
    show qln ((((10 ^ n : Nat)) : Int) : Rat) ≤ 110
    omega
  unfold digR
  obtain ⟨sc, hsc⟩ : ∃ s, scaleQ n = s := ⟨_, rfl⟩
  rw [hsc] at ls ⊢
  rw [show ((((10 ^ n : Nat)) : Int) : Rat) = sc from hsc] at c3
  have m1 := qln_mul a sc
  have m2 := qln_mul b sc
  have c4 := f49_ok (base J) (a := a) (b := sc) (by omega) (by omega)
  have c5 := f49_ok (base J) (a := b) (b := sc) (by omega) (by omega)
  have c6 := f156_ok (base J) (a := a * sc) (by omega)
  have c7 := f156_ok (base J) (a := b * sc) (by omega)
  have n1 := ln_near (q := a * sc)
  have n2 := ln_near (q := b * sc)
  have n3 : ln (a * sc).num.natAbs ≤ qln (a * sc) := by unfold qln; omega
  have n4 : ln (b * sc).num.natAbs ≤ qln (b * sc) := by unfold qln; omega
  obtain ⟨X, hX⟩ : ∃ X, nearI (a * sc) = X := ⟨_, rfl⟩
  obtain ⟨Y, hY⟩ : ∃ Y, nearI (b * sc) = Y := ⟨_, rfl⟩
  rw [hX] at c6 n1 ⊢
  rw [hY] at c7 n2 ⊢
  have i1 := qln_i X
  have i2 := qln_i Y
  have c8 := f55_ok (J := J) (a := a) (b := b) (by omega) (by omega)
  have c9 := f37_ok (J := J) (a := (X : Rat)) (b := (Y : Rat)) (by omega) (by omega)
  have hcm := @cmpR_int X Y
  obtain ⟨cv, hcv⟩ : ∃ cv, cmpR (X : Rat) (Y : Rat) = cv := ⟨_, rfl⟩
  rw [hcv] at c9 hcm
  by_cases h1 : a ≤ b
  · rw [decide_eq_true (cmpR_le.2 h1)] at c8
    by_cases h2 : X = Y
    · rw [if_pos ⟨h1, h2⟩]
      have hcv0 := hcm.2 h2
      have c10 := f157_ok L (n := X.natAbs) (by omega)
      have d1 := decN_ln X.natAbs
      have c11 := f22_ok J (X : Rat)
      have hsg : cmpI ((X : Int) : Rat).num 0 < 0 ↔ X < 0 := by
        show cmpI X 0 < 0 ↔ X < 0
        unfold cmpI; split <;> (try split) <;> omega
      obtain ⟨sg, hsge⟩ : ∃ s, cmpI ((X : Int) : Rat).num 0 = s := ⟨_, rfl⟩
      rw [hsge] at c11 hsg
      have eD : digT n X = (if X < 0 then [45] else []) ++ dotT n (padT n X.natAbs) := rfl
      have pl := padT_len n X.natAbs
      obtain ⟨T, hT⟩ : ∃ T, padT n X.natAbs = T := ⟨_, rfl⟩
      rw [hT] at eD pl
      rw [eD]
      unfold padT at hT
      obtain ⟨dN, hdN⟩ : ∃ l, decN X.natAbs = l := ⟨_, rfl⟩
      rw [hdN] at hT c10 d1 pl
      have hzl : (List.replicate (n + 1 - dN.length) (48 : UInt8)).length = n + 1 - dN.length := List.length_replicate
      have c12 := f158_ok J (s := [48]) (c := n + 1 - dN.length) (by simp; omega) (by omega)
      rw [repeat_zero] at c12
      obtain ⟨z, hz⟩ : ∃ z, List.replicate (n + 1 - dN.length) (48 : UInt8) = z := ⟨_, rfl⟩
      rw [hz] at hT hzl c12
      have hdl : dN.length < 2 ^ 40 := by omega
      have hb' := hb
      clear g1 g2 l10 l2 ls m1 m2 n1 n2 n3 n4 i1 i2 ha hb hb' hcm eD hdN hz
      have h46a : (List.drop 0 (List.take (T.length - n) T)).length + ([46] : List UInt8).length ≤ 9223372036854775807 := by simp; omega
      have h46b : (List.drop 0 (List.take (T.length - n) T) ++ ([46] : List UInt8)).length + (List.drop (T.length - n) (List.take T.length T)).length ≤ 9223372036854775807 := by simp; omega
      have hUl : (dotT n T).length ≤ T.length + 1 := by unfold dotT; split <;> simp <;> omega
      have eU1 : 0 < n → SV.iv (.str (List.drop 0 (List.take (T.length - n) T) ++ [46] ++ List.drop (T.length - n) (List.take T.length T))) = SV.iv (.str (dotT n T)) := fun h => by rw [dotT, if_pos h, List.take_length]; rfl
      have eU2 : ¬ 0 < n → SV.iv (.str T) = SV.iv (.str (dotT n T)) := fun h => by rw [dotT, if_neg h]
      obtain ⟨U, hU⟩ : ∃ U, dotT n T = U := ⟨_, rfl⟩
      rw [hU] at hUl eU1 eU2 ⊢
      have h45 : ([45] : List UInt8).length + U.length ≤ 9223372036854775807 := by simp; omega
      by_cases k1 : n + 1 - dN.length = 0
      · have eT : SV.iv (.str dN) = SV.iv (.str T) := by
          rw [← hT, List.eq_nil_of_length_eq_zero (l := z) (by omega), List.nil_append]
        by_cases k2 : 0 < n
        · have eU := eU1 k2
          by_cases k3 : X < 0
          · have k4 := hsg.2 k3
            rw [if_pos k3]
            repeat (first | (refine W.wkRS (id := 6) (σ' := mkA [(1, .iv (.int .i64 n)), (7, .ptr 0 0)] [(0, .var (qr (X : Rat)))] 40) (Wk.tab [(0, 18)] ⟨⟨rfl, rfl⟩, ⟨rfl, rfl⟩, trivial⟩ ⟨rfl, trivial⟩ rfl) (by kernel_rfl) ?_; conv => whnf) | (refine W.wkRS (id := 10) (σ' := mkA [(1, .iv (.int .i64 n)), (7, .ptr 0 0), (8, .iv (.str T))] [(0, .var (qr (X : Rat)))] 60) (Wk.tab [] ⟨⟨rfl, rfl⟩, ⟨rfl, rfl⟩, ⟨eT, rfl⟩, trivial⟩ ⟨rfl, trivial⟩ rfl) (by kernel_rfl) ?_; conv => whnf) | (refine W.wkRS (id := 12) (σ' := mkA [(7, .ptr 0 0), (8, .iv (.str U))] [(0, .var (qr (X : Rat)))] 80) (Wk.tab [] ⟨⟨rfl, rfl⟩, ⟨eU, rfl⟩, trivial⟩ ⟨rfl, trivial⟩ rfl) (by kernel_rfl) ?_; conv => whnf) | (refine W.RS (by kernel_rfl) ?_; conv => whnf) | (refine W.R (by kernel_rfl) ?_; conv => whnf) | (refine W.S ?_) | (refine W.ret ?_; conv => whnf) | (refine W.skip ?_; conv => whnf) | (refine W.condF rfl ?_) | (refine W.condT rfl ?_) | (refine ⟨_, c0, ?_⟩; conv => whnf) | (refine ⟨_, c1, ?_⟩; conv => whnf) | (refine ⟨_, c2, ?_⟩; conv => whnf) | (refine ⟨_, c3, ?_⟩; conv => whnf) | (refine ⟨_, c4, ?_⟩; conv => whnf) | (refine ⟨_, c5, ?_⟩; conv => whnf) | (refine ⟨_, c6, ?_⟩; conv => whnf) | (refine ⟨_, c7, ?_⟩; conv => whnf) | (refine ⟨_, c8, ?_⟩; conv => whnf) | (refine ⟨_, c9, ?_⟩; conv => whnf) | (refine ⟨_, c10, ?_⟩; conv => whnf) | (refine ⟨_, c11, ?_⟩; conv => whnf) | (refine ⟨T.length - n, by omega, by omega, by omega, ?_⟩; conv => whnf) | (refine ⟨h46a, ?_⟩; conv => whnf) | (refine ⟨h46b, ?_⟩; conv => whnf) | (refine ⟨h45, ?_⟩; conv => whnf) | (refine ⟨rfl, _, w64 (by omega), ?_⟩; conv => whnf) | (refine ⟨true, decide_eq_true (by omega), ?_⟩; conv => whnf) | (refine ⟨false, decide_eq_false (by omega), ?_⟩; conv => whnf) | (refine ⟨false, bne_eq_false_iff_eq.2 (by omega), ?_⟩; conv => whnf) | (refine ⟨_, rfl, ?_⟩; conv => whnf) | (refine ⟨rfl, ?_⟩; conv => whnf) | (refine ⟨_, fun h => absurd h Bool.false_ne_true, fun _ => rfl, ?_⟩; conv => whnf))
            rfl
          · have k4 : ¬ sg < 0 := fun h => k3 (hsg.1 h)
            rw [if_neg k3]
            repeat (first | (refine W.wkRS (id := 6) (σ' := mkA [(1, .iv (.int .i64 n)), (7, .ptr 0 0)] [(0, .var (qr (X : Rat)))] 40) (Wk.tab [(0, 18)] ⟨⟨rfl, rfl⟩, ⟨rfl, rfl⟩, trivial⟩ ⟨rfl, trivial⟩ rfl) (by kernel_rfl) ?_; conv => whnf) | (refine W.wkRS (id := 10) (σ' := mkA [(1, .iv (.int .i64 n)), (7, .ptr 0 0), (8, .iv (.str T))] [(0, .var (qr (X : Rat)))] 60) (Wk.tab [] ⟨⟨rfl, rfl⟩, ⟨rfl, rfl⟩, ⟨eT, rfl⟩, trivial⟩ ⟨rfl, trivial⟩ rfl) (by kernel_rfl) ?_; conv => whnf) | (refine W.wkRS (id := 12) (σ' := mkA [(7, .ptr 0 0), (8, .iv (.str U))] [(0, .var (qr (X : Rat)))] 80) (Wk.tab [] ⟨⟨rfl, rfl⟩, ⟨eU, rfl⟩, trivial⟩ ⟨rfl, trivial⟩ rfl) (by kernel_rfl) ?_; conv => whnf) | (refine W.RS (by kernel_rfl) ?_; conv => whnf) | (refine W.R (by kernel_rfl) ?_; conv => whnf) | (refine W.S ?_) | (refine W.ret ?_; conv => whnf) | (refine W.skip ?_; conv => whnf) | (refine W.condF rfl ?_) | (refine W.condT rfl ?_) | (refine ⟨_, c0, ?_⟩; conv => whnf) | (refine ⟨_, c1, ?_⟩; conv => whnf) | (refine ⟨_, c2, ?_⟩; conv => whnf) | (refine ⟨_, c3, ?_⟩; conv => whnf) | (refine ⟨_, c4, ?_⟩; conv => whnf) | (refine ⟨_, c5, ?_⟩; conv => whnf) | (refine ⟨_, c6, ?_⟩; conv => whnf) | (refine ⟨_, c7, ?_⟩; conv => whnf) | (refine ⟨_, c8, ?_⟩; conv => whnf) | (refine ⟨_, c9, ?_⟩; conv => whnf) | (refine ⟨_, c10, ?_⟩; conv => whnf) | (refine ⟨_, c11, ?_⟩; conv => whnf) | (refine ⟨T.length - n, by omega, by omega, by omega, ?_⟩; conv => whnf) | (refine ⟨h46a, ?_⟩; conv => whnf) | (refine ⟨h46b, ?_⟩; conv => whnf) | (refine ⟨rfl, _, w64 (by omega), ?_⟩; conv => whnf) | (refine ⟨true, decide_eq_true (by omega), ?_⟩; conv => whnf) | (refine ⟨false, decide_eq_false (by omega), ?_⟩; conv => whnf) | (refine ⟨false, bne_eq_false_iff_eq.2 (by omega), ?_⟩; conv => whnf) | (refine ⟨_, rfl, ?_⟩; conv => whnf) | (refine ⟨rfl, ?_⟩; conv => whnf) | (refine ⟨_, fun h => absurd h Bool.false_ne_true, fun _ => rfl, ?_⟩; conv => whnf))
            rfl
        · have eU := eU2 k2
          by_cases k3 : X < 0
          · have k4 := hsg.2 k3
            rw [if_pos k3]
            repeat (first | (refine W.wkRS (id := 6) (σ' := mkA [(1, .iv (.int .i64 n)), (7, .ptr 0 0)] [(0, .var (qr (X : Rat)))] 40) (Wk.tab [(0, 18)] ⟨⟨rfl, rfl⟩, ⟨rfl, rfl⟩, trivial⟩ ⟨rfl, trivial⟩ rfl) (by kernel_rfl) ?_; conv => whnf) | (refine W.wkRS (id := 10) (σ' := mkA [(1, .iv (.int .i64 n)), (7, .ptr 0 0), (8, .iv (.str T))] [(0, .var (qr (X : Rat)))] 60) (Wk.tab [] ⟨⟨rfl, rfl⟩, ⟨rfl, rfl⟩, ⟨eT, rfl⟩, trivial⟩ ⟨rfl, trivial⟩ rfl) (by kernel_rfl) ?_; conv => whnf) | (refine W.wkRS (id := 12) (σ' := mkA [(7, .ptr 0 0), (8, .iv (.str U))] [(0, .var (qr (X : Rat)))] 80) (Wk.tab [] ⟨⟨rfl, rfl⟩, ⟨eU, rfl⟩, trivial⟩ ⟨rfl, trivial⟩ rfl) (by kernel_rfl) ?_; conv => whnf) | (refine W.RS (by kernel_rfl) ?_; conv => whnf) | (refine W.R (by kernel_rfl) ?_; conv => whnf) | (refine W.S ?_) | (refine W.ret ?_; conv => whnf) | (refine W.skip ?_; conv => whnf) | (refine W.condF rfl ?_) | (refine W.condT rfl ?_) | (refine ⟨_, c0, ?_⟩; conv => whnf) | (refine ⟨_, c1, ?_⟩; conv => whnf) | (refine ⟨_, c2, ?_⟩; conv => whnf) | (refine ⟨_, c3, ?_⟩; conv => whnf) | (refine ⟨_, c4, ?_⟩; conv => whnf) | (refine ⟨_, c5, ?_⟩; conv => whnf) | (refine ⟨_, c6, ?_⟩; conv => whnf) | (refine ⟨_, c7, ?_⟩; conv => whnf) | (refine ⟨_, c8, ?_⟩; conv => whnf) | (refine ⟨_, c9, ?_⟩; conv => whnf) | (refine ⟨_, c10, ?_⟩; conv => whnf) | (refine ⟨_, c11, ?_⟩; conv => whnf) | (refine ⟨h45, ?_⟩; conv => whnf) | (refine ⟨rfl, _, w64 (by omega), ?_⟩; conv => whnf) | (refine ⟨true, decide_eq_true (by omega), ?_⟩; conv => whnf) | (refine ⟨false, decide_eq_false (by omega), ?_⟩; conv => whnf) | (refine ⟨false, bne_eq_false_iff_eq.2 (by omega), ?_⟩; conv => whnf) | (refine ⟨_, rfl, ?_⟩; conv => whnf) | (refine ⟨rfl, ?_⟩; conv => whnf) | (refine ⟨_, fun h => absurd h Bool.false_ne_true, fun _ => rfl, ?_⟩; conv => whnf))
            rfl
          · have k4 : ¬ sg < 0 := fun h => k3 (hsg.1 h)
            rw [if_neg k3]
            repeat (first | (refine W.wkRS (id := 6) (σ' := mkA [(1, .iv (.int .i64 n)), (7, .ptr 0 0)] [(0, .var (qr (X : Rat)))] 40) (Wk.tab [(0, 18)] ⟨⟨rfl, rfl⟩, ⟨rfl, rfl⟩, trivial⟩ ⟨rfl, trivial⟩ rfl) (by kernel_rfl) ?_; conv => whnf) | (refine W.wkRS (id := 10) (σ' := mkA [(1, .iv (.int .i64 n)), (7, .ptr 0 0), (8, .iv (.str T))] [(0, .var (qr (X : Rat)))] 60) (Wk.tab [] ⟨⟨rfl, rfl⟩, ⟨rfl, rfl⟩, ⟨eT, rfl⟩, trivial⟩ ⟨rfl, trivial⟩ rfl) (by kernel_rfl) ?_; conv => whnf) | (refine W.wkRS (id := 12) (σ' := mkA [(7, .ptr 0 0), (8, .iv (.str U))] [(0, .var (qr (X : Rat)))] 80) (Wk.tab [] ⟨⟨rfl, rfl⟩, ⟨eU, rfl⟩, trivial⟩ ⟨rfl, trivial⟩ rfl) (by kernel_rfl) ?_; conv => whnf) | (refine W.RS (by kernel_rfl) ?_; conv => whnf) | (refine W.S ?_) | (refine W.ret ?_; conv => whnf) | (refine W.skip ?_; conv => whnf) | (refine W.condF rfl ?_) | (refine ⟨_, c0, ?_⟩; conv => whnf) | (refine ⟨_, c1, ?_⟩; conv => whnf) | (refine ⟨_, c2, ?_⟩; conv => whnf) | (refine ⟨_, c3, ?_⟩; conv => whnf) | (refine ⟨_, c4, ?_⟩; conv => whnf) | (refine ⟨_, c5, ?_⟩; conv => whnf) | (refine ⟨_, c6, ?_⟩; conv => whnf) | (refine ⟨_, c7, ?_⟩; conv => whnf) | (refine ⟨_, c8, ?_⟩; conv => whnf) | (refine ⟨_, c9, ?_⟩; conv => whnf) | (refine ⟨_, c10, ?_⟩; conv => whnf) | (refine ⟨_, c11, ?_⟩; conv => whnf) | (refine ⟨rfl, _, w64 (by omega), ?_⟩; conv => whnf) | (refine ⟨false, decide_eq_false (by omega), ?_⟩; conv => whnf) | (refine ⟨false, bne_eq_false_iff_eq.2 (by omega), ?_⟩; conv => whnf) | (refine ⟨_, rfl, ?_⟩; conv => whnf) | (refine ⟨rfl, ?_⟩; conv => whnf) | (refine ⟨_, fun h => absurd h Bool.false_ne_true, fun _ => rfl, ?_⟩; conv => whnf))
            rfl
      · have eT : SV.iv (.str (z ++ dN)) = SV.iv (.str T) := by rw [hT]
        rw [show ((n + 1 - dN.length : Nat) : Int) = (n : Int) + 1 - ((dN.length : Nat) : Int) by omega] at c12
        by_cases k2 : 0 < n
        · have eU := eU1 k2
          by_cases k3 : X < 0
          · have k4 := hsg.2 k3
            rw [if_pos k3]
            repeat (first | (refine W.wkRS (id := 6) (σ' := mkA [(1, .iv (.int .i64 n)), (7, .ptr 0 0)] [(0, .var (qr (X : Rat)))] 40) (Wk.tab [(0, 18)] ⟨⟨rfl, rfl⟩, ⟨rfl, rfl⟩, trivial⟩ ⟨rfl, trivial⟩ rfl) (by kernel_rfl) ?_; conv => whnf) | (refine W.wkRS (id := 10) (σ' := mkA [(1, .iv (.int .i64 n)), (7, .ptr 0 0), (8, .iv (.str T))] [(0, .var (qr (X : Rat)))] 60) (Wk.tab [] ⟨⟨rfl, rfl⟩, ⟨rfl, rfl⟩, ⟨eT, rfl⟩, trivial⟩ ⟨rfl, trivial⟩ rfl) (by kernel_rfl) ?_; conv => whnf) | (refine W.wkRS (id := 12) (σ' := mkA [(7, .ptr 0 0), (8, .iv (.str U))] [(0, .var (qr (X : Rat)))] 80) (Wk.tab [] ⟨⟨rfl, rfl⟩, ⟨eU, rfl⟩, trivial⟩ ⟨rfl, trivial⟩ rfl) (by kernel_rfl) ?_; conv => whnf) | (refine W.RS (by kernel_rfl) ?_; conv => whnf) | (refine W.R (by kernel_rfl) ?_; conv => whnf) | (refine W.S ?_) | (refine W.ret ?_; conv => whnf) | (refine W.skip ?_; conv => whnf) | (refine W.condF rfl ?_) | (refine W.condT rfl ?_) | (refine ⟨_, c0, ?_⟩; conv => whnf) | (refine ⟨_, c1, ?_⟩; conv => whnf) | (refine ⟨_, c2, ?_⟩; conv => whnf) | (refine ⟨_, c3, ?_⟩; conv => whnf) | (refine ⟨_, c4, ?_⟩; conv => whnf) | (refine ⟨_, c5, ?_⟩; conv => whnf) | (refine ⟨_, c6, ?_⟩; conv => whnf) | (refine ⟨_, c7, ?_⟩; conv => whnf) | (refine ⟨_, c8, ?_⟩; conv => whnf) | (refine ⟨_, c9, ?_⟩; conv => whnf) | (refine ⟨_, c10, ?_⟩; conv => whnf) | (refine ⟨_, c11, ?_⟩; conv => whnf) | (refine ⟨_, c12, ?_⟩; conv => whnf) | (refine ⟨T.length - n, by omega, by omega, by omega, ?_⟩; conv => whnf) | (refine ⟨h46a, ?_⟩; conv => whnf) | (refine ⟨h46b, ?_⟩; conv => whnf) | (refine ⟨h45, ?_⟩; conv => whnf) | (refine ⟨rfl, _, w64 (by omega), ?_⟩; conv => whnf) | (refine ⟨true, decide_eq_true (by omega), ?_⟩; conv => whnf) | (refine ⟨false, bne_eq_false_iff_eq.2 (by omega), ?_⟩; conv => whnf) | (refine ⟨_, rfl, ?_⟩; conv => whnf) | (refine ⟨rfl, ?_⟩; conv => whnf) | (refine And.intro (by omega) ?_; conv => whnf) | (refine ⟨_, fun h => absurd h Bool.false_ne_true, fun _ => rfl, ?_⟩; conv => whnf))
            rfl
          · have k4 : ¬ sg < 0 := fun h => k3 (hsg.1 h)
            rw [if_neg k3]
            repeat (first | (refine W.wkRS (id := 6) (σ' := mkA [(1, .iv (.int .i64 n)), (7, .ptr 0 0)] [(0, .var (qr (X : Rat)))] 40) (Wk.tab [(0, 18)] ⟨⟨rfl, rfl⟩, ⟨rfl, rfl⟩, trivial⟩ ⟨rfl, trivial⟩ rfl) (by kernel_rfl) ?_; conv => whnf) | (refine W.wkRS (id := 10) (σ' := mkA [(1, .iv (.int .i64 n)), (7, .ptr 0 0), (8, .iv (.str T))] [(0, .var (qr (X : Rat)))] 60) (Wk.tab [] ⟨⟨rfl, rfl⟩, ⟨rfl, rfl⟩, ⟨eT, rfl⟩, trivial⟩ ⟨rfl, trivial⟩ rfl) (by kernel_rfl) ?_; conv => whnf) | (refine W.wkRS (id := 12) (σ' := mkA [(7, .ptr 0 0), (8, .iv (.str U))] [(0, .var (qr (X : Rat)))] 80) (Wk.tab [] ⟨⟨rfl, rfl⟩, ⟨eU, rfl⟩, trivial⟩ ⟨rfl, trivial⟩ rfl) (by kernel_rfl) ?_; conv => whnf) | (refine W.RS (by kernel_rfl) ?_; conv => whnf) | (refine W.R (by kernel_rfl) ?_; conv => whnf) | (refine W.S ?_) | (refine W.ret ?_; conv => whnf) | (refine W.skip ?_; conv => whnf) | (refine W.condF rfl ?_) | (refine W.condT rfl ?_) | (refine ⟨_, c0, ?_⟩; conv => whnf) | (refine ⟨_, c1, ?_⟩; conv => whnf) | (refine ⟨_, c2, ?_⟩; conv => whnf) | (refine ⟨_, c3, ?_⟩; conv => whnf) | (refine ⟨_, c4, ?_⟩; conv => whnf) | (refine ⟨_, c5, ?_⟩; conv => whnf) | (refine ⟨_, c6, ?_⟩; conv => whnf) | (refine ⟨_, c7, ?_⟩; conv => whnf) | (refine ⟨_, c8, ?_⟩; conv => whnf) | (refine ⟨_, c9, ?_⟩; conv => whnf) | (refine ⟨_, c10, ?_⟩; conv => whnf) | (refine ⟨_, c11, ?_⟩; conv => whnf) | (refine ⟨_, c12, ?_⟩; conv => whnf) | (refine ⟨T.length - n, by omega, by omega, by omega, ?_⟩; conv => whnf) | (refine ⟨h46a, ?_⟩; conv => whnf) | (refine ⟨h46b, ?_⟩; conv => whnf) | (refine ⟨rfl, _, w64 (by omega), ?_⟩; conv => whnf) | (refine ⟨true, decide_eq_true (by omega), ?_⟩; conv => whnf) | (refine ⟨false, decide_eq_false (by omega), ?_⟩; conv => whnf) | (refine ⟨false, bne_eq_false_iff_eq.2 (by omega), ?_⟩; conv => whnf) | (refine ⟨_, rfl, ?_⟩; conv => whnf) | (refine ⟨rfl, ?_⟩; conv => whnf) | (refine And.intro (by omega) ?_; conv => whnf) | (refine ⟨_, fun h => absurd h Bool.false_ne_true, fun _ => rfl, ?_⟩; conv => whnf))
            rfl
        · have eU := eU2 k2
          by_cases k3 : X < 0
          · have k4 := hsg.2 k3
            rw [if_pos k3]
            repeat (first | (refine W.wkRS (id := 6) (σ' := mkA [(1, .iv (.int .i64 n)), (7, .ptr 0 0)] [(0, .var (qr (X : Rat)))] 40) (Wk.tab [(0, 18)] ⟨⟨rfl, rfl⟩, ⟨rfl, rfl⟩, trivial⟩ ⟨rfl, trivial⟩ rfl) (by kernel_rfl) ?_; conv => whnf) | (refine W.wkRS (id := 10) (σ' := mkA [(1, .iv (.int .i64 n)), (7, .ptr 0 0), (8, .iv (.str T))] [(0, .var (qr (X : Rat)))] 60) (Wk.tab [] ⟨⟨rfl, rfl⟩, ⟨rfl, rfl⟩, ⟨eT, rfl⟩, trivial⟩ ⟨rfl, trivial⟩ rfl) (by kernel_rfl) ?_; conv => whnf) | (refine W.wkRS (id := 12) (σ' := mkA [(7, .ptr 0 0), (8, .iv (.str U))] [(0, .var (qr (X : Rat)))] 80) (Wk.tab [] ⟨⟨rfl, rfl⟩, ⟨eU, rfl⟩, trivial⟩ ⟨rfl, trivial⟩ rfl) (by kernel_rfl) ?_; conv => whnf) | (refine W.RS (by kernel_rfl) ?_; conv => whnf) | (refine W.R (by kernel_rfl) ?_; conv => whnf) | (refine W.S ?_) | (refine W.ret ?_; conv => whnf) | (refine W.skip ?_; conv => whnf) | (refine W.condF rfl ?_) | (refine W.condT rfl ?_) | (refine ⟨_, c0, ?_⟩; conv => whnf) | (refine ⟨_, c1, ?_⟩; conv => whnf) | (refine ⟨_, c2, ?_⟩; conv => whnf) | (refine ⟨_, c3, ?_⟩; conv => whnf) | (refine ⟨_, c4, ?_⟩; conv => whnf) | (refine ⟨_, c5, ?_⟩; conv => whnf) | (refine ⟨_, c6, ?_⟩; conv => whnf) | (refine ⟨_, c7, ?_⟩; conv => whnf) | (refine ⟨_, c8, ?_⟩; conv => whnf) | (refine ⟨_, c9, ?_⟩; conv => whnf) | (refine ⟨_, c10, ?_⟩; conv => whnf) | (refine ⟨_, c11, ?_⟩; conv => whnf) | (refine ⟨_, c12, ?_⟩; conv => whnf) | (refine ⟨h45, ?_⟩; conv => whnf) | (refine ⟨rfl, _, w64 (by omega), ?_⟩; conv => whnf) | (refine ⟨true, decide_eq_true (by omega), ?_⟩; conv => whnf) | (refine ⟨false, decide_eq_false (by omega), ?_⟩; conv => whnf) | (refine ⟨false, bne_eq_false_iff_eq.2 (by omega), ?_⟩; conv => whnf) | (refine ⟨_, rfl, ?_⟩; conv => whnf) | (refine ⟨rfl, ?_⟩; conv => whnf) | (refine And.intro (by omega) ?_; conv => whnf) | (refine ⟨_, fun h => absurd h Bool.false_ne_true, fun _ => rfl, ?_⟩; conv => whnf))
            rfl
          · have k4 : ¬ sg < 0 := fun h => k3 (hsg.1 h)
            rw [if_neg k3]
            repeat (first | (refine W.wkRS (id := 6) (σ' := mkA [(1, .iv (.int .i64 n)), (7, .ptr 0 0)] [(0, .var (qr (X : Rat)))] 40) (Wk.tab [(0, 18)] ⟨⟨rfl, rfl⟩, ⟨rfl, rfl⟩, trivial⟩ ⟨rfl, trivial⟩ rfl) (by kernel_rfl) ?_; conv => whnf) | (refine W.wkRS (id := 10) (σ' := mkA [(1, .iv (.int .i64 n)), (7, .ptr 0 0), (8, .iv (.str T))] [(0, .var (qr (X : Rat)))] 60) (Wk.tab [] ⟨⟨rfl, rfl⟩, ⟨rfl, rfl⟩, ⟨eT, rfl⟩, trivial⟩ ⟨rfl, trivial⟩ rfl) (by kernel_rfl) ?_; conv => whnf) | (refine W.wkRS (id := 12) (σ' := mkA [(7, .ptr 0 0), (8, .iv (.str U))] [(0, .var (qr (X : Rat)))] 80) (Wk.tab [] ⟨⟨rfl, rfl⟩, ⟨eU, rfl⟩, trivial⟩ ⟨rfl, trivial⟩ rfl) (by kernel_rfl) ?_; conv => whnf) | (refine W.RS (by kernel_rfl) ?_; conv => whnf) | (refine W.R (by kernel_rfl) ?_; conv => whnf) | (refine W.S ?_) | (refine W.ret ?_; conv => whnf) | (refine W.skip ?_; conv => whnf) | (refine W.condF rfl ?_) | (refine W.condT rfl ?_) | (refine ⟨_, c0, ?_⟩; conv => whnf) | (refine ⟨_, c1, ?_⟩; conv => whnf) | (refine ⟨_, c2, ?_⟩; conv => whnf) | (refine ⟨_, c3, ?_⟩; conv => whnf) | (refine ⟨_, c4, ?_⟩; conv => whnf) | (refine ⟨_, c5, ?_⟩; conv => whnf) | (refine ⟨_, c6, ?_⟩; conv => whnf) | (refine ⟨_, c7, ?_⟩; conv => whnf) | (refine ⟨_, c8, ?_⟩; conv => whnf) | (refine ⟨_, c9, ?_⟩; conv => whnf) | (refine ⟨_, c10, ?_⟩; conv => whnf) | (refine ⟨_, c11, ?_⟩; conv => whnf) | (refine ⟨_, c12, ?_⟩; conv => whnf) | (refine ⟨rfl, _, w64 (by omega), ?_⟩; conv => whnf) | (refine ⟨true, decide_eq_true (by omega), ?_⟩; conv => whnf) | (refine ⟨false, decide_eq_false (by omega), ?_⟩; conv => whnf) | (refine ⟨false, bne_eq_false_iff_eq.2 (by omega), ?_⟩; conv => whnf) | (refine ⟨_, rfl, ?_⟩; conv => whnf) | (refine ⟨rfl, ?_⟩; conv => whnf) | (refine And.intro (by omega) ?_; conv => whnf) | (refine ⟨_, fun h => absurd h Bool.false_ne_true, fun _ => rfl, ?_⟩; conv => whnf))
            rfl
    · rw [if_neg (fun h => h2 h.2)]
      have hcv0 : ¬ cv = 0 := fun h => h2 (hcm.1 h)
      clear g1 g2 l10 l2 ls m1 m2 n1 n2 n3 n4 i1 i2 ha hb hcm
      repeat (first | (refine W.RS (by kernel_rfl) ?_; conv => whnf) | (refine W.S ?_) | (refine W.ret ?_; conv => whnf) | (refine W.condT rfl ?_) | (refine ⟨_, c0, ?_⟩; conv => whnf) | (refine ⟨_, c1, ?_⟩; conv => whnf) | (refine ⟨_, c2, ?_⟩; conv => whnf) | (refine ⟨_, c3, ?_⟩; conv => whnf) | (refine ⟨_, c4, ?_⟩; conv => whnf) | (refine ⟨_, c5, ?_⟩; conv => whnf) | (refine ⟨_, c6, ?_⟩; conv => whnf) | (refine ⟨_, c7, ?_⟩; conv => whnf) | (refine ⟨_, c8, ?_⟩; conv => whnf) | (refine ⟨_, c9, ?_⟩; conv => whnf) | (refine ⟨true, bne_iff_ne.2 (by omega), ?_⟩; conv => whnf) | (refine ⟨_, rfl, ?_⟩; conv => whnf) | (refine ⟨rfl, ?_⟩; conv => whnf) | (refine ⟨_, fun h => absurd h Bool.false_ne_true, fun _ => rfl, ?_⟩; conv => whnf))
      rfl
  · rw [if_neg (fun h => h1 h.1)]
    rw [decide_eq_false (fun h => h1 (cmpR_le.1 h))] at c8
    clear g1 g2 l10 l2 ls m1 m2 n1 n2 n3 n4 i1 i2 ha hb hcm
    repeat (first | (refine W.RS (by kernel_rfl) ?_; conv => whnf) | (refine W.S ?_) | (refine W.ret ?_; conv => whnf) | (refine W.condT rfl ?_) | (refine ⟨_, c0, ?_⟩; conv => whnf) | (refine ⟨_, c1, ?_⟩; conv => whnf) | (refine ⟨_, c2, ?_⟩; conv => whnf) | (refine ⟨_, c3, ?_⟩; conv => whnf) | (refine ⟨_, c4, ?_⟩; conv => whnf) | (refine ⟨_, c6, ?_⟩; conv => whnf) | (refine ⟨_, c8, ?_⟩; conv => whnf) | (refine ⟨_, rfl, ?_⟩; conv => whnf) | (refine ⟨rfl, ?_⟩; conv => whnf) | (refine ⟨_, fun _ => rfl, fun h => absurd h.symm Bool.false_ne_true, ?_⟩; conv => whnf))
    rfl
end Go.Proofs.Fl
namespace Go.Proofs.Fl
open Go.RowKit Go.Proofs.Dig
attribute [local irreducible] IntKind.wrap PureC MutC MakC IterC
theorem f123_ok {J : Keep} (L : LibI J) {s : List UInt8} (hs : s.length < 2 ^ 31) : C J 123 [.str s] (qr (parseQ s).1) := by
  refine fn_ok Tryz.func123 rfl rfl rfl ?_
  have c1 := f20_ok L hs
  unfold rePq at c1
  repeat (first | (refine W.RS (by kernel_rfl) ?_; conv => whnf) | (refine W.ret ?_; conv => whnf) | (refine ⟨_, c1, ?_⟩; conv => whnf))
  rfl
theorem f124_ok {J : Keep} (L : LibI J) {s t : List UInt8} (hs : s.length < 2 ^ 31) (ht : t.length < 2 ^ 31) : C J 124 [.str s, .str t] (sd (parseQ s).1 (parseQ t).1) := by
  refine fn_ok Tryz.func124 rfl rfl rfl ?_
  have c1 := f123_ok L hs
  have c2 := f123_ok L ht
  repeat (first | (refine W.RS (by kernel_rfl) ?_; conv => whnf) | (refine W.ret ?_; conv => whnf) | (refine ⟨_, c1, ?_⟩; conv => whnf) | (refine ⟨_, c2, ?_⟩; conv => whnf))
  rfl
theorem f122_ok {J : Keep} (L : LibI J) {q : Rat} {s : List UInt8} (h : qln q < 2 ^ 40) : C J 122 [qr q, .str s] (.bool (qtext q == s)) := by
  refine fn_ok Tryz.func122 rfl rfl rfl ?_
  have c1 := f35_ok L h
  repeat (first | (refine W.RS (by kernel_rfl) ?_; conv => whnf) | (refine W.ret ?_; conv => whnf) | (refine ⟨_, c1, ?_⟩; conv => whnf) | (refine ⟨_, rfl, ?_⟩; conv => whnf))
  rfl
end Go.Proofs.Fl
namespace Go.Proofs.Fl
open Go.RowKit Go.Proofs.Dig
attribute [local irreducible] IntKind.wrap PureC MutC MakC IterC
theorem qln_of {q : Rat} {n d : Nat} (h1 : q.num.natAbs = n) (h2 : q.den = d) (h3 : n < 10 ^ 9) (h4 : d < 10 ^ 9) : qln q ≤ 2 := by
  unfold qln
  have e1 := ln_le (n := q.num.natAbs) (k := 1) (by rw [h1, Nat.pow_one]; exact h3)
  have e2 := ln_le (n := q.den) (k := 1) (by rw [h2, Nat.pow_one]; exact h4)
  omega
def smQ (q : Rat) : Bool := Nat.blt q.num.natAbs 1000000000 && Nat.blt q.den 1000000000
theorem smQ_qln {q : Rat} (h : smQ q = true) : qln q ≤ 2 := by
  unfold smQ at h
  simp only [Bool.and_eq_true, Nat.blt_eq] at h
  exact qln_of rfl rfl h.1 h.2
theorem parse_c {J : Keep} (L : LibI J) {s : List UInt8} {q : Rat} {e : Int} (hs : Nat.blt s.length 2147483648 = true) (h : parseQ s = (q, e)) : C J 20 [.str s] (.tup [qr q, .int .i64 e]) := by
  have := f20_ok L (s := s) (by rw [Nat.blt_eq] at hs; omega)
  rw [h] at this
  exact this
theorem of_c {J : Keep} (L : LibI J) {s : List UInt8} {q : Rat} {e : Int} (hs : Nat.blt s.length 2147483648 = true) (h : parseQ s = (q, e)) : C J 123 [.str s] (qr q) := by
  have := f123_ok L (s := s) (by rw [Nat.blt_eq] at hs; omega)
  rw [h] at this
  exact this
theorem span_c {J : Keep} (L : LibI J) {s t : List UInt8} {p q : Rat} {e f : Int} (hs : Nat.blt s.length 2147483648 = true) (ht : Nat.blt t.length 2147483648 = true) (h : parseQ s = (p, e)) (k : parseQ t = (q, f)) : C J 124 [.str s, .str t] (sd p q) := by
  have := f124_ok L (s := s) (t := t) (by rw [Nat.blt_eq] at hs; omega) (by rw [Nat.blt_eq] at ht; omega)
  rw [h, k] at this
  exact this
theorem is_c {J : Keep} (L : LibI J) {q : Rat} {s : List UInt8} {b : Bool} (h : smQ q = true) (e : (qtext q == s) = b) : C J 122 [qr q, .str s] (.bool b) := by
  have := f122_ok L (q := q) (s := s) (by have := smQ_qln h; omega)
  rw [e] at this
  exact this
set_option maxHeartbeats 4000000 in
theorem f19_ok {J : Keep} (L : LibI J) : C J 19 [] (.bool true) := by
  refine fn_ok Tryz.func19 rfl rfl rfl ?_
  have a1 := parse_c L (s := [45, 49, 46, 50, 53, 48]) (q := -5 / 4) (e := 0) (by decide) (by decide +kernel)
  have a2 := parse_c L (s := [49, 53, 101, 45, 49]) (q := 3 / 2) (e := 0) (by decide) (by decide +kernel)
  have b1 := span_c L (s := [51, 49, 47, 49, 48]) (t := [51, 50, 47, 49, 48]) (p := 31 / 10) (q := 16 / 5) (e := 0) (f := 0) (by decide) (by decide) (by decide +kernel) (by decide +kernel)
  have b2 := span_c L (s := [51, 49, 52, 49, 47, 49, 48, 48, 48]) (t := [51, 49, 52, 51, 47, 49, 48, 48, 48]) (p := 3141 / 1000) (q := 3143 / 1000) (e := 0) (f := 0) (by decide) (by decide) (by decide +kernel) (by decide +kernel)
  have b3 := span_c L (s := [49]) (t := [50]) (p := 1) (q := 2) (e := 0) (f := 0) (by decide) (by decide) (by decide +kernel) (by decide +kernel)
  have b4 := span_c L (s := [45, 51]) (t := [49]) (p := -3) (q := 1) (e := 0) (f := 0) (by decide) (by decide) (by decide +kernel) (by decide +kernel)
  have z1 := smQ_qln (q := 31 / 10) (by decide +kernel)
  have z2 := smQ_qln (q := 16 / 5) (by decide +kernel)
  have z3 := smQ_qln (q := 3141 / 1000) (by decide +kernel)
  have z4 := smQ_qln (q := 3143 / 1000) (by decide +kernel)
  have z5 := smQ_qln (q := 1 / 3) (by decide +kernel)
  have z6 := smQ_qln (q := 1) (by decide +kernel)
  have z7 := smQ_qln (q := 2) (by decide +kernel)
  have z8 := smQ_qln (q := -3) (by decide +kernel)
  have z9 := smQ_qln (q := -6) (by decide +kernel)
  have c1 := f25_ok J (a := 31 / 10) (b := 16 / 5) (by omega) (by omega)
  have e1 : simpT (31 / 10) (16 / 5) = .tup [qr (16 / 5), .int .i64 0] := by
    unfold simpT
    rw [if_pos (by decide +kernel), show simpR (31 / 10) (16 / 5) = 16 / 5 by decide +kernel]
  rw [e1] at c1
  have c2 := f32_ok L (a := 3141 / 1000) (b := 3143 / 1000) (by omega) (by omega) 2
  have e2 : digR (3141 / 1000) (3143 / 1000) (intoN 2 100) = .tup [.str [51, 46, 49, 52], .bool true] := by
    unfold digR
    rw [if_pos (by decide +kernel), show digT (intoN 2 100) (nearI (3141 / 1000 * scaleQ (intoN 2 100))) = [51, 46, 49, 52] by decide +kernel]
  rw [e2] at c2
  have d1 := is_c L (q := -5 / 4) (s := [45, 53, 47, 52]) (b := true) (by decide +kernel) (by decide +kernel)
  have d2 := is_c L (q := 3 / 2) (s := [51, 47, 50]) (b := true) (by decide +kernel) (by decide +kernel)
  have d3 := is_c L (q := 16 / 5) (s := [49, 54, 47, 53]) (b := true) (by decide +kernel) (by decide +kernel)
  have d4 := of_c L (s := [49, 47, 51]) (q := 1 / 3) (e := 0) (by decide) (by decide +kernel)
  have d5 := f40_ok (base J) (q := 1 / 3) (by omega) 2
  rw [show (((1 / 3 * (((gk 2 : Nat) : Int) : Rat)).floor : Rat) * mkRat 1 (gk 2)) = (1 / 4 : Rat) by decide +kernel] at d5
  have d6 := f41_ok (base J) (q := 1 / 3) (by omega) 2
  rw [show (-((-(1 / 3 * (((gk 2 : Nat) : Int) : Rat))).floor : Rat) * mkRat 1 (gk 2)) = (1 / 2 : Rat) by decide +kernel] at d6
  have d7 := is_c L (q := 1 / 4) (s := [49, 47, 52]) (b := true) (by decide +kernel) (by decide +kernel)
  have d8 := is_c L (q := 1 / 2) (s := [49, 47, 50]) (b := true) (by decide +kernel) (by decide +kernel)
  have d9 := f100_ok (base J) (a := 1) (b := 2) (c := -3) (d := 1) (by omega) (by omega) (by omega) (by omega)
  rw [show minL (mulE 1 2 (-3) 1) = -6 by decide +kernel, show maxL (mulE 1 2 (-3) 1) = 2 by decide +kernel] at d9
  have d10 := f113_ok L (a := -6) (b := 2) (by omega) (by omega)
  have e10 : ([91] ++ qtext (-6) ++ [32] ++ qtext 2 ++ [93] == [91, 45, 54, 32, 50, 93]) = true := by decide +kernel
  clear z1 z2 z3 z4 z5 z6 z7 z8 z9 e1 e2
  repeat (first | (refine W.RS (by kernel_rfl) ?_; conv => whnf) | (refine W.ret ?_; conv => whnf) | (refine ⟨_, a1, ?_⟩; conv => whnf) | (refine ⟨_, a2, ?_⟩; conv => whnf) | (refine ⟨_, b1, ?_⟩; conv => whnf) | (refine ⟨_, b2, ?_⟩; conv => whnf) | (refine ⟨_, b3, ?_⟩; conv => whnf) | (refine ⟨_, b4, ?_⟩; conv => whnf) | (refine ⟨_, c1, ?_⟩; conv => whnf) | (refine ⟨_, c2, ?_⟩; conv => whnf) | (refine ⟨_, d1, ?_⟩; conv => whnf) | (refine ⟨_, d2, ?_⟩; conv => whnf) | (refine ⟨_, d3, ?_⟩; conv => whnf) | (refine ⟨_, d4, ?_⟩; conv => whnf) | (refine ⟨_, d5, ?_⟩; conv => whnf) | (refine ⟨_, d6, ?_⟩; conv => whnf) | (refine ⟨_, d7, ?_⟩; conv => whnf) | (refine ⟨_, d8, ?_⟩; conv => whnf) | (refine ⟨_, d9, ?_⟩; conv => whnf) | (refine ⟨_, d10, ?_⟩; conv => whnf) | (refine ⟨_, e10, ?_⟩; conv => whnf) | (refine ⟨true, decide_eq_true (by omega), ?_⟩; conv => whnf) | (refine ⟨_, rfl, ?_⟩; conv => whnf) | (refine ⟨rfl, ?_⟩; conv => whnf) | (refine ⟨_, fun _ => rfl, fun h => absurd h.symm Bool.false_ne_true, ?_⟩; conv => whnf))
  rfl
end Go.Proofs.Fl
