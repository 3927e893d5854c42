/-
  The card of TopSeries is proved: the law's function returns true at every argument of its shape; no condition.
-/
import Derived.Test.YtemnaolonamolaaGreatDoorZ2
import Derived.Shelf.Strings.BuilderK
import Derived.Shelf.Strings.Builder1
import Derived.Shelf.Strings.Builder2
import Derived.Shelf.Small.Wraps
import Derived.Shelf.Strings.BuilderF
import Derived.Shelf.Strings.Builder2Cap
import Derived.Shelf.Strconv.Itoa0
import Derived.Shelf.Strconv.Itoa1
import Derived.Shelf.LaysM
import Derived.Shelf.Strconv.Itoa2
import Derived.Shelf.Strconv.Itoa3
import Derived.Shelf.Strings.Prefix
import Derived.Shelf.Bits.Mul64
import Derived.Shelf.Strings.Repeat
import Derived.Ground.Names2Prog
import Derived.Shelf.Slices.SearchI
import Derived.Test.YtemnaolonamolaaGreatDoorProg
namespace Go.Proofs.Fl
open Go.RowKit Go.Proofs.Dig
attribute [local irreducible] IntKind.wrap PureC MutC MakC IterC
theorem varEq {x y : Nat} (h : x = y) : some (Bx.var (mag x)) = some (Bx.var (mag y)) := by rw [h]
theorem ln_one : ln 1 = 1 := by
  have h1 := ln_le (n := 1) (k := 1) (by decide)
  have h2 := ln_pos (a := 1) (by omega)
  omega
theorem ln_pow (a k : Nat) : ln (a ^ k) ≤ k * ln a + 1 := by
  induction k with
  | zero => rw [Nat.pow_zero, ln_one]; omega
  | succ k ih =>
    have h1 := ln_le (n := a ^ (k + 1)) (k := (k + 1) * ln a + 1) (by
      have e : ∀ k, a ^ (k + 1) < B9 ^ ((k + 1) * ln a + 1) := fun k => by
        rw [Nat.mul_comm, Nat.pow_succ B9, Nat.pow_mul]
        have h2 : a ^ (k + 1) ≤ (B9 ^ ln a) ^ (k + 1) := Nat.pow_le_pow_left (Nat.le_of_lt (lt_ln a)) _
        have h3 : 0 < (B9 ^ ln a) ^ (k + 1) := Nat.pow_pos (Nat.pow_pos (by decide))
        have h4 : (B9 ^ ln a) ^ (k + 1) * 2 ≤ (B9 ^ ln a) ^ (k + 1) * B9 := Nat.mul_le_mul_left _ (by decide)
        omega
      exact e k)
    exact h1
theorem f137_ok (J : Keep) {a n : Nat} (hn : n < 2 ^ 30) (hl : (n + 1) * ln a < 2 ^ 40) : C J 157 [mag a, .int .i64 n] (mag (a ^ n)) := by
  refine fn_ok Tryz.func157 rfl rfl rfl ?_
  repeat (first | (refine W.RS (by kernel_rfl) ?_; conv => whnf) | (refine W.S ?_) | (refine W.block ?_) | (refine ⟨_, f134_ok J (n := 1) (by omega), ?_⟩; conv => whnf))
  refine W.loop (G := { p : Nat × Nat × Nat // p.1 + p.2.1 * p.2.2 = n ∧ p.2.1 ≤ n + 1 ∧ p.2.2 ≤ n }) (fun p => mkA [(1, .iv (.int .i64 (p.1.2.2 : Int))), (2, .ptr 0 0), (4, .ptr 1 0), (5, .ptr 2 0)] [(0, .var (mag (a ^ p.1.2.1))), (1, .var (.agg [.sl []])), (2, .var (mag (a ^ p.1.1)))] 10) (fun p => p.1.2.2)
    ⟨(0, 1, n), by dsimp only; omega, by dsimp only; omega, Nat.le_refl _⟩ (Wk.tab [(2, 3)] ⟨⟨rfl, rfl⟩, ⟨rfl, rfl⟩, ⟨rfl, rfl⟩, ⟨rfl, rfl⟩, trivial⟩ ⟨varEq (by rw [Nat.pow_one]), rfl, varEq (by rw [Nat.pow_zero]), trivial⟩ rfl) ?_
  rintro ⟨⟨u, w, m⟩, he, hw, hmn⟩
  dsimp only at he hw hmn
  show W J _ _ (mkA [(1, .iv (.int .i64 (m : Int))), (2, .ptr 0 0), (4, .ptr 1 0), (5, .ptr 2 0)] [(0, .var (mag (a ^ w))), (1, .var (.agg [.sl []])), (2, .var (mag (a ^ u)))] 10) _
  have hu : u ≤ n := by omega
  have l1 : ln (a ^ u) ≤ 2 ^ 40 + 1 := by
    have h1 := ln_pow a u
    have h2 : u * ln a ≤ (n + 1) * ln a := Nat.mul_le_mul_right _ (by omega)
    omega
  have l2 : ln (a ^ w) ≤ 2 ^ 40 + 1 := by
    have h1 := ln_pow a w
    have h2 : w * ln a ≤ (n + 1) * ln a := Nat.mul_le_mul_right _ hw
    omega
  have hm2 : (m : Int).tmod 2 = ((m % 2 : Nat) : Int) := tmodN m 2
  have hq2 : IntKind.wrap .i64 ((m : Int).tdiv 2) = ((m / 2 : Nat) : Int) := by
    rw [show (2 : Int) = ((2 : Nat) : Int) from rfl, tdivN]
    exact w64 (by omega)
  obtain ⟨q, hq⟩ : ∃ q, m / 2 = q := ⟨_, rfl⟩
  obtain ⟨r, hr⟩ : ∃ r, m % 2 = r := ⟨_, rfl⟩
  rw [hq] at hq2
  rw [hr] at hm2
  have c1 : C J 17 [mag (a ^ u), mag (a ^ w)] (mag (a ^ (u + w))) := by
    rw [Nat.pow_add]; exact f136_ok J (by omega)
  have c2 : C J 17 [mag (a ^ w), mag (a ^ w)] (mag (a ^ (w + w))) := by
    rw [Nat.pow_add]; exact f136_ok J (by omega)
  have hww : w * m = 2 * (w * q) + w * r := by
    have : m = 2 * q + r := by omega
    rw [this, Nat.mul_add, Nat.mul_left_comm]
  have hdd : (w + w) * q = 2 * (w * q) := by rw [← Nat.two_mul, Nat.mul_assoc]
  have hle : w * 2 ≤ w * m ∨ m < 2 := by
    rcases Nat.lt_or_ge m 2 with h | h
    · exact .inr h
    · exact .inl (Nat.mul_le_mul_left _ h)
  by_cases h0 : m = 0
  · subst h0
    repeat (first | (refine W.RS (by kernel_rfl) ?_; conv => whnf) | (refine W.S ?_) | (refine W.ret ?_; conv => whnf) | (refine W.exit ?_; conv => whnf) | (refine W.condF rfl ?_) | (refine ⟨false, decide_eq_false (by omega), ?_⟩; conv => whnf) | (refine ⟨rfl, ?_⟩; conv => whnf))
    rw [show n = u by omega]
    rfl
  · by_cases h1 : r = 1
    · rw [h1, Nat.mul_one] at hww
      by_cases h2 : m = 1
      · have hq0 : q = 0 := by omega
        rw [hq0, Nat.mul_zero] at hww
        repeat (first | (refine W.RS (by kernel_rfl) ?_; conv => whnf) | (refine W.R (by kernel_rfl) ?_; conv => whnf) | (refine W.S ?_) | (refine W.block ?_) | (refine W.skip ?_; conv => whnf) | (refine W.condF rfl ?_) | (refine W.condT rfl ?_) | (refine ⟨by omega, _, hm2, ?_⟩; conv => whnf) | (refine ⟨_, c1, ?_⟩; conv => whnf) | (refine ⟨by omega, _, hq2, ?_⟩; conv => whnf) | (refine ⟨true, decide_eq_true (by omega), ?_⟩; conv => whnf) | (refine ⟨false, decide_eq_false (by omega), ?_⟩; conv => whnf) | (refine ⟨rfl, ?_⟩; conv => whnf))
        exact ⟨⟨(u + w, w, q), by dsimp only; rw [hq0, Nat.mul_zero]; omega, hw, by dsimp only; omega⟩, Wk.tab [] ⟨⟨rfl, rfl⟩, ⟨rfl, rfl⟩, ⟨rfl, rfl⟩, ⟨rfl, rfl⟩, trivial⟩ ⟨rfl, rfl, rfl, trivial⟩ rfl, by dsimp only; omega⟩
      · repeat (first | (refine W.RS (by kernel_rfl) ?_; conv => whnf) | (refine W.R (by kernel_rfl) ?_; conv => whnf) | (refine W.S ?_) | (refine W.block ?_) | (refine W.skip ?_; conv => whnf) | (refine W.condT rfl ?_) | (refine ⟨by omega, _, hm2, ?_⟩; conv => whnf) | (refine ⟨_, c1, ?_⟩; conv => whnf) | (refine ⟨_, c2, ?_⟩; conv => whnf) | (refine ⟨by omega, _, hq2, ?_⟩; conv => whnf) | (refine ⟨true, decide_eq_true (by omega), ?_⟩; conv => whnf) | (refine ⟨rfl, ?_⟩; conv => whnf))
        exact ⟨⟨(u + w, w + w, q), by dsimp only; omega, by dsimp only; omega, by dsimp only; omega⟩, Wk.tab [] ⟨⟨rfl, rfl⟩, ⟨rfl, rfl⟩, ⟨rfl, rfl⟩, ⟨rfl, rfl⟩, trivial⟩ ⟨rfl, rfl, rfl, trivial⟩ rfl, by dsimp only; omega⟩
    · have hr0 : r = 0 := by omega
      rw [hr0, Nat.mul_zero] at hww
      repeat (first | (refine W.RS (by kernel_rfl) ?_; conv => whnf) | (refine W.R (by kernel_rfl) ?_; conv => whnf) | (refine W.S ?_) | (refine W.block ?_) | (refine W.skip ?_; conv => whnf) | (refine W.condF rfl ?_) | (refine W.condT rfl ?_) | (refine ⟨by omega, _, hm2, ?_⟩; conv => whnf) | (refine ⟨_, c2, ?_⟩; conv => whnf) | (refine ⟨by omega, _, hq2, ?_⟩; conv => whnf) | (refine ⟨true, decide_eq_true (by omega), ?_⟩; conv => whnf) | (refine ⟨false, decide_eq_false (by omega), ?_⟩; conv => whnf) | (refine ⟨rfl, ?_⟩; conv => whnf))
      exact ⟨⟨(u, w + w, q), by dsimp only; omega, by dsimp only; omega, by dsimp only; omega⟩, Wk.tab [] ⟨⟨rfl, rfl⟩, ⟨rfl, rfl⟩, ⟨rfl, rfl⟩, ⟨rfl, rfl⟩, trivial⟩ ⟨rfl, rfl, rfl, trivial⟩ rfl, by dsimp only; omega⟩
end Go.Proofs.Fl
namespace Go.Proofs.Fl
open Go.RowKit Go.Proofs.Dig
attribute [local irreducible] IntKind.wrap PureC MutC MakC IterC
theorem f163_mag (J : Keep) (n : Nat) : C J 60 [mag n] (.bool (decide (n = 0))) := by
  have h := f163_ok J ((dg n).map u32)
  have e : ((((dg n).map u32).length : Int) == 0) = decide (n = 0) := by
    rw [Bool.eq_iff_iff]
    simp only [List.length_map, beq_iff_eq, decide_eq_true_eq]
    constructor
    · intro h0; exact ln_zero (a := n) (by unfold ln; omega)
    · rintro rfl; rw [dg_zero]; rfl
  rw [e] at h
  exact h
noncomputable abbrev sg (m : Bool) (n : Nat) : IV := .agg [.sl ((dg n).map u32), .bool m]
def sv (m : Bool) (n : Nat) : Int := if m then -(n : Int) else (n : Int)
noncomputable abbrev zd (z : Int) : IV := sg (decide (z < 0)) z.natAbs
theorem sv_neg (z : Int) : sv (decide (z < 0)) z.natAbs = z := by
  unfold sv
  by_cases h : z < 0
  · simp [h]; omega
  · simp [h]; omega
theorem zd_sv {m : Bool} {n : Nat} (h : m = true → n ≠ 0) : zd (sv m n) = sg m n := by
  unfold sv
  cases m with
  | true =>
    have := h rfl
    simp only [if_true]
    have e1 : decide (-(n : Int) < 0) = true := decide_eq_true (by omega)
    have e2 : (-(n : Int)).natAbs = n := by omega
    rw [zd, e1, e2]
  | false =>
    simp only [Bool.false_eq_true, if_false]
    have e1 : decide ((n : Int) < 0) = false := decide_eq_false (by omega)
    rw [zd, e1, Int.natAbs_natCast]
theorem zd_neg_zero : zd (sv true 0) = sg false 0 := by
  have : sv true 0 = sv false 0 := by simp [sv]
  rw [this]; exact zd_sv (by simp)
theorem f130_ok (J : Keep) (m : Bool) (n : Nat) : C J 45 [.bool m, mag n] (zd (sv m n)) := by
  refine fn_ok Tryz.func45 rfl rfl rfl ?_
  have hz := f163_mag J n
  cases m with
  | false =>
    rw [zd_sv (by simp)]
    repeat (first | (refine W.RS (by kernel_rfl) ?_; conv => whnf) | (refine W.ret ?_; conv => whnf) | (refine ⟨rfl, ?_⟩; conv => whnf) | (refine ⟨_, fun h => absurd h Bool.false_ne_true, fun _ => rfl, ?_⟩; conv => whnf))
    rfl
  | true =>
    by_cases h0 : n = 0
    · subst h0
      rw [zd_neg_zero]
      repeat (first | (refine W.RS (by kernel_rfl) ?_; conv => whnf) | (refine W.ret ?_; conv => whnf) | (refine ⟨_, hz, ?_⟩; conv => whnf) | (refine ⟨_, rfl, ?_⟩; conv => whnf) | (refine ⟨rfl, ?_⟩; conv => whnf) | (refine ⟨_, fun _ => rfl, fun h => absurd h.symm Bool.false_ne_true, ?_⟩; conv => whnf))
      rfl
    · rw [decide_eq_false h0] at hz
      rw [zd_sv (fun _ => h0)]
      repeat (first | (refine W.RS (by kernel_rfl) ?_; conv => whnf) | (refine W.ret ?_; conv => whnf) | (refine ⟨_, hz, ?_⟩; conv => whnf) | (refine ⟨_, rfl, ?_⟩; conv => whnf) | (refine ⟨rfl, ?_⟩; conv => whnf) | (refine ⟨_, fun _ => rfl, fun h => absurd h.symm Bool.false_ne_true, ?_⟩; conv => whnf))
      rfl
theorem f149_ok (J : Keep) (z : Int) : C J 35 [zd z] (.int .i64 (cmpI z 0)) := by
  refine fn_ok Tryz.func35 rfl rfl rfl ?_
  have hz := f163_mag J z.natAbs
  by_cases h0 : z = 0
  · subst h0
    repeat (first | (refine W.RS (by kernel_rfl) ?_; conv => whnf) | (refine W.S ?_) | (refine W.block ?_) | (refine W.ret ?_; conv => whnf) | (refine W.condT rfl ?_) | (refine ⟨_, hz, ?_⟩; conv => whnf))
    rfl
  · rw [decide_eq_false (show ¬ z.natAbs = 0 by omega)] at hz
    by_cases h1 : z < 0
    · rw [zd, decide_eq_true h1]
      repeat (first | (refine W.RS (by kernel_rfl) ?_; conv => whnf) | (refine W.S ?_) | (refine W.block ?_) | (refine W.ret ?_; conv => whnf) | (refine W.condF rfl ?_) | (refine W.condT rfl ?_) | (refine ⟨_, hz, ?_⟩; conv => whnf))
      simp [oneOf, cmpI, h1]
    · rw [zd, decide_eq_false h1]
      repeat (first | (refine W.RS (by kernel_rfl) ?_; conv => whnf) | (refine W.S ?_) | (refine W.block ?_) | (refine W.ret ?_; conv => whnf) | (refine W.skip ?_; conv => whnf) | (refine W.condF rfl ?_) | (refine ⟨_, hz, ?_⟩; conv => whnf))
      simp [oneOf, cmpI, h1]; omega
theorem f171_ok (J : Keep) {m m' : Bool} {n n' : Nat} (h : ln n + ln n' < 2 ^ 44) : C J 58 [sg m n, sg m' n'] (zd (sv m n * sv m' n')) := by
  refine fn_ok Tryz.func58 rfl rfl rfl ?_
  have hm := f136_ok J h
  cases m <;> cases m'
  · have e : sv false n * sv false n' = sv false (n * n') := by simp [sv]
    rw [e]
    repeat (first | (refine W.RS (by kernel_rfl) ?_; conv => whnf) | (refine W.ret ?_; conv => whnf) | (refine ⟨_, hm, ?_⟩; conv => whnf) | (refine ⟨_, f130_ok J _ _, ?_⟩; conv => whnf) | (refine ⟨_, rfl, ?_⟩; conv => whnf) | (refine ⟨rfl, ?_⟩; conv => whnf))
    rfl
  · have e : sv false n * sv true n' = sv true (n * n') := by simp [sv, Int.mul_neg]
    rw [e]
    repeat (first | (refine W.RS (by kernel_rfl) ?_; conv => whnf) | (refine W.ret ?_; conv => whnf) | (refine ⟨_, hm, ?_⟩; conv => whnf) | (refine ⟨_, f130_ok J _ _, ?_⟩; conv => whnf) | (refine ⟨_, rfl, ?_⟩; conv => whnf) | (refine ⟨rfl, ?_⟩; conv => whnf))
    rfl
  · have e : sv true n * sv false n' = sv true (n * n') := by simp [sv, Int.neg_mul]
    rw [e]
    repeat (first | (refine W.RS (by kernel_rfl) ?_; conv => whnf) | (refine W.ret ?_; conv => whnf) | (refine ⟨_, hm, ?_⟩; conv => whnf) | (refine ⟨_, f130_ok J _ _, ?_⟩; conv => whnf) | (refine ⟨_, rfl, ?_⟩; conv => whnf) | (refine ⟨rfl, ?_⟩; conv => whnf))
    rfl
  · have e : sv true n * sv true n' = sv false (n * n') := by simp [sv, Int.neg_mul_neg]
    rw [e]
    repeat (first | (refine W.RS (by kernel_rfl) ?_; conv => whnf) | (refine W.ret ?_; conv => whnf) | (refine ⟨_, hm, ?_⟩; conv => whnf) | (refine ⟨_, f130_ok J _ _, ?_⟩; conv => whnf) | (refine ⟨_, rfl, ?_⟩; conv => whnf) | (refine ⟨rfl, ?_⟩; conv => whnf))
    rfl
end Go.Proofs.Fl
namespace Go.Proofs.Fl
open Go.RowKit Go.Proofs.Dig
attribute [local irreducible] IntKind.wrap PureC MutC MakC IterC
theorem f133_mag (J : Keep) {a b : Nat} (h : ln a < 2 ^ 60) : C J 19 [mag a, mag b] (.int .i64 (cmpI a b)) := by
  have := f133_ok J (dg_ok a) (dg_ok b) h
  rwa [cmpL_dg] at this
theorem f172_ok (J : Keep) {m m' : Bool} {n n' : Nat} (h : ln n < 2 ^ 44) (h' : ln n' < 2 ^ 44) : C J 114 [sg m n, sg m' n'] (zd (sv m n + sv m' n')) := by
  refine fn_ok Tryz.func114 rfl rfl rfl ?_
  have hp := f205_ok J h h'
  have hc := f133_mag J (a := n) (b := n') (by omega)
  cases m <;> cases m'
  · have e : sv false n + sv false n' = sv false (n + n') := by simp [sv]
    rw [e]
    repeat (first | (refine W.RS (by kernel_rfl) ?_; conv => whnf) | (refine W.S ?_) | (refine W.block ?_) | (refine W.ret ?_; conv => whnf) | (refine W.condT rfl ?_) | (refine ⟨_, hp, ?_⟩; conv => whnf) | (refine ⟨_, f130_ok J _ _, ?_⟩; conv => whnf) | (refine ⟨_, rfl, ?_⟩; conv => whnf) | (refine ⟨rfl, ?_⟩; conv => whnf))
    rfl
  · by_cases hlt : n < n'
    · have e : sv false n + sv true n' = sv true (n' - n) := by simp [sv]; omega
      rw [e]
      rw [cmpI_lt hlt] at hc
      have hl := f173_ok J (Nat.le_of_lt hlt) h'
      repeat (first | (refine W.RS (by kernel_rfl) ?_; conv => whnf) | (refine W.S ?_) | (refine W.block ?_) | (refine W.ret ?_; conv => whnf) | (refine W.condF rfl ?_) | (refine W.condT rfl ?_) | (refine ⟨_, hc, ?_⟩; conv => whnf) | (refine ⟨_, hl, ?_⟩; conv => whnf) | (refine ⟨_, f130_ok J _ _, ?_⟩; conv => whnf) | (refine ⟨true, decide_eq_true (by omega), ?_⟩; conv => whnf) | (refine ⟨_, rfl, ?_⟩; conv => whnf) | (refine ⟨rfl, ?_⟩; conv => whnf))
      rfl
    · have e : sv false n + sv true n' = sv false (n - n') := by simp [sv]; omega
      rw [e]
      have hge := cmpI_ge (Nat.not_lt.1 hlt)
      have hl := f173_ok J (Nat.not_lt.1 hlt) h
      repeat (first | (refine W.RS (by kernel_rfl) ?_; conv => whnf) | (refine W.S ?_) | (refine W.block ?_) | (refine W.ret ?_; conv => whnf) | (refine W.skip ?_; conv => whnf) | (refine W.condF rfl ?_) | (refine ⟨_, hc, ?_⟩; conv => whnf) | (refine ⟨_, hl, ?_⟩; conv => whnf) | (refine ⟨_, f130_ok J _ _, ?_⟩; conv => whnf) | (refine ⟨false, decide_eq_false (by omega), ?_⟩; conv => whnf) | (refine ⟨_, rfl, ?_⟩; conv => whnf) | (refine ⟨rfl, ?_⟩; conv => whnf))
      rfl
  · by_cases hlt : n < n'
    · have e : sv true n + sv false n' = sv false (n' - n) := by simp [sv]; omega
      rw [e]
      rw [cmpI_lt hlt] at hc
      have hl := f173_ok J (Nat.le_of_lt hlt) h'
      repeat (first | (refine W.RS (by kernel_rfl) ?_; conv => whnf) | (refine W.S ?_) | (refine W.block ?_) | (refine W.ret ?_; conv => whnf) | (refine W.condF rfl ?_) | (refine W.condT rfl ?_) | (refine ⟨_, hc, ?_⟩; conv => whnf) | (refine ⟨_, hl, ?_⟩; conv => whnf) | (refine ⟨_, f130_ok J _ _, ?_⟩; conv => whnf) | (refine ⟨true, decide_eq_true (by omega), ?_⟩; conv => whnf) | (refine ⟨_, rfl, ?_⟩; conv => whnf) | (refine ⟨rfl, ?_⟩; conv => whnf))
      rfl
    · have e : sv true n + sv false n' = sv true (n - n') := by simp [sv]; omega
      rw [e]
      have hge := cmpI_ge (Nat.not_lt.1 hlt)
      have hl := f173_ok J (Nat.not_lt.1 hlt) h
      repeat (first | (refine W.RS (by kernel_rfl) ?_; conv => whnf) | (refine W.S ?_) | (refine W.block ?_) | (refine W.ret ?_; conv => whnf) | (refine W.skip ?_; conv => whnf) | (refine W.condF rfl ?_) | (refine ⟨_, hc, ?_⟩; conv => whnf) | (refine ⟨_, hl, ?_⟩; conv => whnf) | (refine ⟨_, f130_ok J _ _, ?_⟩; conv => whnf) | (refine ⟨false, decide_eq_false (by omega), ?_⟩; conv => whnf) | (refine ⟨_, rfl, ?_⟩; conv => whnf) | (refine ⟨rfl, ?_⟩; conv => whnf))
      rfl
  · have e : sv true n + sv true n' = sv true (n + n') := by simp [sv]; omega
    rw [e]
    repeat (first | (refine W.RS (by kernel_rfl) ?_; conv => whnf) | (refine W.S ?_) | (refine W.block ?_) | (refine W.ret ?_; conv => whnf) | (refine W.condT rfl ?_) | (refine ⟨_, hp, ?_⟩; conv => whnf) | (refine ⟨_, f130_ok J _ _, ?_⟩; conv => whnf) | (refine ⟨_, rfl, ?_⟩; conv => whnf) | (refine ⟨rfl, ?_⟩; conv => whnf))
    rfl
theorem f178_ok (J : Keep) {m : Bool} {n d : Nat} (hd : 0 < d) (h : ln n < 2 ^ 40) : C J 164 [sg m n, mag d] (zd (sv m n / (d : Int))) := by
  refine fn_ok Tryz.func164 rfl rfl rfl ?_
  have ho := f186_ok J hd h
  have hz := f163_mag J (n % d)
  have hdm := Nat.div_add_mod n d
  have hml := Nat.mod_lt n hd
  have hlq : ln (n / d) < 2 ^ 44 := Nat.lt_of_le_of_lt (ln_mono (Nat.div_le_self _ _)) (by omega)
  have h1 : ln 1 < 2 ^ 44 := by rw [ln_one]; omega
  cases m with
  | false =>
    have e : sv false n / (d : Int) = sv false (n / d) := by simp [sv]
    rw [e]
    repeat (first | (refine W.RS (by kernel_rfl) ?_; conv => whnf) | (refine W.S ?_) | (refine W.ret ?_; conv => whnf) | (refine W.skip ?_; conv => whnf) | (refine W.condF rfl ?_) | (refine ⟨_, ho, ?_⟩; conv => whnf) | (refine ⟨_, f130_ok J _ _, ?_⟩; conv => whnf) | (refine ⟨_, fun h => absurd h Bool.false_ne_true, fun _ => rfl, ?_⟩; conv => whnf))
    rfl
  | true =>
    by_cases h0 : n % d = 0
    · rw [decide_eq_true h0] at hz
      have e : sv true n / (d : Int) = sv true (n / d) := by
        simp only [sv, if_true]
        rw [Int.neg_ediv_of_dvd (Int.natCast_dvd_natCast.2 (Nat.dvd_of_mod_eq_zero h0))]
        rfl
      rw [e]
      repeat (first | (refine W.RS (by kernel_rfl) ?_; conv => whnf) | (refine W.S ?_) | (refine W.ret ?_; conv => whnf) | (refine W.skip ?_; conv => whnf) | (refine W.condF rfl ?_) | (refine ⟨_, ho, ?_⟩; conv => whnf) | (refine ⟨_, hz, ?_⟩; conv => whnf) | (refine ⟨_, f130_ok J _ _, ?_⟩; conv => whnf) | (refine ⟨_, rfl, ?_⟩; conv => whnf) | (refine ⟨_, fun _ => rfl, fun h => absurd h.symm Bool.false_ne_true, ?_⟩; conv => whnf))
      rfl
    · rw [decide_eq_false h0] at hz
      have e : sv true n / (d : Int) = sv true (n / d + 1) := by
        simp only [sv, if_true]
        have e1 : (-(n : Int)) = (d : Int) * (-((n / d + 1 : Nat) : Int)) + ((d - n % d : Nat) : Int) := by
          have e2 : (n : Int) = (d : Int) * ((n / d : Nat) : Int) + ((n % d : Nat) : Int) := by
            have := congrArg (fun x : Nat => (x : Int)) hdm
            simpa [Int.natCast_add, Int.natCast_mul] using this.symm
          rw [Int.natCast_add, Int.neg_add, Int.mul_add, Int.mul_neg]
          have e3 : ((d - n % d : Nat) : Int) = (d : Int) - ((n % d : Nat) : Int) := by omega
          rw [e3]
          omega
        rw [e1, Int.add_comm, Int.add_mul_ediv_left _ _ (by omega), Int.ediv_eq_zero_of_lt (by omega) (by omega), Int.zero_add]
      rw [e]
      have hp := f205_ok J hlq h1
      repeat (first | (refine W.RS (by kernel_rfl) ?_; conv => whnf) | (refine W.R (by kernel_rfl) ?_; conv => whnf) | (refine W.S ?_) | (refine W.ret ?_; conv => whnf) | (refine W.condT rfl ?_) | (refine ⟨_, ho, ?_⟩; conv => whnf) | (refine ⟨_, hz, ?_⟩; conv => whnf) | (refine ⟨_, f134_ok J (n := 1) (by omega), ?_⟩; conv => whnf) | (refine ⟨_, hp, ?_⟩; conv => whnf) | (refine ⟨_, f130_ok J _ _, ?_⟩; conv => whnf) | (refine ⟨_, rfl, ?_⟩; conv => whnf) | (refine ⟨rfl, ?_⟩; conv => whnf) | (refine ⟨_, fun _ => rfl, fun h => absurd h.symm Bool.false_ne_true, ?_⟩; conv => whnf))
      rfl
noncomputable abbrev qd (z : Int) (d : Nat) : IV := .agg [.sl ((dg z.natAbs).map u32), .bool (decide (z < 0)), .sl ((dg (d - 1)).map u32)]
theorem f164_ok (J : Keep) {x y : IV} {d : Nat} (hd : 0 < d) (h : ln (d - 1) < 2 ^ 44) : C J 18 [.agg [x, y, .sl ((dg (d - 1)).map u32)]] (mag d) := by
  refine fn_ok Tryz.func18 rfl rfl rfl ?_
  have h1 : ln 1 < 2 ^ 44 := by rw [ln_one]; omega
  have hp := f205_ok J h h1
  rw [show d - 1 + 1 = d by omega] at hp
  repeat (first | (refine W.RS (by kernel_rfl) ?_; conv => whnf) | (refine W.ret ?_; conv => whnf) | (refine ⟨_, f134_ok J (n := 1) (by omega), ?_⟩; conv => whnf) | (refine ⟨_, hp, ?_⟩; conv => whnf) | (refine ⟨rfl, ?_⟩; conv => whnf))
  rfl
end Go.Proofs.Fl
namespace Go.Proofs.Fl
open Go.RowKit Go.Proofs.Dig
attribute [local irreducible] IntKind.wrap PureC MutC MakC IterC
structure Base (J : Keep) : Prop where
  word : ∀ n, ln n ≤ 2 → C J 118 [mag n] (.int .u64 n)
noncomputable abbrev qr (q : Rat) : IV := qd q.num q.den
theorem mkRat_num {z : Int} {d : Nat} (hd : 0 < d) : (mkRat z d).num = sv (decide (z < 0)) (z.natAbs / Nat.gcd z.natAbs d) := by
  have h0 : ¬ d = 0 := by omega
  rw [mkRat, dif_neg h0, Rat.normalize_eq]
  show z / ((Nat.gcd z.natAbs d : Nat) : Int) = _
  have hg : Nat.gcd z.natAbs d ∣ z.natAbs := Nat.gcd_dvd_left _ _
  generalize Nat.gcd z.natAbs d = g at hg
  unfold sv
  by_cases hz : z < 0
  · obtain ⟨n, rfl⟩ : ∃ n : Nat, z = -(n : Int) := ⟨z.natAbs, by omega⟩
    have e : (-(n : Int)).natAbs = n := by omega
    rw [e] at hg ⊢
    rw [decide_eq_true hz, if_pos rfl, Int.neg_ediv_of_dvd (Int.natCast_dvd_natCast.2 hg)]
    rfl
  · obtain ⟨n, rfl⟩ : ∃ n : Nat, z = (n : Int) := ⟨z.natAbs, by omega⟩
    rw [decide_eq_false hz, Int.natAbs_natCast]
    rfl
theorem mkRat_den {z : Int} {d : Nat} (hd : 0 < d) : (mkRat z d).den = d / Nat.gcd z.natAbs d := by
  have h0 : ¬ d = 0 := by omega
  rw [mkRat, dif_neg h0, Rat.normalize_eq]
theorem f129_ok {J : Keep} (B : Base J) {z : Int} {d : Nat} (hd : 0 < d) (hz : ln z.natAbs < 2 ^ 40) (hl : ln d < 2 ^ 40) : C J 57 [zd z, mag d] (qr (mkRat z d)) := by
  refine fn_ok Tryz.func57 rfl rfl rfl ?_
  obtain ⟨g, hg⟩ : ∃ g, Nat.gcd z.natAbs d = g := ⟨_, rfl⟩
  have hg0 : 0 < g := by rw [← hg]; exact Nat.gcd_pos_of_pos_right _ hd
  have hgd : g ∣ d := by rw [← hg]; exact Nat.gcd_dvd_right _ _
  have hgn : g ≤ d := Nat.le_of_dvd hd hgd
  have hdg : 1 ≤ d / g := (Nat.one_le_div_iff hg0).2 hgn
  have c1 := f184_ok J B.word hz hl
  rw [hg] at c1
  have c2 := f185_ok J g
  have hnum := mkRat_num (z := z) hd
  have hden := mkRat_den (z := z) hd
  rw [hg] at hnum hden
  have c5 : C J 45 [.bool (decide (z < 0)), mag (z.natAbs / g)] (zd (mkRat z d).num) := by rw [hnum]; exact f130_ok J _ _
  have c6 : C J 85 [mag (d / g), mag 1] (mag ((mkRat z d).den - 1)) := by
    rw [hden]; exact f173_ok J hdg (Nat.lt_of_le_of_lt (ln_mono (Nat.div_le_self _ _)) (by omega))
  by_cases h1 : g = 1
  · rw [decide_eq_true h1] at c2
    rw [h1, Nat.div_one] at c5 c6
    rw [h1] at c1 c2
    repeat (first | (refine W.RS (by kernel_rfl) ?_; conv => whnf) | (refine W.S ?_) | (refine W.ret ?_; conv => whnf) | (refine W.skip ?_; conv => whnf) | (refine W.condF rfl ?_) | (refine ⟨_, c1, ?_⟩; conv => whnf) | (refine ⟨_, c2, ?_⟩; conv => whnf) | (refine ⟨_, c5, ?_⟩; conv => whnf) | (refine ⟨_, f134_ok J (n := 1) (by omega), ?_⟩; conv => whnf) | (refine ⟨_, c6, ?_⟩; conv => whnf) | (refine ⟨_, rfl, ?_⟩; conv => whnf) | (refine ⟨rfl, ?_⟩; conv => whnf))
    rfl
  · rw [decide_eq_false h1] at c2
    have c3 := f186_ok J (a := z.natAbs) hg0 hz
    have c4 := f186_ok J (a := d) hg0 hl
    repeat (first | (refine W.RS (by kernel_rfl) ?_; conv => whnf) | (refine W.R (by kernel_rfl) ?_; conv => whnf) | (refine W.S ?_) | (refine W.ret ?_; conv => whnf) | (refine W.condT rfl ?_) | (refine ⟨_, c1, ?_⟩; conv => whnf) | (refine ⟨_, c2, ?_⟩; conv => whnf) | (refine ⟨_, c3, ?_⟩; conv => whnf) | (refine ⟨_, c4, ?_⟩; conv => whnf) | (refine ⟨_, c5, ?_⟩; conv => whnf) | (refine ⟨_, f134_ok J (n := 1) (by omega), ?_⟩; conv => whnf) | (refine ⟨_, c6, ?_⟩; conv => whnf) | (refine ⟨_, rfl, ?_⟩; conv => whnf) | (refine ⟨rfl, ?_⟩; conv => whnf))
    rfl
end Go.Proofs.Fl
namespace Go.Proofs.Fl
open Go.RowKit Go.Proofs.Dig
attribute [local irreducible] IntKind.wrap PureC MutC MakC IterC
theorem f171_zd (J : Keep) {x y : Int} (h : ln x.natAbs + ln y.natAbs < 2 ^ 44) : C J 58 [zd x, zd y] (zd (x * y)) := by
  have := f171_ok J (m := decide (x < 0)) (m' := decide (y < 0)) h
  rwa [sv_neg, sv_neg] at this
theorem f171_zn (J : Keep) {x : Int} {n : Nat} (h : ln x.natAbs + ln n < 2 ^ 44) : C J 58 [zd x, sg false n] (zd (x * (n : Int))) := by
  have := f171_ok J (m := decide (x < 0)) (m' := false) h
  rwa [sv_neg] at this
theorem f172_zd (J : Keep) {x y : Int} (h : ln x.natAbs < 2 ^ 44) (h' : ln y.natAbs < 2 ^ 44) : C J 114 [zd x, zd y] (zd (x + y)) := by
  have := f172_ok J (m := decide (x < 0)) (m' := decide (y < 0)) h h'
  rwa [sv_neg, sv_neg] at this
theorem f178_zd (J : Keep) {x : Int} {d : Nat} (hd : 0 < d) (h : ln x.natAbs < 2 ^ 40) : C J 164 [zd x, mag d] (zd (x / (d : Int))) := by
  have := f178_ok J (m := decide (x < 0)) hd h
  rwa [sv_neg] at this
theorem ln_add_le (a b : Nat) : ln (a + b) ≤ ln a + ln b + 1 := ln_le (by
  have h1 := lt_ln a
  have h2 := lt_ln b
  have h3 : B9 ^ ln a ≤ B9 ^ (ln a + ln b) := Nat.pow_le_pow_right (by decide) (by omega)
  have h4 : B9 ^ ln b ≤ B9 ^ (ln a + ln b) := Nat.pow_le_pow_right (by decide) (by omega)
  have h5 : B9 ^ (ln a + ln b) * 2 ≤ B9 ^ (ln a + ln b) * B9 := Nat.mul_le_mul_left _ (by decide)
  rw [Nat.pow_succ]
  omega)
noncomputable def qln (q : Rat) : Nat := ln q.num.natAbs + ln q.den
theorem den_pos (q : Rat) : 0 < q.den := Nat.pos_of_ne_zero q.den_nz
theorem f164_q (J : Keep) {q : Rat} (h : qln q < 2 ^ 44) : C J 18 [qr q] (mag q.den) :=
  f164_ok J (den_pos q) (Nat.lt_of_le_of_lt (ln_mono (Nat.sub_le _ _)) (by unfold qln at h; omega))
theorem f22_ok (J : Keep) (q : Rat) : C J 16 [qr q] (.int .i64 (cmpI q.num 0)) := by
  refine fn_ok Tryz.func16 rfl rfl rfl ?_
  have h := f149_ok J q.num
  repeat (first | (refine W.RS (by kernel_rfl) ?_; conv => whnf) | (refine W.ret ?_; conv => whnf) | (refine ⟨_, h, ?_⟩; conv => whnf))
  rfl
theorem sv_not (z : Int) : sv (!decide (z < 0)) z.natAbs = -z := by
  unfold sv
  by_cases h : z < 0
  · simp [h]; omega
  · simp [h]; omega
theorem f66_ok (J : Keep) (q : Rat) : C J 81 [qr q] (qr (-q)) := by
  refine fn_ok Tryz.func81 rfl rfl rfl ?_
  have h : C J 45 [.bool (!decide (q.num < 0)), mag q.num.natAbs] (zd (-q).num) := by
    rw [Rat.neg_num, ← sv_not]; exact f130_ok J _ _
  repeat (first | (refine W.RS (by kernel_rfl) ?_; conv => whnf) | (refine W.ret ?_; conv => whnf) | (refine ⟨_, h, ?_⟩; conv => whnf) | (refine ⟨_, rfl, ?_⟩; conv => whnf) | (refine ⟨rfl, ?_⟩; conv => whnf))
  rfl
theorem f49_ok {J : Keep} (B : Base J) {a b : Rat} (ha : qln a < 2 ^ 38) (hb : qln b < 2 ^ 38) : C J 33 [qr a, qr b] (qr (a * b)) := by
  refine fn_ok Tryz.func33 rfl rfl rfl ?_
  unfold qln at ha hb
  have c1 := f171_zd J (x := a.num) (y := b.num) (by omega)
  have c2 := f164_q J (q := a) (by unfold qln; omega)
  have c3 := f164_q J (q := b) (by unfold qln; omega)
  have c4 := f136_ok J (a := a.den) (b := b.den) (by omega)
  have h1 := ln_mul_le a.num.natAbs b.num.natAbs
  have h2 := ln_mul_le a.den b.den
  have c5 := f129_ok B (z := a.num * b.num) (d := a.den * b.den) (Nat.mul_pos (den_pos a) (den_pos b)) (by rw [Int.natAbs_mul]; omega) (by omega)
  rw [← Rat.mul_def'] at c5
  repeat (first | (refine W.RS (by kernel_rfl) ?_; conv => whnf) | (refine W.ret ?_; conv => whnf) | (refine ⟨_, c1, ?_⟩; conv => whnf) | (refine ⟨_, c2, ?_⟩; conv => whnf) | (refine ⟨_, c3, ?_⟩; conv => whnf) | (refine ⟨_, c4, ?_⟩; conv => whnf) | (refine ⟨_, c5, ?_⟩; conv => whnf) | (refine ⟨rfl, ?_⟩; conv => whnf))
  rfl
theorem f48_ok {J : Keep} (B : Base J) {a b : Rat} (ha : qln a < 2 ^ 38) (hb : qln b < 2 ^ 38) : C J 75 [qr a, qr b] (qr (a + b)) := by
  refine fn_ok Tryz.func75 rfl rfl rfl ?_
  unfold qln at ha hb
  have c1 := f171_zn J (x := a.num) (n := b.den) (by omega)
  have c1' := f171_zn J (x := b.num) (n := a.den) (by omega)
  have c2 := f164_q J (q := a) (by unfold qln; omega)
  have c3 := f164_q J (q := b) (by unfold qln; omega)
  have c4 := f136_ok J (a := a.den) (b := b.den) (by omega)
  have h1 := ln_mul_le a.num.natAbs b.den
  have h1' := ln_mul_le b.num.natAbs a.den
  have h2 := ln_mul_le a.den b.den
  have e1 : (a.num * (b.den : Int)).natAbs = a.num.natAbs * b.den := by rw [Int.natAbs_mul, Int.natAbs_natCast]
  have e1' : (b.num * (a.den : Int)).natAbs = b.num.natAbs * a.den := by rw [Int.natAbs_mul, Int.natAbs_natCast]
  have c6 := f172_zd J (x := a.num * (b.den : Int)) (y := b.num * (a.den : Int)) (by rw [e1]; omega) (by rw [e1']; omega)
  have c5 := f129_ok B (z := a.num * (b.den : Int) + b.num * (a.den : Int)) (d := a.den * b.den) (Nat.mul_pos (den_pos a) (den_pos b)) (by
    have h3 := ln_add_le (a.num.natAbs * b.den) (b.num.natAbs * a.den)
    have h4 : (a.num * (b.den : Int) + b.num * (a.den : Int)).natAbs ≤ a.num.natAbs * b.den + b.num.natAbs * a.den := by
      rw [← e1, ← e1']; exact Int.natAbs_add_le _ _
    have h5 := ln_mono h4
    omega) (by omega)
  rw [← Rat.add_def'] at c5
  repeat (first | (refine W.RS (by kernel_rfl) ?_; conv => whnf) | (refine W.ret ?_; conv => whnf) | (refine ⟨_, c1, ?_⟩; conv => whnf) | (refine ⟨_, c1', ?_⟩; conv => whnf) | (refine ⟨_, c2, ?_⟩; conv => whnf) | (refine ⟨_, c3, ?_⟩; conv => whnf) | (refine ⟨_, c4, ?_⟩; conv => whnf) | (refine ⟨_, c6, ?_⟩; conv => whnf) | (refine ⟨_, c5, ?_⟩; conv => whnf) | (refine ⟨rfl, ?_⟩; conv => whnf))
  rfl
end Go.Proofs.Fl
namespace Go.Proofs.Fl
theorem wrapU (a : Int) : Go.IntKind.wrap .u64 a = a % 18446744073709551616 := by
  show (let m := a % (18446744073709551616 : Int); if false && decide (m ≥ (9223372036854775808 : Int)) then m - (18446744073709551616 : Int) else m) = _
  simp
open Go.RowKit Go.Proofs.Dig
attribute [local irreducible] IntKind.wrap PureC MutC MakC IterC
theorem qln_neg (q : Rat) : qln (-q) = qln q := by
  unfold qln
  rw [Rat.neg_num, Int.natAbs_neg, Rat.neg_den]
theorem f50_ok {J : Keep} (B : Base J) {a b : Rat} (ha : qln a < 2 ^ 38) (hb : qln b < 2 ^ 38) : C J 56 [qr a, qr b] (qr (a - b)) := by
  refine fn_ok Tryz.func56 rfl rfl rfl ?_
  have c1 := f66_ok J b
  have c2 := f48_ok B ha (b := -b) (by rw [qln_neg]; exact hb)
  rw [← Rat.sub_eq_add_neg] at c2
  repeat (first | (refine W.RS (by kernel_rfl) ?_; conv => whnf) | (refine W.ret ?_; conv => whnf) | (refine ⟨_, c1, ?_⟩; conv => whnf) | (refine ⟨_, c2, ?_⟩; conv => whnf) | (refine ⟨rfl, ?_⟩; conv => whnf))
  rfl
theorem f152_ok {J : Keep} (B : Base J) {a b : Rat} (hb0 : b ≠ 0) (ha : qln a < 2 ^ 38) (hb : qln b < 2 ^ 38) : C J 86 [qr a, qr b] (qr (a / b)) := by
  refine fn_ok Tryz.func86 rfl rfl rfl ?_
  unfold qln at ha hb
  have hn0 : b.num ≠ 0 := fun e => hb0 (Rat.num_eq_zero.1 e)
  have hn1 : 0 < b.num.natAbs := by omega
  have c0 := f130_ok J (decide (b.num < 0)) b.den
  have hsv : sv (decide (b.num < 0)) b.den = b.num.sign * (b.den : Int) := by
    unfold sv
    by_cases h : b.num < 0
    · rw [decide_eq_true h, Int.sign_eq_neg_one_of_neg h]; simp
    · rw [decide_eq_false h, Int.sign_eq_one_of_pos (by omega)]; simp
  rw [hsv] at c0
  have hna : (b.num.sign * (b.den : Int)).natAbs = b.den := by
    rw [← hsv]; unfold sv; split <;> simp
  have c1 := f171_zd J (x := a.num) (y := b.num.sign * (b.den : Int)) (by rw [hna]; omega)
  have c2 := f164_q J (q := a) (by unfold qln; omega)
  have c3 := f164_q J (q := b) (by unfold qln; omega)
  have c4 := f136_ok J (a := a.den) (b := b.num.natAbs) (by omega)
  have h1 := ln_mul_le a.num.natAbs b.den
  have h2 := ln_mul_le a.den b.num.natAbs
  have c5 := f129_ok B (z := a.num * (b.num.sign * (b.den : Int))) (d := a.den * b.num.natAbs) (Nat.mul_pos (den_pos a) hn1) (by rw [Int.natAbs_mul, hna]; omega) (by omega)
  have e : mkRat (a.num * (b.num.sign * (b.den : Int))) (a.den * b.num.natAbs) = a / b := by
    have hi : b⁻¹.num = b.num.sign * (b.den : Int) ∧ b⁻¹.den = b.num.natAbs := by
      show (Rat.inv b).num = _ ∧ (Rat.inv b).den = _
      unfold Rat.inv
      split
      · rename_i h; rw [Int.sign_eq_neg_one_of_neg h]; simp
      · split
        · rename_i h; rw [Int.sign_eq_one_of_pos h]; simp
        · omega
    rw [Rat.div_def, ← hi.1, ← hi.2, Rat.mul_def']
  rw [e] at c5
  repeat (first | (refine W.RS (by kernel_rfl) ?_; conv => whnf) | (refine W.ret ?_; conv => whnf) | (refine ⟨_, c0, ?_⟩; conv => whnf) | (refine ⟨_, c1, ?_⟩; conv => whnf) | (refine ⟨_, c2, ?_⟩; conv => whnf) | (refine ⟨_, c3, ?_⟩; conv => whnf) | (refine ⟨_, c4, ?_⟩; conv => whnf) | (refine ⟨_, c5, ?_⟩; conv => whnf) | (refine ⟨rfl, ?_⟩; conv => whnf))
  rfl
theorem f52_ok {J : Keep} (B : Base J) {a b : Rat} (ha : qln a < 2 ^ 38) (hb : qln b < 2 ^ 38) (hb0 : b ≠ 0) : C J 59 [qr a, qr b] (.tup [qr (a / b), .int .i64 0]) := by
  refine fn_ok Tryz.func59 rfl rfl rfl ?_
  have c1 := f22_ok J b
  have hn0 : b.num ≠ 0 := fun e => hb0 (Rat.num_eq_zero.1 e)
  have hc : cmpI b.num 0 ≠ 0 := fun e => hn0 (cmpI_zero e)
  have c2 := f152_ok B hb0 ha hb
  repeat (first | (refine W.RS (by kernel_rfl) ?_; conv => whnf) | (refine W.S ?_) | (refine W.ret ?_; conv => whnf) | (refine W.skip ?_; conv => whnf) | (refine W.condF rfl ?_) | (refine ⟨_, c1, ?_⟩; conv => whnf) | (refine ⟨_, c2, ?_⟩; conv => whnf) | (refine ⟨false, decide_eq_false (by omega), ?_⟩; conv => whnf) | (refine ⟨rfl, ?_⟩; conv => whnf))
  rfl
theorem dg_zero_qr : qr 0 = .agg [.sl [], .bool false, .sl []] := by
  show IV.agg [.sl ((dg 0).map u32), .bool (decide ((0 : Int) < 0)), .sl ((dg 0).map u32)] = _
  rw [dg_zero]; rfl
theorem f155_ok (J : Keep) (z : Int) : C J 23 [zd z] (qr (z : Rat)) := by
  refine fn_ok Tryz.func23 rfl rfl rfl ?_
  repeat (first | (refine W.RS (by kernel_rfl) ?_; conv => whnf) | (refine W.ret ?_; conv => whnf))
  show IV.agg [.sl ((dg z.natAbs).map u32), .bool (decide (z < 0)), .sl []] = IV.agg [.sl ((dg z.natAbs).map u32), .bool (decide (z < 0)), .sl ((dg 0).map u32)]
  rw [dg_zero]; rfl
theorem f169_ok (J : Keep) {n : Int} (h1 : -9223372036854775808 ≤ n) (h2 : n ≤ 9223372036854775807) : C J 24 [.int .i64 n] (zd n) := by
  refine fn_ok Tryz.func24 rfl rfl rfl ?_
  by_cases h : n < 0
  · have hw : IntKind.wrap .u64 (0 - IntKind.wrap .u64 n) = ((n.natAbs : Nat) : Int) := by
      rw [wrapU, wrapU]; omega
    have c1 := f134_ok J (n := n.natAbs) (by omega)
    have c2 := f130_ok J true n.natAbs
    rw [show sv true n.natAbs = n by simp [sv]; omega] at c2
    repeat (first | (refine W.RS (by kernel_rfl) ?_; conv => whnf) | (refine W.S ?_) | (refine W.ret ?_; conv => whnf) | (refine W.condT rfl ?_) | (refine ⟨_, hw, ?_⟩; conv => whnf) | (refine ⟨_, c1, ?_⟩; conv => whnf) | (refine ⟨_, c2, ?_⟩; conv => whnf) | (refine ⟨true, decide_eq_true (by omega), ?_⟩; conv => whnf) | (refine ⟨_, rfl, ?_⟩; conv => whnf) | (refine ⟨rfl, ?_⟩; conv => whnf))
    rfl
  · have c1 := f134_ok J (n := n.natAbs) (by omega)
    have c2 := f130_ok J false n.natAbs
    rw [show sv false n.natAbs = n by simp [sv]; omega] at c2
    have hw : IntKind.wrap .u64 n = ((n.natAbs : Nat) : Int) := by rw [wu64 (by omega)]; omega
    repeat (first | (refine W.RS (by kernel_rfl) ?_; conv => whnf) | (refine W.S ?_) | (refine W.ret ?_; conv => whnf) | (refine W.skip ?_; conv => whnf) | (refine W.condF rfl ?_) | (refine ⟨_, hw, ?_⟩; conv => whnf) | (refine ⟨_, c1, ?_⟩; conv => whnf) | (refine ⟨_, c2, ?_⟩; conv => whnf) | (refine ⟨false, decide_eq_false (by omega), ?_⟩; conv => whnf) | (refine ⟨rfl, ?_⟩; conv => whnf))
    rfl
theorem f61_ok (J : Keep) {n : Int} (h1 : -9223372036854775808 ≤ n) (h2 : n ≤ 9223372036854775807) : C J 9 [.int .i64 n] (qr (n : Rat)) := by
  refine fn_ok Tryz.func9 rfl rfl rfl ?_
  have c1 := f169_ok J h1 h2
  have c2 := f155_ok J n
  repeat (first | (refine W.RS (by kernel_rfl) ?_; conv => whnf) | (refine W.ret ?_; conv => whnf) | (refine ⟨_, c1, ?_⟩; conv => whnf) | (refine ⟨_, c2, ?_⟩; conv => whnf))
  rfl
end Go.Proofs.Fl
namespace Go.Proofs.Fl
open Go.RowKit Go.Proofs.Dig
attribute [local irreducible] IntKind.wrap PureC MutC MakC IterC
theorem qln_int (z : Int) : qln (z : Rat) = ln z.natAbs + 1 := by
  show ln z.natAbs + ln 1 = _
  rw [ln_one]
theorem f86_ok {J : Keep} {q : Rat} (h : qln q < 2 ^ 40) : C J 135 [qr q] (qr (q.floor : Rat)) := by
  refine fn_ok Tryz.func135 rfl rfl rfl ?_
  have c1 := f164_q J (q := q) (by omega)
  have c2 := f178_zd J (x := q.num) (d := q.den) (den_pos q) (by unfold qln at h; omega)
  rw [show q.num / (q.den : Int) = q.floor by rw [Rat.floor_def]] at c2
  have c3 := f155_ok J q.floor
  repeat (first | (refine W.RS (by kernel_rfl) ?_; conv => whnf) | (refine W.ret ?_; conv => whnf) | (refine ⟨_, c1, ?_⟩; conv => whnf) | (refine ⟨_, c2, ?_⟩; conv => whnf) | (refine ⟨_, c3, ?_⟩; conv => whnf) | (refine ⟨rfl, ?_⟩; conv => whnf))
  rfl
theorem f54_ok (J : Keep) (q : Rat) : C J 66 [qr q] (qd (q.num.natAbs : Int) q.den) := by
  refine fn_ok Tryz.func66 rfl rfl rfl ?_
  have h : C J 45 [.bool false, mag q.num.natAbs] (zd (q.num.natAbs : Int)) := f130_ok J false _
  repeat (first | (refine W.RS (by kernel_rfl) ?_; conv => whnf) | (refine W.ret ?_; conv => whnf) | (refine ⟨_, h, ?_⟩; conv => whnf) | (refine ⟨rfl, ?_⟩; conv => whnf))
  rfl
end Go.Proofs.Fl
namespace Go.Proofs.Fl
open Go.RowKit Go.Proofs.Dig
attribute [local irreducible] IntKind.wrap PureC MutC MakC IterC
def cmpR (a b : Rat) : Int := cmpI (a.num * (b.den : Int)) (b.num * (a.den : Int))
theorem sgn3 (z : Int) : (z < 0 ∧ cmpI z 0 = -1) ∨ (z = 0 ∧ cmpI z 0 = 0) ∨ (0 < z ∧ cmpI z 0 = 1) := by
  unfold cmpI
  rcases Int.lt_trichotomy z 0 with h | h | h
  · left; exact ⟨h, by rw [if_pos h]⟩
  · right; left; exact ⟨h, by rw [if_neg (by omega), if_neg (by omega)]⟩
  · right; right; exact ⟨h, by rw [if_neg (by omega), if_pos h]⟩
theorem cmpI_of_lt {x y : Int} (h : x < y) : cmpI x y = -1 := by unfold cmpI; rw [if_pos h]
theorem cmpI_of_gt {x y : Int} (h : y < x) : cmpI x y = 1 := by unfold cmpI; rw [if_neg (by omega), if_pos h]
theorem cmpI_of_eq {x y : Int} (h : x = y) : cmpI x y = 0 := by unfold cmpI; rw [if_neg (by omega), if_neg (by omega)]
theorem f37_diff {J : Keep} {a b : Rat} {x y r : Int} (c1 : C J 16 [qr a] (.int .i64 x)) (c2 : C J 16 [qr b] (.int .i64 y)) (hx : -1 ≤ x ∧ x ≤ 1) (hy : -1 ≤ y ∧ y ≤ 1) (hxy : x ≠ y ∨ x = 0)
    (hw : IntKind.wrap .i64 ((x - y).tdiv 2) = r) (hr : -1 ≤ r ∧ r ≤ 1) : C J 7 [qr a, qr b] (.int .i64 (x - y - r)) := by
  refine fn_ok Tryz.func7 rfl rfl rfl ?_
  by_cases h : x ≠ y
  · repeat (first | (refine W.RS (by kernel_rfl) ?_; conv => whnf) | (refine W.S ?_) | (refine W.ret ?_; conv => whnf) | (refine W.condT rfl ?_) | (refine ⟨_, c1, ?_⟩; conv => whnf) | (refine ⟨_, c2, ?_⟩; conv => whnf) | (refine ⟨by omega, _, hw, ?_⟩; conv => whnf) | (refine ⟨rfl, _, w64 (by omega), ?_⟩; conv => whnf) | (refine ⟨true, bne_iff_ne.2 (by omega), ?_⟩; conv => whnf) | (refine ⟨rfl, ?_⟩; conv => whnf) | (refine ⟨_, fun _ => rfl, fun h => absurd h.symm Bool.false_ne_true, ?_⟩; conv => whnf))
    rfl
  · have h0 : x = 0 := by omega
    have h1 : y = 0 := by omega
    subst h0; subst h1
    repeat (first | (refine W.RS (by kernel_rfl) ?_; conv => whnf) | (refine W.S ?_) | (refine W.ret ?_; conv => whnf) | (refine W.condT rfl ?_) | (refine ⟨_, c1, ?_⟩; conv => whnf) | (refine ⟨_, c2, ?_⟩; conv => whnf) | (refine ⟨by omega, _, hw, ?_⟩; conv => whnf) | (refine ⟨rfl, _, w64 (by omega), ?_⟩; conv => whnf) | (refine ⟨true, decide_eq_true (by omega), ?_⟩; conv => whnf) | (refine ⟨false, bne_eq_false_iff_eq.2 (by omega), ?_⟩; conv => whnf) | (refine ⟨rfl, ?_⟩; conv => whnf) | (refine ⟨_, fun h => absurd h Bool.false_ne_true, fun _ => rfl, ?_⟩; conv => whnf))
    rfl
theorem f37_same {J : Keep} {a b : Rat} {x : Int} (c1 : C J 16 [qr a] (.int .i64 x)) (c2 : C J 16 [qr b] (.int .i64 x)) (hx : x = 1 ∨ x = -1) (ha : qln a < 2 ^ 38) (hb : qln b < 2 ^ 38) :
    C J 7 [qr a, qr b] (.int .i64 (x * cmpI ((a.num.natAbs * b.den : Nat) : Int) ((b.num.natAbs * a.den : Nat) : Int))) := by
  refine fn_ok Tryz.func7 rfl rfl rfl ?_
  have d1 := f164_q J (q := a) (by omega)
  have d2 := f164_q J (q := b) (by omega)
  unfold qln at ha hb
  have m1 := f136_ok J (a := a.num.natAbs) (b := b.den) (by omega)
  have m2 := f136_ok J (a := b.num.natAbs) (b := a.den) (by omega)
  have l1 := ln_mul_le a.num.natAbs b.den
  have c3 := f133_mag J (a := a.num.natAbs * b.den) (b := b.num.natAbs * a.den) (by omega)
  obtain ⟨k, hk⟩ : ∃ k, cmpI ((a.num.natAbs * b.den : Nat) : Int) ((b.num.natAbs * a.den : Nat) : Int) = k := ⟨_, rfl⟩
  have hk1 : -1 ≤ k ∧ k ≤ 1 := by rw [← hk]; unfold cmpI; split <;> (try split) <;> omega
  rw [hk] at c3 ⊢
  have hm : IntKind.wrap .i64 (x * k) = x * k := w64 (by rcases hx with rfl | rfl <;> omega)
  rcases hx with rfl | rfl
  · repeat (first | (refine W.RS (by kernel_rfl) ?_; conv => whnf) | (refine W.S ?_) | (refine W.ret ?_; conv => whnf) | (refine W.skip ?_; conv => whnf) | (refine W.condF rfl ?_) | (refine ⟨_, c1, ?_⟩; conv => whnf) | (refine ⟨_, c2, ?_⟩; conv => whnf) | (refine ⟨_, d1, ?_⟩; conv => whnf) | (refine ⟨_, d2, ?_⟩; conv => whnf) | (refine ⟨_, m1, ?_⟩; conv => whnf) | (refine ⟨_, m2, ?_⟩; conv => whnf) | (refine ⟨_, c3, ?_⟩; conv => whnf) | (refine ⟨rfl, _, w64 (by omega), ?_⟩; conv => whnf) | (refine ⟨false, decide_eq_false (by omega), ?_⟩; conv => whnf) | (refine ⟨false, bne_eq_false_iff_eq.2 (by omega), ?_⟩; conv => whnf) | (refine ⟨rfl, ?_⟩; conv => whnf) | (refine ⟨_, fun h => absurd h Bool.false_ne_true, fun _ => rfl, ?_⟩; conv => whnf))
    rfl
  · repeat (first | (refine W.RS (by kernel_rfl) ?_; conv => whnf) | (refine W.S ?_) | (refine W.ret ?_; conv => whnf) | (refine W.skip ?_; conv => whnf) | (refine W.condF rfl ?_) | (refine ⟨_, c1, ?_⟩; conv => whnf) | (refine ⟨_, c2, ?_⟩; conv => whnf) | (refine ⟨_, d1, ?_⟩; conv => whnf) | (refine ⟨_, d2, ?_⟩; conv => whnf) | (refine ⟨_, m1, ?_⟩; conv => whnf) | (refine ⟨_, m2, ?_⟩; conv => whnf) | (refine ⟨_, c3, ?_⟩; conv => whnf) | (refine ⟨rfl, _, w64 (by omega), ?_⟩; conv => whnf) | (refine ⟨false, decide_eq_false (by omega), ?_⟩; conv => whnf) | (refine ⟨false, bne_eq_false_iff_eq.2 (by omega), ?_⟩; conv => whnf) | (refine ⟨rfl, ?_⟩; conv => whnf) | (refine ⟨_, fun h => absurd h Bool.false_ne_true, fun _ => rfl, ?_⟩; conv => whnf))
    rfl
theorem f37_ok {J : Keep} {a b : Rat} (ha : qln a < 2 ^ 38) (hb : qln b < 2 ^ 38) : C J 7 [qr a, qr b] (.int .i64 (cmpR a b)) := by
  have c1 := f22_ok J a
  have c2 := f22_ok J b
  have da : (0 : Int) < (a.den : Int) := by have := den_pos a; omega
  have db : (0 : Int) < (b.den : Int) := by have := den_pos b; omega
  rcases sgn3 a.num with ⟨ha1, e1⟩ | ⟨ha1, e1⟩ | ⟨ha1, e1⟩ <;> rcases sgn3 b.num with ⟨hb1, e2⟩ | ⟨hb1, e2⟩ | ⟨hb1, e2⟩ <;> rw [e1] at c1 <;> rw [e2] at c2
  · have e : cmpR a b = (-1) * cmpI ((a.num.natAbs * b.den : Nat) : Int) ((b.num.natAbs * a.den : Nat) : Int) := by
      unfold cmpR
      have x1 : ((a.num.natAbs * b.den : Nat) : Int) = -(a.num * (b.den : Int)) := by
        rw [Int.natCast_mul, show ((a.num.natAbs : Nat) : Int) = -a.num by omega, Int.neg_mul]
      have x2 : ((b.num.natAbs * a.den : Nat) : Int) = -(b.num * (a.den : Int)) := by
        rw [Int.natCast_mul, show ((b.num.natAbs : Nat) : Int) = -b.num by omega, Int.neg_mul]
      rw [x1, x2]
      unfold cmpI
      split <;> (try split) <;> (try split) <;> (try split) <;> omega
    rw [e]
    exact f37_same c1 c2 (by omega) ha hb
  · have e : cmpR a b = (-1) - 0 - 0 := by
      unfold cmpR
      have p1 := Int.mul_neg_of_neg_of_pos ha1 db
      rw [hb1, Int.zero_mul]
      rw [cmpI_of_lt (by omega)]; rfl
    rw [e]
    exact f37_diff c1 c2 (by omega) (by omega) (by omega) (by kernel_rfl) (by omega)
  · have e : cmpR a b = (-1) - 1 - (-1) := by
      unfold cmpR
      have p1 := Int.mul_neg_of_neg_of_pos ha1 db
      have p2 := Int.mul_pos hb1 da
      rw [cmpI_of_lt (by omega)]; rfl
    rw [e]
    exact f37_diff c1 c2 (by omega) (by omega) (by omega) (by kernel_rfl) (by omega)
  · have e : cmpR a b = 0 - (-1) - 0 := by
      unfold cmpR
      rw [ha1, Int.zero_mul]
      have p2 := Int.mul_neg_of_neg_of_pos hb1 da
      rw [cmpI_of_gt (by omega)]; rfl
    rw [e]
    exact f37_diff c1 c2 (by omega) (by omega) (by omega) (by kernel_rfl) (by omega)
  · have e : cmpR a b = 0 - 0 - 0 := by
      unfold cmpR
      rw [ha1, Int.zero_mul]
      rw [hb1, Int.zero_mul]
      rw [cmpI_of_eq (by omega)]; rfl
    rw [e]
    exact f37_diff c1 c2 (by omega) (by omega) (by omega) (by kernel_rfl) (by omega)
  · have e : cmpR a b = 0 - 1 - 0 := by
      unfold cmpR
      rw [ha1, Int.zero_mul]
      have p2 := Int.mul_pos hb1 da
      rw [cmpI_of_lt (by omega)]; rfl
    rw [e]
    exact f37_diff c1 c2 (by omega) (by omega) (by omega) (by kernel_rfl) (by omega)
  · have e : cmpR a b = 1 - (-1) - 1 := by
      unfold cmpR
      have p1 := Int.mul_pos ha1 db
      have p2 := Int.mul_neg_of_neg_of_pos hb1 da
      rw [cmpI_of_gt (by omega)]; rfl
    rw [e]
    exact f37_diff c1 c2 (by omega) (by omega) (by omega) (by kernel_rfl) (by omega)
  · have e : cmpR a b = 1 - 0 - 0 := by
      unfold cmpR
      have p1 := Int.mul_pos ha1 db
      rw [hb1, Int.zero_mul]
      rw [cmpI_of_gt (by omega)]; rfl
    rw [e]
    exact f37_diff c1 c2 (by omega) (by omega) (by omega) (by kernel_rfl) (by omega)
  · have e : cmpR a b = 1 * cmpI ((a.num.natAbs * b.den : Nat) : Int) ((b.num.natAbs * a.den : Nat) : Int) := by
      unfold cmpR
      have x1 : ((a.num.natAbs * b.den : Nat) : Int) = (a.num * (b.den : Int)) := by
        rw [Int.natCast_mul, show ((a.num.natAbs : Nat) : Int) = a.num by omega]
      have x2 : ((b.num.natAbs * a.den : Nat) : Int) = (b.num * (a.den : Int)) := by
        rw [Int.natCast_mul, show ((b.num.natAbs : Nat) : Int) = b.num by omega]
      rw [x1, x2]
      unfold cmpI
      split <;> (try split) <;> (try split) <;> (try split) <;> omega
    rw [e]
    exact f37_same c1 c2 (by omega) ha hb
end Go.Proofs.Fl
namespace Go.Proofs.Fl
open Go.RowKit Go.Proofs.Dig
attribute [local irreducible] IntKind.wrap PureC MutC MakC IterC
def intoN (n : Int) (most : Nat) : Nat := (min n (most : Int)).toNat
theorem intoN_le (n : Int) (most : Nat) : intoN n most ≤ most := by unfold intoN; omega
theorem f154_ok (J : Keep) (n : Int) (most : Nat) : C J 158 [.int .i64 n, .int .i64 most] (.int .i64 (intoN n most : Nat)) := by
  refine fn_ok Tryz.func158 rfl rfl rfl ?_
  have e1 : (if (most : Int) < n then (most : Int) else n) = min n (most : Int) := by split <;> omega
  have e2 : (if min n (most : Int) > 0 then min n (most : Int) else 0) = ((intoN n most : Nat) : Int) := by unfold intoN; split <;> omega
  repeat (first | (refine W.RS (by kernel_rfl) ?_; conv => whnf) | (refine W.ret ?_; conv => whnf) | (refine ⟨_, e1, ?_⟩; conv => whnf) | (refine ⟨_, e2, ?_⟩; conv => whnf))
  rfl
theorem f170_ok (J : Keep) (k : Int) : C J 125 [.int .i64 k] (mag (2 ^ intoN k 256)) := by
  refine fn_ok Tryz.func125 rfl rfl rfl ?_
  have hk := intoN_le k 256
  have h2 : ln 2 ≤ 1 := ln_le (by decide)
  have c1 := f154_ok J k 256
  have c2 := f137_ok J (a := 2) (n := intoN k 256) (by omega) (by
    have : (intoN k 256 + 1) * ln 2 ≤ 257 * 1 := Nat.mul_le_mul (by omega) h2
    omega)
  repeat (first | (refine W.RS (by kernel_rfl) ?_; conv => whnf) | (refine W.ret ?_; conv => whnf) | (refine ⟨_, f134_ok J (n := 2) (by omega), ?_⟩; conv => whnf) | (refine ⟨_, c1, ?_⟩; conv => whnf) | (refine ⟨_, c2, ?_⟩; conv => whnf))
  rfl
theorem ln_two_pow (k : Int) : ln (2 ^ intoN k 256) ≤ 257 := by
  have h1 := ln_pow 2 (intoN k 256)
  have h2 : ln 2 ≤ 1 := ln_le (by decide)
  have h3 := intoN_le k 256
  have : intoN k 256 * ln 2 ≤ 256 * 1 := Nat.mul_le_mul h3 h2
  omega
theorem two_pow_pos (k : Int) : 0 < 2 ^ intoN k 256 := Nat.pow_pos (by decide)
theorem f46_ok {J : Keep} (B : Base J) (k : Int) : C J 91 [.int .i64 k] (qr (mkRat 1 (2 ^ intoN k 256))) := by
  refine fn_ok Tryz.func91 rfl rfl rfl ?_
  have c1 := f169_ok J (n := 1) (by omega) (by omega)
  have c2 := f170_ok J k
  have l1 := ln_two_pow k
  have c3 := f129_ok B (z := 1) (d := 2 ^ intoN k 256) (two_pow_pos k) (by have := ln_one; show ln 1 < _; omega) (by omega)
  repeat (first | (refine W.RS (by kernel_rfl) ?_; conv => whnf) | (refine W.ret ?_; conv => whnf) | (refine ⟨_, c1, ?_⟩; conv => whnf) | (refine ⟨_, c2, ?_⟩; conv => whnf) | (refine ⟨_, c3, ?_⟩; conv => whnf))
  rfl
theorem f167_ok {J : Keep} (B : Base J) {q : Rat} (h : qln q < 2 ^ 38) (k : Int) : C J 136 [qr q, .int .i64 k] (qr (q * (((2 ^ intoN k 256 : Nat) : Int) : Rat))) := by
  refine fn_ok Tryz.func136 rfl rfl rfl ?_
  have c2 := f170_ok J k
  have c3 : C J 23 [sg false (2 ^ intoN k 256)] (qr (((2 ^ intoN k 256 : Nat) : Int) : Rat)) := f155_ok J ((2 ^ intoN k 256 : Nat) : Int)
  have l1 := ln_two_pow k
  have c4 := f49_ok B h (b := (((2 ^ intoN k 256 : Nat) : Int) : Rat)) (by rw [qln_int, Int.natAbs_natCast]; omega)
  repeat (first | (refine W.RS (by kernel_rfl) ?_; conv => whnf) | (refine W.ret ?_; conv => whnf) | (refine ⟨_, c2, ?_⟩; conv => whnf) | (refine ⟨_, c3, ?_⟩; conv => whnf) | (refine ⟨_, c4, ?_⟩; conv => whnf) | (refine ⟨rfl, ?_⟩; conv => whnf))
  rfl
theorem f88_ok {J : Keep} {q : Rat} (h : qln q < 2 ^ 38) : C J 137 [qr q] (qr (-(((-q).floor : Int) : Rat))) := by
  refine fn_ok Tryz.func137 rfl rfl rfl ?_
  have c1 := f66_ok J q
  have c2 := f86_ok (J := J) (q := -q) (by rw [qln_neg]; omega)
  have c3 := f66_ok J (((-q).floor : Int) : Rat)
  repeat (first | (refine W.RS (by kernel_rfl) ?_; conv => whnf) | (refine W.ret ?_; conv => whnf) | (refine ⟨_, c1, ?_⟩; conv => whnf) | (refine ⟨_, c2, ?_⟩; conv => whnf) | (refine ⟨_, c3, ?_⟩; conv => whnf))
  rfl
noncomputable abbrev sd (a b : Rat) : IV := .agg [.sl ((dg a.num.natAbs).map u32), .bool (decide (a.num < 0)), .sl ((dg (a.den - 1)).map u32), .sl ((dg b.num.natAbs).map u32), .bool (decide (b.num < 0)), .sl ((dg (b.den - 1)).map u32)]
theorem f90_ok (J : Keep) (q : Rat) : C J 88 [qr q] (sd q q) := by
  refine fn_ok Tryz.func88 rfl rfl rfl ?_
  repeat (first | (refine W.RS (by kernel_rfl) ?_; conv => whnf) | (refine W.ret ?_; conv => whnf))
  rfl
end Go.Proofs.Fl
namespace Go.Proofs.Fl
open Go.RowKit Go.Proofs.Dig
attribute [local irreducible] IntKind.wrap PureC MutC MakC IterC
theorem qln_ratio {z : Int} {d : Nat} (hd : 0 < d) : qln (mkRat z d) ≤ ln z.natAbs + ln d := by
  unfold qln
  rw [mkRat_num hd, mkRat_den hd]
  have h1 : (sv (decide (z < 0)) (z.natAbs / Nat.gcd z.natAbs d)).natAbs ≤ z.natAbs := by
    have h2 := Nat.div_le_self z.natAbs (Nat.gcd z.natAbs d)
    generalize z.natAbs / Nat.gcd z.natAbs d = t at h2 ⊢
    unfold sv
    split <;> omega
  have h2 := ln_mono h1
  have h3 := ln_mono (Nat.div_le_self d (Nat.gcd z.natAbs d))
  omega
theorem qln_mul (a b : Rat) : qln (a * b) ≤ qln a + qln b := by
  rw [Rat.mul_def']
  have h := qln_ratio (z := a.num * b.num) (d := a.den * b.den) (Nat.mul_pos (den_pos a) (den_pos b))
  have h1 := ln_mul_le a.num.natAbs b.num.natAbs
  have h2 := ln_mul_le a.den b.den
  rw [Int.natAbs_mul] at h
  unfold qln at *
  omega
def gk (k : Int) : Nat := 2 ^ intoN k 256
theorem qln_fine (k : Int) : qln (mkRat 1 (gk k)) ≤ 258 := by
  have h := qln_ratio (z := 1) (d := gk k) (two_pow_pos k)
  have h1 := ln_two_pow k
  have h2 := ln_one
  have h3 : ln (1 : Int).natAbs = ln 1 := rfl
  unfold gk at *
  omega
theorem qln_floor {q : Rat} : qln ((q.floor : Int) : Rat) ≤ ln q.num.natAbs + 1 := by
  rw [qln_int, Rat.floor_def]
  have h1 := ln_mono (Int.natAbs_ediv_le_natAbs q.num (q.den : Int))
  omega
theorem f40_ok {J : Keep} (B : Base J) {q : Rat} (h : qln q < 2 ^ 30) (k : Int) : C J 103 [qr q, .int .i64 k] (qr (((q * (((gk k : Nat) : Int) : Rat)).floor : Rat) * mkRat 1 (gk k))) := by
  refine fn_ok Tryz.func103 rfl rfl rfl ?_
  have c1 := f167_ok B (q := q) (by omega) k
  have h1 := qln_mul q (((gk k : Nat) : Int) : Rat)
  have h2 : qln (((gk k : Nat) : Int) : Rat) ≤ 258 := by
    have := ln_two_pow k
    rw [qln_int, Int.natAbs_natCast]; unfold gk; omega
  have c2 := f86_ok (J := J) (q := q * (((gk k : Nat) : Int) : Rat)) (by omega)
  have c3 := f46_ok B k
  have h3 := qln_floor (q := q * (((gk k : Nat) : Int) : Rat))
  have h4 := qln_fine k
  have c4 := f49_ok B (a := (((q * (((gk k : Nat) : Int) : Rat)).floor : Int) : Rat)) (b := mkRat 1 (gk k)) (by unfold qln at h1 h2 h; unfold qln at h3 ⊢; omega) (by omega)
  repeat (first | (refine W.RS (by kernel_rfl) ?_; conv => whnf) | (refine W.ret ?_; conv => whnf) | (refine ⟨_, c1, ?_⟩; conv => whnf) | (refine ⟨_, c2, ?_⟩; conv => whnf) | (refine ⟨_, c3, ?_⟩; conv => whnf) | (refine ⟨_, c4, ?_⟩; conv => whnf))
  rfl
end Go.Proofs.Fl
namespace Go.Proofs.Fl
open Go.RowKit Go.Proofs.Dig
attribute [local irreducible] IntKind.wrap PureC MutC MakC IterC
theorem f41_ok {J : Keep} (B : Base J) {q : Rat} (h : qln q < 2 ^ 30) (k : Int) : C J 104 [qr q, .int .i64 k] (qr (-((-(q * (((gk k : Nat) : Int) : Rat))).floor : Rat) * mkRat 1 (gk k))) := by
  refine fn_ok Tryz.func104 rfl rfl rfl ?_
  have c1 := f167_ok B (q := q) (by omega) k
  have h1 := qln_mul q (((gk k : Nat) : Int) : Rat)
  have h2 : qln (((gk k : Nat) : Int) : Rat) ≤ 258 := by
    have := ln_two_pow k
    rw [qln_int, Int.natAbs_natCast]; unfold gk; omega
  have c2 := f88_ok (J := J) (q := q * (((gk k : Nat) : Int) : Rat)) (by omega)
  have c3 := f46_ok B k
  have h3 := qln_floor (q := -(q * (((gk k : Nat) : Int) : Rat)))
  rw [Rat.neg_num, Int.natAbs_neg] at h3
  have h4 := qln_fine k
  have c4 := f49_ok B (a := -(((-(q * (((gk k : Nat) : Int) : Rat))).floor : Int) : Rat)) (b := mkRat 1 (gk k)) (by rw [qln_neg]; unfold qln at h1 h2 h; unfold qln at h3 ⊢; omega) (by omega)
  repeat (first | (refine W.RS (by kernel_rfl) ?_; conv => whnf) | (refine W.ret ?_; conv => whnf) | (refine ⟨_, c1, ?_⟩; conv => whnf) | (refine ⟨_, c2, ?_⟩; conv => whnf) | (refine ⟨_, c3, ?_⟩; conv => whnf) | (refine ⟨_, c4, ?_⟩; conv => whnf))
  rfl
theorem f45_ok {J : Keep} (B : Base J) {q : Rat} (h : qln q < 2 ^ 30) (k : Int) : C J 68 [qr q, .int .i64 k] (sd (((q * (((gk k : Nat) : Int) : Rat)).floor : Rat) * mkRat 1 (gk k)) (-((-(q * (((gk k : Nat) : Int) : Rat))).floor : Rat) * mkRat 1 (gk k))) := by
  refine fn_ok Tryz.func68 rfl rfl rfl ?_
  have c1 := f40_ok B h k
  have c2 := f41_ok B h k
  repeat (first | (refine W.RS (by kernel_rfl) ?_; conv => whnf) | (refine W.ret ?_; conv => whnf) | (refine ⟨_, c1, ?_⟩; conv => whnf) | (refine ⟨_, c2, ?_⟩; conv => whnf) | (refine ⟨rfl, ?_⟩; conv => whnf))
  rfl
end Go.Proofs.Fl
namespace Go.Proofs.Fl
open Go.RowKit Go.Proofs.Dig
attribute [local irreducible] IntKind.wrap PureC MutC MakC IterC
abbrev B15 : Nat := 32768
def hv (l : List Nat) : Nat := nv B15 l.reverse
end Go.Proofs.Fl
namespace Go.Proofs.Fl
open Go.RowKit
def makK (rs : List ResultVar) (f' : FuncId) (zs : List IV) : Exit → AS → Prop
  | .ret, σ => match rs with
    | [.tmp t] => match σ.tm t with
      | .clo f gs => f = f' ∧ cloB σ.bx gs zs ∧ gs.Pairwise (· ≠ ·)
      | _ => False
    | _ => False
  | _, _ => False
theorem make_of {X : Cx} {f f' : FuncId} {fn : Func} {c : Code} (hf : X.P.funcs[f]? = some fn) (hb : fn.body = some c) (hn : (fn.name == "runtime.NumGoroutine") = false) {xs zs : List IV} (hx : xs.length ≤ fn.ntmps)
    (h : CW X fn.ntmps c ⟨argS xs, fun _ => none, 0⟩ (makK fn.results.toList f' zs)) : MakC X.P X.I f xs f' zs := by
  refine ⟨⟨fn, hf, hn, by rw [hb]; rfl⟩, fun H w args hI hH hargs => ?_⟩
  have hlen := hargs.length
  refine (callsIn_wide (n := 0)).1 (callsIn_of_wp_marks hf hb trivial ?_)
  refine h ⟨none, X.r0⟩ ⟨fun k => w.heap.size ≤ k, w, H, fun _ => none, []⟩ _ (fun w' hw' => X.bel _ _ _ hI (Nat.le_refl _) hw'.below) (fun e σ' M H' β a0 w0 k hS0 => ?_) [] H (fun _ => (0, 0)) _ w ⟨⟨hH, BelowO.refl _ _, fun _ hk => hk, HExtO.refl _ _, fun t => ?_, fun g b hg => (by cases hg), fun g g' b b' hg => (by cases hg), fun p k hk => (by cases hk), MarksOk.nil _ _, fun g s g' b R hg => (by cases hg)⟩, rfl, ?_⟩
  · cases e with
    | ret =>
      simp only [makK] at k
      split at k
      · rename_i t hrs
        split at k
        · rename_i f1 gs ht
          obtain ⟨rfl, hc, hp⟩ := k
          show LeavesInM (FW none) 0 X.P fn a0.tmps (fun e w' => ∃ (bs : List Nat) (H' : Heap), e = .returned (cloV f1 bs) ∧ HeapHas w' H' ∧ HExt w.heap.size H H' ∧ Below w.heap.size w w' ∧ bs.Pairwise (· ≠ ·) ∧ BRs (fun k => w.heap.size ≤ k) w' H' bs zs) a0.defers .returning w0
          rw [hS0.defers]
          refine leavesM M hS0 fun a' w' hS _ => ?_
          have hv := hS.sim.slot t
          rw [ht] at hv
          obtain ⟨_, hv⟩ := hv
          have hr : fn.results = #[.tmp t] := Array.ext' hrs
          refine ⟨_, results_tmp hr a'.tmps X.P w', gs.map fun g => (β g).1, H', ?_, hS.sim.has, hS.sim.ext, hS.sim.below.below, ?_, ?_⟩
          · rw [hv, cloV, List.map_map]; rfl
          · refine List.pairwise_map.2 (hp.imp_of_mem fun {x y} hx hy hne e => hne ?_)
            obtain ⟨z1, hz1⟩ := cloB_get hc x hx
            obtain ⟨z2, hz2⟩ := cloB_get hc y hy
            exact hS.sim.inj x y _ _ hz1 hz2 rfl rfl e
          · exact cloB_brs hS.sim hc (fun g hg => by obtain ⟨z, hz⟩ := cloB_get hc g hg; exact (hS.sim.box g _ hz).lo rfl)
        · exact k.elim
      · exact k.elim
    | _ => exact k.elim
  · show SR _ _ _ _ (argS xs t)
    rw [argS_get]
    cases hx' : xs[t]? with
    | some x =>
      have hlt : t < args.length := by rw [hlen]; exact (List.getElem?_eq_some_iff.1 hx').1
      obtain ⟨v, h1, h2⟩ := hargs.get t x hx'
      have : (args.toArray ++ Array.replicate (fn.ntmps - args.toArray.size) undef).getD t undef = v := by
        simp [Array.getElem?_append, hlt]
        exact (List.getElem?_eq_some_iff.1 h1).2
      rw [this]; exact h2
    | none =>
      have hge : ¬ t < args.length := by
        intro hlt
        rw [hlen] at hlt
        simp [hlt] at hx'
      show _ = undef
      simp [Array.getElem?_append, hge, Array.getElem?_replicate]
      split <;> rfl
  · show (args.toArray ++ Array.replicate (fn.ntmps - args.toArray.size) undef).size = fn.ntmps
    simp; omega
section
variable (X : Cx) (nt l : Nat) (J : (Nat → Prop) → Nat → Heap → World → Prop)
def YS (own : Nat → Prop) (H : Heap) (β : Nat → Nat × Nat) (a : Act) (w : World) (σ : AS) (k : Nat) : Prop :=
  (∃ M, St ⟨own, w, H, fun _ => none, M⟩ nt H β σ.tm σ.bx a w) ∧ J own k H w
def WY (c : Code) (σ : AS) (k : Nat) (K : Exit → AS → Nat → Prop) : Prop :=
  ∀ Q : Exit → Act → World → Prop, (∀ e σ' k' own H β a w, K e σ' k' → YS nt J own H β a w σ' k' → Q e a w) → ∀ own H β a w, YS nt J own H β a w σ k → c.wpIn (FW none) 0 X.P Q a w
def thenY (y : Code) (K : Exit → AS → Nat → Prop) : Exit → AS → Nat → Prop
  | .normal, σ, k => WY X nt J y σ k K
  | e, σ, k => K e σ k
def blockY (id : Nat) (K : Exit → AS → Nat → Prop) : Exit → AS → Nat → Prop
  | .exit i, σ, k => bif Nat.beq i id then K .normal σ k else K (.exit i) σ k
  | e, σ, k => K e σ k
def loopY {G : Type} (inv : G → AS) (κ : G → Nat) (μ : G → Nat) (g : G) (K : Exit → AS → Nat → Prop) : Exit → AS → Nat → Prop
  | .normal, σ, k => ∃ g', Wk σ (inv g') ∧ k = κ g' ∧ μ g' < μ g
  | e, σ, k => K e σ k
end
section
variable {X : Cx} {nt l : Nat} {ys : List (List IV)} {J : (Nat → Prop) → Nat → Heap → World → Prop} {σ : AS} {k : Nat} {K : Exit → AS → Nat → Prop}
theorem WY.lift (hJ : IterJ X l ys J) {c : Code} (h : CW X nt c σ (fun e σ' => K e σ' k)) : WY X nt J c σ k K := by
  rintro Q hQ own H β a w ⟨⟨M, hS⟩, hj⟩
  refine h ⟨none, X.r0⟩ ⟨own, w, H, fun _ => none, []⟩ Q (fun w' hb => hJ.inv _ _ _ _ _ hj hb) (fun e σ' M' H' β' a' w' hk hS' => hQ e σ' k own H' β' a' w' hk ⟨⟨M', ?_, hS'.defers, hS'.size⟩, hJ.step own k H H' w w' hj hS'.sim.below hS'.sim.has hS'.sim.ext⟩) M H β a w hS
  exact hS'.sim.rebase (fun g b hg ha => (hS'.sim.box g b hg).lo ha) (fun g s R hg hR => ((hS'.sim.box g _ hg).2.2.2 R hR).1) hS'.sim.lo hS'.sim.pin hS'.sim.marks
theorem WY.skip (h : K .normal σ k) : WY X nt J .skip σ k K := fun _ hQ own H β a w hS => wpIn_skip (hQ _ _ _ own H β a w h hS)
theorem WY.ret (h : K .ret σ k) : WY X nt J .ret σ k K := fun _ hQ own H β a w hS => wpIn_ret (hQ _ _ _ own H β a w h hS)
theorem WY.exit {id : Nat} (h : K (.exit id) σ k) : WY X nt J (.exit id) σ k K := fun _ hQ own H β a w hS => wpIn_exit (hQ _ _ _ own H β a w h hS)
theorem WY.S {x y : Code} (h : WY X nt J x σ k (thenY X nt J y K)) : WY X nt J (.seq x y) σ k K := fun Q hQ own H β a w hS =>
  wpIn_seq (h _ (fun e σ' k' own H β a w hk hS => by
    cases e with
    | normal => exact hk Q hQ own H β a w hS
    | _ => exact hQ _ _ _ own H β a w hk hS) own H β a w hS)
theorem WY.cond {c : Operand} {x y : Code} {t : Bool} (hc : evS σ.tm c = .iv (.bool t)) (h1 : t = true → WY X nt J x σ k K) (h2 : t = false → WY X nt J y σ k K) : WY X nt J (.cond c x y) σ k K := fun Q hQ own H β a w hS => by
  obtain ⟨⟨M, hs⟩, hj⟩ := hS
  have hv := ev_ok hs.sim rfl c
  rw [hc] at hv
  exact wpIn_cond_split (VR.asBool hv) (fun e => h1 e Q hQ own H β a w ⟨⟨M, hs⟩, hj⟩) (fun e => h2 e Q hQ own H β a w ⟨⟨M, hs⟩, hj⟩)
theorem WY.block {id : Nat} {c : Code} (h : WY X nt J c σ k (blockY id K)) : WY X nt J (.block id c) σ k K := fun Q hQ own H β a w hS =>
  wpIn_block (h _ (fun e σ' k' own H β a w hk hS => by
    cases e with
    | exit i =>
      simp only [blockY] at hk
      simp only [Exit.inBlock]
      by_cases hi : i = id
      · subst hi
        rw [Nat.beq_refl] at hk
        simp only [if_true]
        exact hQ _ _ _ own H β a w hk hS
      · have hb : Nat.beq i id = false := by
          cases hb : Nat.beq i id
          · rfl
          · exact absurd (Nat.eq_of_beq_eq_true hb) hi
        rw [hb] at hk
        simp only [hi, if_false]
        exact hQ _ _ _ own H β a w hk hS
    | _ => exact hQ _ _ _ own H β a w hk hS) own H β a w hS)
theorem YS.weak {own : Nat → Prop} {H : Heap} {β : Nat → Nat × Nat} {a : Act} {w : World} {σ' : AS} (h : YS nt J own H β a w σ k) (hw : Wk σ σ') : ∃ β', YS nt J own H β' a w σ' k := by
  obtain ⟨⟨M, hs⟩, hj⟩ := h
  obtain ⟨β', hs'⟩ := hs.weak hw
  exact ⟨β', ⟨M, hs'⟩, hj⟩
theorem WY.weak {c : Code} {σ' : AS} (hw : Wk σ σ') (h : WY X nt J c σ' k K) : WY X nt J c σ k K := fun Q hQ own H β a w hS => by
  obtain ⟨β', hS'⟩ := hS.weak hw
  exact h Q hQ own H β' a w hS'
theorem WY.loop {G : Type} (inv : G → AS) (κ : G → Nat) (μ : G → Nat) {c : Code} (g0 : G) (h0 : Wk σ (inv g0)) (hk0 : k = κ g0) (h : ∀ g, WY X nt J c (inv g) (κ g) (loopY inv κ μ g K)) : WY X nt J (.loop c) σ k K := fun Q hQ own H β a w hS => by
  let I : G → Act → World → Prop := fun g a w => ∃ own H β, YS nt J own H β a w (inv g) (κ g)
  let M : Act → World → Nat := fun a w => leastN fun n => ∃ g, μ g = n ∧ I g a w
  obtain ⟨β0, hS0⟩ := hS.weak h0
  refine wpIn_loop (fun a w => ∃ g, I g a w) M ⟨g0, own, H, β0, hk0 ▸ hS0⟩ fun a w ⟨g1, hJ1⟩ => ?_
  obtain ⟨⟨g, e, hJ⟩, _⟩ := leastN_spec (p := fun n => ∃ g, μ g = n ∧ I g a w) ⟨g1, rfl, hJ1⟩
  obtain ⟨own1, H1, β1, hS1⟩ := hJ
  refine h g _ (fun e' σ' k' own H β a' w' hk hS => ?_) own1 H1 β1 a w hS1
  cases e' with
  | normal =>
    obtain ⟨g', hw, rfl, hlt⟩ := hk
    obtain ⟨β', hS'⟩ := hS.weak hw
    have hJ' : I g' a' w' := ⟨own, H, β', hS'⟩
    have := (leastN_spec (p := fun n => ∃ g, μ g = n ∧ I g a' w') ⟨g', rfl, hJ'⟩).2
    refine ⟨⟨g', hJ'⟩, ?_⟩
    show leastN _ < leastN _
    rw [← e]
    exact Nat.lt_of_le_of_lt this hlt
  | _ => exact hQ _ _ _ own H β a' w' hk hS
theorem list_on {P : Program} {I : World → Prop} {T : TypeId → Option TY} {Φ : Ctr} {E : Env} {Q : Exit → Act → World → Prop} {ro : Option Nat} (hT : TabOk P T) (hΦ : CtrOk P I Φ) (hIE : ∀ w, BelowO E.own E.w0 w → I w) {all : Array Oper} {rest : List Oper} {K : (Nat → SV) → (Nat → Option Bx) → List Lg → Prop} (hK : ∀ H β tm bx log a w, K tm bx log → St E nt H β tm bx a w → wpListIn (FW ro) 0 P all Q rest a w) :
    ∀ {os : List Oper} {g : Nat} {tm : Nat → SV} {bx : Nat → Option Bx} {log : List Lg} {H : Heap} {β : Nat → Nat × Nat} {a : Act} {w : World}, dstsOk nt os = true → St E nt H β tm bx a w → opsP T Φ all os g tm bx log K → wpListIn (FW ro) 0 P all Q (os ++ rest) a w := by
  intro os
  induction os with
  | nil => intro g tm bx log H β a w _ h ho; exact hK _ _ _ _ _ _ _ ho h
  | cons o os ih =>
    intro g tm bx log H β a w hd h ho
    have hd' : dstsOk nt os = true := by
      simp only [dstsOk, List.all_cons, Bool.and_eq_true] at hd; exact hd.2
    have key : ∃ l : Lg, Fact T Φ all o g tm bx l ∧ opsP T Φ all os (g + 1) (putS tm o.dst l.r) (wrAll (fzAll bx l.e.fz) l.e.wr) (l :: log) K := by
      unfold opsP at ho
      split at ho
      · rename_i hy
        obtain ⟨r, e, h1, h2⟩ := opP_elim ho
        exact ⟨⟨r, e⟩, .inl ⟨hy, h1⟩, h2⟩
      · rename_i hy
        exact ⟨⟨.und, {}⟩, .inr ⟨hy, rfl, rfl⟩, ho⟩
      · exact ho.elim
    obtain ⟨l, hf, h'⟩ := key
    show wpListIn (FW ro) 0 P all Q (o :: (os ++ rest)) a w
    unfold wpListIn
    exact fact_step hT hΦ hIE (dstsOk_spec hd (by simp)) h hf fun H β a w hS => ih hd' hS h'
theorem Sim.rounded {own : Nat → Prop} {M : List Deferred} {H H' : Heap} {β : Nat → Nat × Nat} {tm : Nat → SV} {bx : Nat → Option Bx} {tmps : Array Value} {w w' w0 : World} {H0 : Heap} {pin : Nat → Option (Nat × Nat)} (h : Sim ⟨own, w0, H0, pin, M⟩ H β tm bx tmps w) (hh : HeapHas w' H') (hle : HLe H H') (hs : w.heap.size ≤ w'.heap.size)
    (ho : ∀ b, own b → b < w.heap.size → w'.heap[b]? = w.heap[b]? ∧ (H b = none → H' b = none)) : Sim ⟨fun b => own b ∧ (b < w.heap.size ∨ w'.heap.size ≤ b), w', H', fun _ => none, M⟩ H' β tm bx tmps w' where
  has := hh
  below := BelowO.refl _ _
  lo k hk := ⟨h.lo k (Nat.le_trans hs hk), .inr hk⟩
  ext := HExtO.refl _ _
  slot t := (h.slot t).mono hle (fun g b hg => ⟨b, hg, shape.refl b, rfl⟩)
  box g b hg := by
    by_cases ha : b.alive = true
    · have hb := h.box g b hg
      have hlt := hb.lt ha
      have hl := hb.lo ha
      obtain ⟨e1, e2⟩ := ho _ hl hlt
      have hk := hb.keep e1 hle e2 (fun s R eb hR => by
        subst eb
        exact ho R (hb.2.2.2 R hR).1 (bld_row hb.2.2.1 hR).1)
      cases b with
      | var x => exact ⟨⟨hl, .inl hlt⟩, hk.2⟩
      | arr => exact ⟨⟨hl, .inl hlt⟩, hk.2⟩
      | bld s =>
        refine ⟨⟨hl, .inl hlt⟩, hk.2.1, hk.2.2.1, fun R hR => ?_⟩
        have hR' := hR.same e1
        exact ⟨⟨(hb.2.2.2 R hR').1, .inl (bld_row hb.2.2.1 hR').1⟩, (hk.2.2.2 R hR).2⟩
      | dead => trivial
    · cases b <;> first | trivial | simp [Bx.alive] at ha
  inj := h.inj
  pin g k hk := by cases hk
  marks := ⟨h.marks.1, fun d hd => by
    obtain ⟨D, e, h1, h2⟩ := h.marks.2 d hd
    have hlt := (Array.getElem?_eq_some_iff.1 h2).1
    exact ⟨D, e, ⟨h1, .inl hlt⟩, (ho D h1 hlt).1.trans h2⟩⟩
  hid g s g' b R h1 h2 ha hR := h.hid g s g' b R h1 h2 ha (hR.same (ho _ ((h.box g _ h1).lo rfl) ((h.box g _ h1).lt rfl)).1)
theorem WY.yield (hJ : IterJ X l ys J) (n : Nat) {id : Nat} {all : Array Oper} {o : Oper} {fo : Operand} {args : Array Operand} {ats : Array TypeId} (ho : all.toList[n]? = some o) (hd : dstsOk nt all.toList = true) (hg : o.guard = none) (hop : o.op = .call { callee := .value fo, args := args, argTypes := ats })
    (h : opsP X.T X.C all (all.toList.take n) σ.nx σ.tm σ.bx [] fun tm bx _ => match evS tm fo, toIs bx (evS tm) args.toList with
      | .yld l', some (y, fs) => l' = l ∧ ys[k]? = some y ∧ opsP X.T X.C all (all.toList.drop (n + 1)) (σ.nx + n + 1) (putS tm o.dst (.iv (.bool true))) (fzAll bx fs) [] fun tm bx _ => K .normal ⟨tm, bx, σ.nx + all.size⟩ (k + 1)
      | _, _ => False) : WY X nt J (.region id all false) σ k K := by
  rintro Q hQ own H β a w ⟨⟨M, hS⟩, hj⟩
  refine wpIn_region_list ?_
  have hsplit : all.toList = all.toList.take n ++ o :: all.toList.drop (n + 1) := by
    have hlt := (List.getElem?_eq_some_iff.1 ho).1
    have he := (List.getElem?_eq_some_iff.1 ho).2
    have h1 := List.take_append_drop n all.toList
    rw [List.drop_eq_getElem_cons hlt, he] at h1
    exact h1.symm
  have hd1 : dstsOk nt (all.toList.take n) = true := by
    unfold dstsOk at hd ⊢
    rw [List.all_eq_true] at hd ⊢
    exact fun x hx => hd x (List.mem_of_mem_take hx)
  have hd2 : dstsOk nt (all.toList.drop (n + 1)) = true := by
    unfold dstsOk at hd ⊢
    rw [List.all_eq_true] at hd ⊢
    exact fun x hx => hd x (List.mem_of_mem_drop hx)
  have hdo : ∀ d, o.dst = some d → d < nt := dstsOk_spec hd (List.mem_of_getElem? ho)
  rw [hsplit]
  refine list_on (E := ⟨own, w, H, fun _ => none, M⟩) X.hT X.ok (fun w' hb => hJ.inv _ _ _ _ _ hj hb) (fun H1 β1 tm bx log a1 w1 hk hS1 => ?_) hd1 hS h
  split at hk
  · rename_i l' y fs hfo hargs
    obtain ⟨rfl, hy, hk⟩ := hk
    have hkl := (List.getElem?_eq_some_iff.1 hy).1
    have hv := ev_ok hS1.sim rfl fo
    rw [hfo] at hv
    have hfv : a1.eval fo = .func (.yield l') #[] #[] := hv
    obtain ⟨H2, hle, S2, V2⟩ := toIs_ok (a := a1) rfl hS1.sim hargs
    have hj2 := hJ.step own k H H2 w w1 hj S2.below S2.has S2.ext
    obtain ⟨fn, tmps, assign, body, hyr, hR⟩ := hJ.round own k H2 w1 (args.toList.map a1.eval) hkl hj2 S2.has S2.lo (by rw [(List.getElem?_eq_some_iff.1 hy).2]; exact V2)
    have hrun : (execOp a1.eval o).run X.P w1 = .ok (.round l' fn tmps assign body) w1 := by
      have ea : (args.toList.map a1.eval).toArray = args.map a1.eval := by apply Array.ext'; simp
      rw [ea] at hyr
      simp only [execOp, hop, resolve, hfv, Deferred.ofValue, Sem.run_bind, Sem.run_pure, Result.andThen_ok, invoke]
      simpa using hyr
    unfold wpListIn
    simp only [Region.wanted, hg, if_true]
    refine ⟨fun _ _ => trivial, ?_⟩
    rw [show (FW none).round = none from rfl, Oper.semAt_none, hrun]
    refine ⟨fun e => (by cases e), hR.mono ?_⟩
    rintro e w2 ⟨rfl, H3, h1, h2, h3, h4, h5, h6, h7, hj3⟩
    have T : St ⟨fun b => own b ∧ (b < w1.heap.size ∨ w2.heap.size ≤ b), w2, H3, fun _ => none, M⟩ nt H3 β1 (putS tm o.dst (.iv (.bool true))) (fzAll bx fs) (a1.put o.dst (.bool true)) w2 :=
      St.put ⟨S2.rounded h1 h2 h3 h7, hS1.defers, hS1.size⟩ hdo (r := .iv (.bool true)) (.bool true)
    have := list_on (rest := []) (Q := Q) (ro := none) (E := ⟨fun b => own b ∧ (b < w1.heap.size ∨ w2.heap.size ≤ b), w2, H3, fun _ => none, M⟩) X.hT X.ok (fun w' hb => hJ.inv _ _ _ _ _ hj3 hb) (all := all) (K := fun tm bx _ => K .normal ⟨tm, bx, σ.nx + all.size⟩ (k + 1)) (fun H4 β4 tm bx log a4 w4 hk4 hS4 => ?_) hd2 T hk
    · rw [List.append_nil] at this; exact this
    · refine hQ .normal _ (k + 1) (fun b => own b ∧ (b < w1.heap.size ∨ w2.heap.size ≤ b)) H4 β4 a4 w4 hk4 ⟨⟨M, ?_, hS4.defers, hS4.size⟩, hJ.step _ _ _ _ _ _ hj3 hS4.sim.below hS4.sim.has hS4.sim.ext⟩
      exact hS4.sim.rebase (fun g b hg ha => (hS4.sim.box g b hg).lo ha) (fun g s R hg hR => ((hS4.sim.box g _ hg).2.2.2 R hR).1) hS4.sim.lo hS4.sim.pin hS4.sim.marks
  · exact hk.elim
end
def argP : Nat → List IV → Nat → SV
  | _, [], _ => .und
  | i, _ :: _, 0 => .ptr i 0
  | i, _ :: zs, t + 1 => argP (i + 1) zs t
def argY (l : Nat) (zs : List IV) : Nat → SV
  | 0 => .yld l
  | t + 1 => argP 0 zs t
def bxL : Nat → List IV → List (Nat × Bx)
  | _, [] => []
  | i, z :: zs => (i, .var z) :: bxL (i + 1) zs
def endY (n : Nat) : Exit → AS → Nat → Prop
  | .normal, _, k => k = n
  | .ret, _, k => k = n
  | _, _, _ => False
theorem BRs_len {own : Nat → Prop} {w : World} {H : Heap} : ∀ {bs : List Nat} {zs : List IV}, BRs own w H bs zs → bs.length = zs.length
  | [], [], _ => rfl
  | [], _ :: _, h => h.elim
  | _ :: _, [], h => h.elim
  | _ :: _, _ :: _, h => by simp [BRs_len h.2]
theorem BRs_get {own : Nat → Prop} {w : World} {H : Heap} : ∀ {bs : List Nat} {zs : List IV}, BRs own w H bs zs → ∀ (i : Nat) (z : IV), zs[i]? = some z → ∃ b, bs[i]? = some b ∧ BR own w H (b, 0) (.var z)
  | [], [], _, i, z, h => by simp at h
  | [], _ :: _, h, _, _, _ => h.elim
  | _ :: _, [], h, _, _, _ => h.elim
  | b :: bs, z' :: zs, h, 0, z, hz => by simp at hz; subst hz; exact ⟨b, rfl, h.1⟩
  | b :: bs, z' :: zs, h, i + 1, z, hz => by simp at hz; simpa using BRs_get h.2 i z hz
theorem bxL_mem : ∀ {i : Nat} {zs : List IV} {g : Nat} {b : Bx}, (g, b) ∈ bxL i zs → ∃ j z, g = i + j ∧ zs[j]? = some z ∧ b = .var z
  | _, [], _, _, h => by simp [bxL] at h
  | i, z :: zs, g, b, h => by
    simp only [bxL, List.mem_cons, Prod.mk.injEq] at h
    rcases h with ⟨rfl, rfl⟩ | h
    · exact ⟨0, z, rfl, rfl, rfl⟩
    · obtain ⟨j, z', e, h1, h2⟩ := bxL_mem h
      exact ⟨j + 1, z', by omega, by simpa using h1, h2⟩
theorem bxL_some : ∀ {i : Nat} {zs : List IV} {j : Nat}, j < zs.length → tbB (bxL i zs) (i + j) ≠ none
  | _, [], _, h => by simp at h
  | i, z :: zs, 0, _ => by simp [bxL, tbB, Nat.beq_refl]
  | i, z :: zs, j + 1, h => by
    have h' := bxL_some (i := i + 1) (zs := zs) (j := j) (by simpa using h)
    have hb : Nat.beq (i + (j + 1)) i = false := by
      cases hb : Nat.beq (i + (j + 1)) i
      · rfl
      · have := Nat.eq_of_beq_eq_true hb; omega
    simp only [bxL, tbB, hb, cond_false]
    rw [show i + (j + 1) = i + 1 + j by omega]; exact h'
theorem argP_get : ∀ {i : Nat} {zs : List IV} {t : Nat}, argP i zs t = if t < zs.length then .ptr (i + t) 0 else .und
  | i, [], t => by simp [argP]
  | i, z :: zs, 0 => by simp [argP]
  | i, z :: zs, t + 1 => by rw [argP, argP_get]; simp [Nat.add_comm, Nat.add_left_comm]
theorem iter_of {X : Cx} {f : FuncId} {fn : Func} {c : Code} (hf : X.P.funcs[f]? = some fn) (hb : fn.body = some c) (hn : (fn.name == "runtime.NumGoroutine") = false) (hres : fn.results = #[]) {zs : List IV} {ys : List (List IV)} (hx : zs.length + 1 ≤ fn.ntmps)
    (h : ∀ l J, IterJ X l ys J → WY X fn.ntmps J c ⟨argY l zs, tbB (bxL 0 zs), 10⟩ 0 (endY ys.length)) : IterC X f zs ys := by
  refine ⟨⟨fn, hf, hn, by rw [hb]; rfl⟩, fun l J own H w bs hJ hj hH hlo hbs hp => ?_⟩
  have hlen := BRs_len hbs
  refine callsIn_of_wp_marks hf hb trivial ?_
  refine h l J hJ _ (fun e σ' k' own' H' β' a' w' hk hY => ?_) own H (fun g => (bs.getD g 0, 0)) _ w ⟨⟨[], ⟨hH, BelowO.refl _ _, hlo, HExtO.refl _ _, fun t => ?_, fun g b hg => ?_, fun g g' b b' hg hg' _ _ e => ?_, fun p k hk => (by cases hk), MarksOk.nil _ _, fun g s g' b R hg => (by obtain ⟨j, z, _, _, e⟩ := bxL_mem (tbB_mem hg); cases e)⟩, rfl, ?_⟩, hj⟩
  · obtain ⟨⟨M, hS⟩, hj'⟩ := hY
    have hfin : k' = ys.length → LeavesInM (FW none) 0 X.P fn a'.tmps (fun e w' => ∃ v own' H', e = .returned v ∧ HeapHas w' H' ∧ J own' ys.length H' w') a'.defers .returning w' := fun hk => by
      subst hk
      rw [hS.defers]
      have goM : ∀ (M : List Deferred) (w' : World), MarksOk own' M w' → HeapHas w' H' → J own' ys.length H' w' → LeavesInM (FW none) 0 X.P fn a'.tmps (fun e w' => ∃ v own' H', e = .returned v ∧ HeapHas w' H' ∧ J own' ys.length H' w') M .returning w' := by
        intro M
        induction M with
        | nil =>
          intro w' _ hh hj
          exact ⟨_, results_none hres _ _ _, _, own', H', rfl, hh, hj⟩
        | cons d M ih =>
          intro w' hm hh hj
          obtain ⟨D, e, ho, hb⟩ := hm.2 d (by simp)
          obtain ⟨hp1, hp2⟩ := List.pairwise_cons.1 hm.1
          refine ⟨by simp, .inl ⟨D, w'.putObj D (.deferred none), by rw [e], run_takeDeferred hb, ih _ ⟨hp2, fun d' hd' => ?_⟩ ?_ ?_⟩⟩
          · obtain ⟨D', e', ho', hb'⟩ := hm.2 d' (List.mem_cons_of_mem _ hd')
            exact ⟨D', e', ho', (World.putObj_heap_other (fun e2 => hp1 d' hd' (by rw [e, e', e2]))).trans hb'⟩
          · intro b arr hba
            obtain ⟨t, fr, ht⟩ := hh b arr hba
            exact ⟨t, fr, (World.putObj_heap_other (fun e2 => by rw [e2, hb] at ht; cases ht)).trans ht⟩
          · refine hJ.step own' _ H' H' w' _ hj ⟨rfl, rfl, rfl, by simp, fun k hk => World.putObj_heap_other (fun e2 => hk (by rw [e2]; exact ho))⟩ ?_ (HExtO.refl _ _)
            intro b arr hba
            obtain ⟨t, fr, ht⟩ := hh b arr hba
            exact ⟨t, fr, (World.putObj_heap_other (fun e2 => by rw [e2, hb] at ht; cases ht)).trans ht⟩
      exact goM M w' hS.sim.marks hS.sim.has hj'
    cases e with
    | normal => exact hfin hk
    | ret => exact hfin hk
    | _ => exact hk.elim
  · cases t with
    | zero => simp [argY, SR, yieldV, Array.getElem?_append]
    | succ t =>
      show SR _ _ _ _ (argP 0 zs t)
      rw [argP_get]
      by_cases ht : t < zs.length
      · rw [if_pos ht]
        have htb : t < bs.length := by omega
        refine ⟨bxL_some ht, ?_⟩
        simp [Array.getElem?_append, htb]
      · rw [if_neg ht]
        have htb : ¬ t < bs.length := by omega
        show _ = undef
        simp [Array.getElem?_append, htb, Array.getElem?_replicate]
        split <;> rfl
  · obtain ⟨j, z, rfl, hz, rfl⟩ := bxL_mem (tbB_mem hg)
    obtain ⟨b, e1, e2⟩ := BRs_get hbs j z hz
    simp only [Nat.zero_add]
    rw [show (bs.getD j 0, 0) = (b, 0) by simp [e1]]
    exact e2
  · obtain ⟨j, z, rfl, hz, rfl⟩ := bxL_mem (tbB_mem hg)
    obtain ⟨j', z', rfl, hz', rfl⟩ := bxL_mem (tbB_mem hg')
    obtain ⟨b1, e1, _⟩ := BRs_get hbs j z hz
    obtain ⟨b2, e2, _⟩ := BRs_get hbs j' z' hz'
    simp [e1, e2] at e
    simp only [Nat.zero_add]
    apply Classical.byContradiction
    intro hne
    have l1 := (List.getElem?_eq_some_iff.1 e1).1
    have l2 := (List.getElem?_eq_some_iff.1 e2).1
    have v1 := (List.getElem?_eq_some_iff.1 e1).2
    have v2 := (List.getElem?_eq_some_iff.1 e2).2
    have hpg := List.pairwise_iff_getElem.1 hp
    rcases Nat.lt_or_gt_of_ne hne with hlt | hlt
    · exact hpg j j' l1 l2 hlt (by rw [v1, v2, e])
    · exact hpg j' j l2 l1 hlt (by rw [v1, v2, e])
  · show ((yieldV l :: bs.map fun b => Value.pointer (some ⟨b, 0, none⟩)).toArray ++ Array.replicate (fn.ntmps - (yieldV l :: bs.map fun b => Value.pointer (some ⟨b, 0, none⟩)).toArray.size) undef).size = fn.ntmps
    simp; omega
attribute [irreducible] WY
end Go.Proofs.Fl
namespace Go.Proofs.Fl
open Go.RowKit
abbrev MK (J : Keep) : FuncId → List IV → FuncId → List IV → Prop := MakC Tryz.prog J.I
abbrev IT (J : Keep) : FuncId → List IV → List (List IV) → Prop := IterC (cx J.top)
def roundW (J : Keep) (nt : Nat) (body : Code) (m : List (Nat × Bx)) : Exit → AS → Prop
  | .normal, σ => W J.any nt body σ fun e σ' => e = .normal ∧ boxesW σ'.bx [] m
  | _, _ => False
def slotsE (tm : Nat → SV) : List (Nat × SV) → Prop
  | [] => True
  | p :: l => tm p.1 = p.2 ∧ slotsE tm l
theorem slotsE_mem {tm : Nat → SV} : ∀ {l : List (Nat × SV)}, slotsE tm l → ∀ p ∈ l, tm p.1 = p.2
  | [], _, p, h => by simp at h
  | q :: l, hs, p, h => by
    rcases List.mem_cons.1 h with rfl | h
    · exact hs.1
    · exact slotsE_mem hs.2 p h
def okL (ids : List Nat) : SV → Bool
  | .unk | .und | .iv _ | .nilS => true
  | .ptr g _ => ids.any (Nat.beq g)
  | .cv _ _ gs => gs.all fun g => ids.any (Nat.beq g)
  | _ => false
theorem tbB_dom {m : List (Nat × Bx)} {g : Nat} : tbB m g ≠ none ↔ g ∈ m.map (·.1) := by
  induction m with
  | nil => simp [tbB]
  | cons p m ih =>
    simp only [tbB, List.map_cons, List.mem_cons]
    cases hb : Nat.beq g p.1 with
    | true => simp [Nat.eq_of_beq_eq_true hb]
    | false =>
      have hne := Nat.ne_of_beq_eq_false hb
      simp only [cond_false, ih]
      exact ⟨.inr, fun h => h.resolve_left hne⟩
def freeB (bx : Nat → Option Bx) (ids : List Nat) (i : Nat) : Bool := (bx (pinId + i)).isNone || ids.any (Nat.beq (pinId + i))
def freeAll (bx : Nat → Option Bx) (ids : List Nat) : Bool := freeB bx ids 0 && (freeB bx ids 1 && (freeB bx ids 2 && (freeB bx ids 3 && (freeB bx ids 4 && (freeB bx ids 5 && (freeB bx ids 6 && freeB bx ids 7))))))
theorem freeAll_get {bx : Nat → Option Bx} {ids : List Nat} (h : freeAll bx ids = true) : ∀ i, i < 8 → freeB bx ids i = true := by
  simp only [freeAll, Bool.and_eq_true] at h
  obtain ⟨h0, h1, h2, h3, h4, h5, h6, h7⟩ := h
  intro i hi
  match i, hi with
  | 0, _ => exact h0
  | 1, _ => exact h1
  | 2, _ => exact h2
  | 3, _ => exact h3
  | 4, _ => exact h4
  | 5, _ => exact h5
  | 6, _ => exact h6
  | 7, _ => exact h7
  | n + 8, hn => exact absurd hn (by omega)
section
variable {J : Keep} {nt : Nat} {σ : AS} {K : Exit → AS → Prop}
theorem mk_ok {f f' : FuncId} {fn : Func} {c : Code} (hf : Tryz.prog.funcs[f]? = some fn) (hb : fn.body = some c) (hn : (fn.name == "runtime.NumGoroutine") = false) {xs zs : List IV} (hx : Nat.ble xs.length fn.ntmps = true)
    (h : W J fn.ntmps c ⟨argS xs, fun _ => none, 0⟩ (makK fn.results.toList f' zs)) : MK J f xs f' zs := by
  unfold W at h
  exact make_of (X := cx J) hf hb hn (Nat.le_of_ble_eq_true hx) h
theorem it_ok {f : FuncId} {fn : Func} {c : Code} (hf : Tryz.prog.funcs[f]? = some fn) (hb : fn.body = some c) (hn : (fn.name == "runtime.NumGoroutine") = false) (hres : fn.results = #[]) {zs : List IV} {ys : List (List IV)} (hx : Nat.ble (zs.length + 1) fn.ntmps = true)
    (h : ∀ l F, IterJ (cx J.top) l ys F → WY (cx J.top) fn.ntmps F c ⟨argY l zs, tbB (bxL 0 zs), 10⟩ 0 (endY ys.length)) : IT J f zs ys :=
  iter_of (X := cx J.top) hf hb hn hres (Nat.le_of_ble_eq_true hx) h
theorem W.range {g : Operand} {ps : Array Tmp} {assign body : Code} {f : FuncId} {gs : List Nat} {zs : List IV} {ys : List (List IV)} (hit : IT J f zs ys) (ids : List Nat) (l : List (Nat × SV)) (m : Nat → List (Nat × Bx)) (nx : Nat) (hg : evS σ.tm g = .clo f gs) (hz : cloB σ.bx gs zs) (hgs : gs.Pairwise (· ≠ ·))
    (hps : ps.toList.all (fun p => Nat.blt p nt) = true) (hys : ∀ y ∈ ys, y.length = ps.size) (hids : ∀ k, (m k).map (·.1) = ids) (hal : ∀ k, ∀ p ∈ m k, p.2.alive = true) (hpin : ids.all (fun g => Nat.ble pinId g && Nat.blt g (pinId + 8)) = true)
    (hl : slotsE σ.tm l) (hlo : l.all (fun p => okL ids p.2) = true) (hb : boxesW σ.bx [] (m 0)) (hdj : gs.all (fun g => !ids.any (Nat.beq g)) = true) (hfree : freeAll σ.bx ids = true)
    (hround : ∀ k (hk : k < ys.length), W J.any nt assign ⟨putsL (tbS l) ps.toList ys[k], tbB (m k), nx⟩ (roundW J nt body (m (k + 1)))) (hend : K .normal (mkA l (m ys.length) nx)) : W J.top nt (.rangeFunc g ps assign body) σ K := by
  unfold W
  have hmem : ∀ {g : Nat}, ids.any (Nat.beq g) = true ↔ g ∈ ids := fun {g} => any_beq
  have hdom : ∀ k g, tbB (m k) g ≠ none ↔ g ∈ ids := fun k g => by rw [tbB_dom, hids k]
  refine CW.range (X := cx J.top) (fun r h => h) hg hz hgs hit (tbS l) (fun k => tbB (m k)) (nx := nx) (fun p hp => ?_) hys (fun t => ?_) (fun k t => ?_) (fun g b hgb => ?_) (fun id hid => ?_) (fun k g b hgb => ?_) (fun k g => ?_) (fun i hi hne => ?_) (fun k hk => ?_) hend
  · have := List.all_eq_true.1 hps p hp
    rwa [Nat.blt_eq] at this
  · rcases tbS_mem (l := l) (t := t) with h | h
    · exact .inl h
    · exact .inr (slotsE_mem hl _ h)
  · rcases tbS_mem (l := l) (t := t) with h | h
    · rw [h]; trivial
    · have := List.all_eq_true.1 hlo _ h
      simp only at this
      cases hs : tbS l t <;> rw [hs] at this <;> simp only [okL] at this <;> first | trivial | cases this | skip
      · rename_i g off
        exact (hdom k g).2 (hmem.1 this)
      · intro g hg
        exact (hdom k g).2 (hmem.1 (List.all_eq_true.1 this g hg))
  · have := boxesW_mem hb _ (tbB_mem hgb)
    exact this
  · cases hx : tbB (m 0) id with
    | none => rfl
    | some b =>
      have h1 := (hdom 0 id).1 (by rw [hx]; simp)
      have h2 := List.all_eq_true.1 hdj id hid
      rw [hmem.2 h1] at h2; cases h2
  · have h1 := (hdom k g).1 (by rw [hgb]; simp)
    have h2 := List.all_eq_true.1 hpin g h1
    simp only [Bool.and_eq_true, Nat.ble_eq, Nat.blt_eq] at h2
    exact ⟨hal k _ (tbB_mem hgb), h2.1, h2.2⟩
  · rw [hdom, hdom]
  · have h1 := freeAll_get hfree i hi
    simp only [freeB, Bool.or_eq_true, Option.isNone_iff_eq_none] at h1
    exact (hdom 0 _).2 (hmem.1 (h1.resolve_left hne))
  · have hr := hround k hk
    unfold W at hr
    refine CW.mono (X := cx J.any) hr fun e σ' hk => ?_
    cases e with
    | normal =>
      have hk' : W J.any nt body σ' _ := hk
      unfold W at hk'
      refine CW.mono (X := cx J.any) hk' fun e σ'' h => ⟨h.1, fun id b hib => ?_⟩
      exact boxesW_mem h.2 _ (tbB_mem hib)
    | _ => exact hk
end
section
variable {X : Cx} {nt l : Nat} {ys : List (List IV)} {F : (Nat → Prop) → Nat → Heap → World → Prop} {σ : AS} {k : Nat} {K : Exit → AS → Nat → Prop}
theorem WY.R (hJ : IterJ X l ys F) {id : Nat} {all : Array Oper} {draw : Bool} (h0 : regOk nt all draw = true) (h : regP X all draw σ fun σ' => K .normal σ' k) : WY X nt F (.region id all draw) σ k K := by
  simp only [regOk, Bool.and_eq_true, Bool.or_eq_true] at h0
  exact WY.lift hJ (CW.region h0.1 (fun e => h0.2.resolve_left (by subst e; simp)) h)
theorem WY.RS (hJ : IterJ X l ys F) {id : Nat} {all : Array Oper} {draw : Bool} {y : Code} (h0 : regOk nt all draw = true) (h : regP X all draw σ fun σ' => WY X nt F y σ' k K) : WY X nt F (.seq (.region id all draw) y) σ k K :=
  WY.S (WY.R hJ h0 h)
theorem WY.yieldS (hJ : IterJ X l ys F) (n : Nat) {id : Nat} {all : Array Oper} {o : Oper} {fo : Operand} {args : Array Operand} {ats : Array TypeId} {y : Code} (ho : all.toList[n]? = some o) (hd : dstsOk nt all.toList = true) (hg : o.guard = none) (hop : o.op = .call { callee := .value fo, args := args, argTypes := ats })
    (h : opsP X.T X.C all (all.toList.take n) σ.nx σ.tm σ.bx [] fun tm bx _ => match evS tm fo, toIs bx (evS tm) args.toList with
      | .yld l', some (y', fs) => l' = l ∧ ys[k]? = some y' ∧ opsP X.T X.C all (all.toList.drop (n + 1)) (σ.nx + n + 1) (putS tm o.dst (.iv (.bool true))) (fzAll bx fs) [] fun tm bx _ => WY X nt F y ⟨tm, bx, σ.nx + all.size⟩ (k + 1) K
      | _, _ => False) : WY X nt F (.seq (.region id all false) y) σ k K :=
  WY.S (WY.yield hJ n ho hd hg hop h)
theorem WY.condT {c : Operand} {x y : Code} (hc : evS σ.tm c = .iv (.bool true)) (h : WY X nt F x σ k K) : WY X nt F (.cond c x y) σ k K := WY.cond hc (fun _ => h) (fun e => by cases e)
theorem WY.condF {c : Operand} {x y : Code} (hc : evS σ.tm c = .iv (.bool false)) (h : WY X nt F y σ k K) : WY X nt F (.cond c x y) σ k K := WY.cond hc (fun e => by cases e) (fun _ => h)
end
end Go.Proofs.Fl
namespace Go.Proofs.Fl
open Go.RowKit Go.Proofs.Dig
attribute [local irreducible] IntKind.wrap PureC MutC MakC IterC
theorem f192_ok (J : Keep) (es : List IV) : MK J 108 [.sl es] 149 [.sl es] := by
  refine mk_ok Tryz.func108 rfl rfl rfl ?_
  repeat (first | (refine W.RS (by kernel_rfl) ?_; conv => whnf) | (refine W.ret ?_; conv => whnf) | (refine ⟨rfl, ?_⟩; conv => whnf))
  exact ⟨⟨rfl, trivial⟩, by simp⟩
def back (ds : List Nat) : List (List IV) := (List.range ds.length).map fun k => [.int .i64 ((ds.length - 1 - k : Nat) : Int), u32 (ds.getD (ds.length - 1 - k) 0)]
theorem back_get {ds : List Nat} {k : Nat} (h : k < ds.length) : (back ds)[k]? = some [.int .i64 ((ds.length - 1 - k : Nat) : Int), u32 (ds.getD (ds.length - 1 - k) 0)] := by
  simp [back, h]
theorem back_len (ds : List Nat) : (back ds).length = ds.length := by simp [back]
theorem f224_ok (J : Keep) {ds : List Nat} (hl : ds.length < 2 ^ 60) : IT J 149 [.sl (ds.map u32)] (back ds) := by
  refine it_ok Tryz.func149 rfl rfl rfl rfl fun l F hF => ?_
  have lm : (ds.map u32).length = ds.length := by simp
  repeat (first | (refine WY.RS hF (by kernel_rfl) ?_; conv => whnf) | (refine WY.block ?_) | (refine ⟨rfl, _, w64 (by omega), ?_⟩; conv => whnf) | (refine ⟨_, rfl, ?_⟩; conv => whnf))
  refine WY.loop (G := { k : Nat // k ≤ ds.length }) (fun k => mkA [(0, .yld l), (1, .ptr 0 0), (3, .iv (.int .i64 ((ds.length : Int) - 1 - (k.1 : Int))))] [(0, .var (.sl (ds.map u32)))] 50) (fun k => k.1) (fun k => ds.length - k.1) ⟨0, Nat.zero_le _⟩
    (Wk.tab [] ⟨⟨rfl, rfl⟩, ⟨rfl, rfl⟩, ⟨?_, rfl⟩, trivial⟩ ⟨rfl, trivial⟩ rfl) rfl ?_
  · show SV.iv (.int .i64 _) = SV.iv (.int .i64 ((ds.length : Int) - 1 - ((0 : Nat) : Int)))
    congr 2; omega
  rintro ⟨k, hk⟩
  show WY (cx J.top) _ F _ (mkA [(0, .yld l), (1, .ptr 0 0), (3, .iv (.int .i64 ((ds.length : Int) - 1 - (k : Int))))] [(0, .var (.sl (ds.map u32)))] 50) k _
  have hbl := back_len ds
  by_cases h : k < ds.length
  · refine WY.S ?_
    refine WY.RS hF (by kernel_rfl) ?_
    conv => whnf
    refine ⟨rfl, true, decide_eq_true (by omega), ?_⟩
    conv => whnf
    refine WY.condT rfl ?_
    refine WY.skip ?_
    conv => whnf
    refine WY.S ?_
    refine WY.block ?_
    refine WY.yieldS hF 6 rfl rfl rfl rfl ?_
    conv => whnf
    have hj : ((ds.length - 1 - k : Nat) : Int) = (ds.length : Int) - 1 - (k : Int) := by omega
    refine ⟨ds.length - 1 - k, u32 (ds.getD (ds.length - 1 - k) 0), hj.symm, getu (by omega), rfl, ?_⟩
    conv => whnf
    rw [← hj]
    refine ⟨rfl, back_get h, ?_⟩
    conv => whnf
    repeat (first | (refine WY.R hF (by kernel_rfl) ?_; conv => whnf) | (refine WY.skip ?_; conv => whnf) | (refine WY.condF rfl ?_) | (refine ⟨rfl, _, w64 (by omega), ?_⟩; conv => whnf) | (refine ⟨_, rfl, ?_⟩; conv => whnf))
    exact ⟨⟨k + 1, by omega⟩, Wk.tab [] ⟨⟨rfl, rfl⟩, ⟨rfl, rfl⟩, ⟨ivEq (by dsimp only; omega), rfl⟩, trivial⟩ ⟨rfl, trivial⟩ rfl, rfl, by dsimp only; omega⟩
  · refine WY.S ?_
    refine WY.RS hF (by kernel_rfl) ?_
    conv => whnf
    refine ⟨rfl, false, decide_eq_false (by omega), ?_⟩
    conv => whnf
    refine WY.condF rfl ?_
    refine WY.exit ?_
    conv => whnf
    show k = (back ds).length
    rw [hbl]; omega
end Go.Proofs.Fl
namespace Go.Proofs.Fl
open Go.RowKit Go.Proofs.Dig
attribute [local irreducible] IntKind.wrap PureC MutC MakC IterC
theorem back_two {ds : List Nat} : ∀ y ∈ back ds, y.length = 2 := by
  intro y hy
  obtain ⟨k, _, rfl⟩ := List.mem_map.1 hy
  rfl
theorem back_at {ds : List Nat} {k : Nat} (hk : k < (back ds).length) : (back ds)[k] = [.int .i64 ((ds.length - 1 - k : Nat) : Int), u32 (ds.getD (ds.length - 1 - k) 0)] := by
  have := back_get (ds := ds) (k := k) (by rw [back_len] at hk; exact hk)
  rw [List.getElem?_eq_getElem hk] at this
  exact Option.some.inj this
def hiN (ds : List Nat) (k : Nat) : Nat := nv B9 (ds.drop (ds.length - k))
theorem hiN_zero (ds : List Nat) : hiN ds 0 = 0 := by simp [hiN, nv]
theorem hiN_all (ds : List Nat) : hiN ds ds.length = nv B9 ds := by simp [hiN]
theorem hiN_succ {ds : List Nat} {k : Nat} (h : k < ds.length) : hiN ds (k + 1) = hiN ds k * 1000000000 + ds.getD (ds.length - 1 - k) 0 := by
  unfold hiN
  rw [List.drop_eq_getElem_cons (show ds.length - (k + 1) < ds.length by omega), nv_cons, show ds.length - (k + 1) + 1 = ds.length - k by omega]
  have e : ds.getD (ds.length - 1 - k) 0 = ds[ds.length - (k + 1)]'(by omega) := by
    rw [List.getD_eq_getElem?_getD, List.getElem?_eq_getElem (show ds.length - 1 - k < ds.length by omega)]
    simp [show ds.length - 1 - k = ds.length - (k + 1) by omega]
  rw [e, Nat.mul_comm]; exact Nat.add_comm _ _
end Go.Proofs.Fl
namespace Go.Proofs.Dig
def dig8 (k : Nat) : UInt8 := UInt8.ofNat (48 + k)
def padW : Nat → Nat → List UInt8
  | 0, _ => []
  | w + 1, n => padW w (n / 10) ++ [dig8 (n % 10)]
theorem padW_zero : ∀ w, padW w 0 = List.replicate w 48
  | 0 => rfl
  | w + 1 => by rw [padW, Nat.zero_div, padW_zero w, List.replicate_succ']; rfl
def decN (n : Nat) : List UInt8 := if n < 10 then [dig8 n] else decN (n / 10) ++ [dig8 (n % 10)]
theorem decN_small {n : Nat} (h : n < 10) : decN n = [dig8 n] := by rw [decN, if_pos h]
theorem decN_big {n : Nat} (h : 10 ≤ n) : decN n = decN (n / 10) ++ [dig8 (n % 10)] := by rw [decN, if_neg (by omega)]
theorem decN_ne (n : Nat) : decN n ≠ [] := by
  rw [decN]; split <;> simp
theorem decN_split {q r : Nat} (b : Nat) (hq : 0 < q) (hr : r < 10 ^ b) : decN (q * 10 ^ b + r) = decN q ++ padW b r := by
  induction b generalizing r with
  | zero => simp at hr; subst hr; simp [padW]
  | succ b ih =>
    have h1 : 10 ≤ q * 10 ^ (b + 1) + r := by
      have : 1 * 10 ^ (b + 1) ≤ q * 10 ^ (b + 1) := Nat.mul_le_mul_right _ hq
      have h2 : 10 ≤ 10 ^ (b + 1) := by
        have : 10 ^ 1 ≤ 10 ^ (b + 1) := Nat.pow_le_pow_right (by decide) (by omega)
        omega
      omega
    have e1 : (q * 10 ^ (b + 1) + r) / 10 = q * 10 ^ b + r / 10 := by
      rw [Nat.pow_succ, ← Nat.mul_assoc]; omega
    have e2 : (q * 10 ^ (b + 1) + r) % 10 = r % 10 := by
      rw [Nat.pow_succ, ← Nat.mul_assoc]; omega
    rw [decN_big h1, e1, e2, ih (by rw [Nat.pow_succ] at hr; omega), padW, List.append_assoc]
end Go.Proofs.Dig
namespace Go.Proofs.Fl
open Go.RowKit Go.Proofs.Dig
attribute [local irreducible] IntKind.wrap PureC MutC MakC IterC
def ztext (z : Int) : List UInt8 := (if z < 0 then [45] else []) ++ decN z.natAbs
end Go.Proofs.Fl
namespace Go.Proofs.Fl
open Go.RowKit
def RowJ (j : Nat) (w : World) (b R : Nat) : Prop := ∃ arr n cap T fr, w.heap[b]? = some (.cells arr T fr) ∧ arr[j]? = some (.slice (some ⟨R, 0, none⟩) n cap)
structure BldF (j b : Nat) (w w' : World) : Prop where
  os : w'.os = w.os
  tape : w'.tape = w.tape
  output : w'.output = w.output
  size : w.heap.size ≤ w'.heap.size
  block : ∀ k, k < w.heap.size → k ≠ b → ¬ RowJ j w b k → w'.heap[k]? = w.heap[k]?
  row : ∀ R, RowJ j w' b R → RowJ j w b R ∨ w.heap.size ≤ R
def BldC (P : Program) (f : FuncId) (s : List UInt8) (xs : List IV) (s' : List UInt8) (r : IV) : Prop :=
  (∃ fn, P.funcs[f]? = some fn ∧ (fn.name == "runtime.NumGoroutine") = false ∧ fn.body.isNone = false) ∧
  ∀ (H : Heap) (w : World) (b : Nat) (args : List Value), VRL H args xs → Lib.IsBuilderF bldT byteT 0 b (Lib.byteCells s) w →
    Calls P f (Value.pointer (some ⟨b, 0, none⟩) :: args).toArray w fun e w' => ∃ v, e = .returned v ∧ (∀ H, VR H v r) ∧ Lib.IsBuilderF bldT byteT 0 b (Lib.byteCells s') w' ∧ BldF 1 b w w'
theorem Sim.build {E : Env} {H : Heap} {β : Nat → Nat × Nat} {tm : Nat → SV} {bx : Nat → Option Bx} {tmps : Array Value} {w : World} (h : Sim E H β tm bx tmps w) {g : Nat} {s s' : Ow} (hj : s'.j = s.j) (hg : bx g = some (.bld s)) (hone : ∀ g' s', bx g' = some (.bld s') → g' = g) {w' : World}
    (hf : BldF s.j (β g).1 w w') (hb : OwnAt H w' (β g).1 s') : Sim E H β tm (upd bx g (some (.bld s'))) tmps w' := by
  obtain ⟨b1, b2, b3, b4⟩ := h.box g _ hg
  have hlt : (β g).1 < w.heap.size := (h.box g _ hg).lt rfl
  have hother : ∀ {g' b}, upd bx g (some (.bld s')) g' = some b → g' ≠ g → bx g' = some b := fun {g' b} e hne => by rwa [upd_other _ _ _ hne] at e
  have halive : ∀ {g' b}, upd bx g (some (.bld s')) g' = some b → b.alive = true → ∃ b0, bx g' = some b0 ∧ b0.alive = true := fun {g' b} e ha => by
    by_cases hne : g' = g
    · subst hne; exact ⟨_, hg, rfl⟩
    · exact ⟨b, hother e hne, ha⟩
  have hkeep : ∀ {g' b}, bx g' = some b → g' ≠ g → b.alive = true → w'.heap[(β g').1]? = w.heap[(β g').1]? := fun {g' b} e hne ha =>
    hf.block _ ((h.box g' b e).lt ha) (fun e' => hne (h.inj g' g b _ e hg ha rfl e')) (fun hR => h.hid g s g' b _ hg e ha hR rfl)
  refine ⟨fun b arr e => ?_, h.below.trans ⟨hf.os, hf.tape, hf.output, hf.size, fun k hk => ?_⟩, fun k hk => h.lo k (Nat.le_trans hf.size hk), h.ext, fun t => (h.slot t).mono (HLe.refl _) (fun g' b1 hg' => ?_), fun g' c1 hg' => ?_, fun g1 g2 c1 c2 e1 e2 a1 a2 he => ?_, fun p' k' hk' => ⟨(h.pin p' k' hk').1, upd_ne_none (h.pin p' k' hk').2.1, (h.pin p' k' hk').2.2⟩, ?_, fun g1 s1 g2 c2 R e1 e2 ha2 hR => ?_⟩
  · obtain ⟨t, fr, ht⟩ := h.has b arr e
    refine ⟨t, fr, (hf.block b (h.has.lt e) (fun e' => ?_) (fun hR => ?_)).trans ht⟩
    · rw [e', b2] at e; cases e
    · rw [(b4 b hR).2] at e; cases e
  · rcases Nat.lt_or_ge k w.heap.size with h1 | h1
    · exact hf.block k h1 (fun e => hk (by rw [e]; exact b1)) (fun hR => hk (b4 k hR).1)
    · exact absurd (h.lo k h1) hk
  · by_cases hne : g' = g
    · subst hne
      rw [hg] at hg'; simp at hg'; subst hg'
      exact ⟨.bld s', by show upd bx g' _ g' = _; rw [upd_same], trivial, rfl⟩
    · exact ⟨b1, by show upd bx g _ g' = _; rw [upd_other _ _ _ hne]; exact hg', shape.refl _, rfl⟩
  · by_cases hne : g' = g
    · subst hne
      have e' : Bx.bld s' = c1 := by
        have : upd bx g' (some (.bld s')) g' = some c1 := hg'
        rw [upd_same] at this; simpa using this
      subst e'
      refine ⟨b1, b2, hb, fun R hR => ?_⟩
      rcases hf.row R (by rw [← hj]; exact hR) with h1 | h1
      · exact b4 R h1
      · refine ⟨h.lo R h1, ?_⟩
        cases hx : H R with
        | none => rfl
        | some arr => have := h.has.lt hx; omega
    · have e' := hother hg' hne
      by_cases hal : c1.alive = true
      · exact (h.box g' c1 e').keep (hkeep e' hne hal) (HLe.refl _) id (fun s R eb _ => absurd (hone g' s (by rw [← eb]; exact e')) hne)
      · cases c1 <;> first | trivial | simp [Bx.alive] at hal
  · obtain ⟨d1, f1, f1'⟩ := halive e1 a1
    obtain ⟨d2, f2, f2'⟩ := halive e2 a2
    exact h.inj g1 g2 d1 d2 f1 f2 f1' f2' he
  · refine h.marks.keep fun D hD => hf.block D (Array.getElem?_eq_some_iff.1 hD).1 (fun e => ?_) (fun hR => ?_)
    · obtain ⟨arr, e', hc⟩ := (h.box g _ hg).cells rfl
      rw [← e, hD] at hc; cases hc
    · obtain ⟨_, _, arr, _, fz, hc⟩ := bld_row b3 hR
      rw [hD] at hc; cases hc
  · by_cases hne : g1 = g
    · subst hne
      obtain ⟨d2, f2, f2'⟩ := halive e2 ha2
      have e9 : s' = s1 := by
        have : upd bx g1 (some (.bld s')) g1 = some (.bld s1) := e1
        rw [upd_same] at this
        simpa using this
      rcases hf.row R (by rw [← hj, e9]; exact hR) with h1 | h1
      · exact h.hid g1 s g2 d2 R hg f2 f2' h1
      · have := (h.box g2 _ f2).lt f2'; omega
    · exact absurd (hone g1 s1 (hother e1 hne)) hne
theorem run_zeroV {P : Program} {t : TypeId} {i : TypeInfo} {z : Value} (h : P.info? t = some i) (hz : i.zero = some z) (w : World) : (zeroValue t).run P w = .ok z w := by simp [zeroValue, typeInfo, h, hz]
section
variable {X : Cx} {nt : Nat} {σ : AS} {K : Exit → AS → Prop}
theorem CW.build (n : Nat) {id : Nat} {all : Array Oper} {o : Oper} {fo p : Operand} {args : List Operand} {ats : Array TypeId} (ho : all.toList[n]? = some o) (hd : dstsOk nt all.toList = true) (hg : o.guard = none) (hop : o.op = .call { callee := .value fo, args := (p :: args).toArray, argTypes := ats })
    (h : opsP X.T X.C all (all.toList.take n) σ.nx σ.tm σ.bx [] fun tm bx _ => match evS tm fo, evS tm p, toIs bx (evS tm) args with
      | .iv (.fn f), .ptr g 0, some (xs, []) => ∃ s s' r, bx g = some (.bld (.str s)) ∧ (∀ g' s', bx g' = some (.bld s') → g' = g) ∧ BldC X.P f s xs s' r ∧
          opsP X.T X.C all (all.toList.drop (n + 1)) (σ.nx + n + 1) (putS tm o.dst (.iv r)) (upd bx g (some (.bld (.str s')))) [] fun tm bx _ => K .normal ⟨tm, bx, σ.nx + all.size⟩
      | _, _, _ => False) : CW X nt (.region id all false) σ K := by
  intro ro E Q hI hQ M H β a w hS
  refine wpIn_region_list ?_
  have hsplit : all.toList = all.toList.take n ++ o :: all.toList.drop (n + 1) := by
    have hlt := (List.getElem?_eq_some_iff.1 ho).1
    have he := (List.getElem?_eq_some_iff.1 ho).2
    have h1 := List.take_append_drop n all.toList
    rw [List.drop_eq_getElem_cons hlt, he] at h1
    exact h1.symm
  have hd1 : dstsOk nt (all.toList.take n) = true := by
    unfold dstsOk at hd ⊢
    rw [List.all_eq_true] at hd ⊢
    exact fun x hx => hd x (List.mem_of_mem_take hx)
  have hd2 : dstsOk nt (all.toList.drop (n + 1)) = true := by
    unfold dstsOk at hd ⊢
    rw [List.all_eq_true] at hd ⊢
    exact fun x hx => hd x (List.mem_of_mem_drop hx)
  have hdo : ∀ d, o.dst = some d → d < nt := dstsOk_spec hd (List.mem_of_getElem? ho)
  rw [hsplit]
  refine list_on (E := E.mks M) X.hT X.ok hI (fun H1 β1 tm bx log a1 w1 hk hS1 => ?_) hd1 hS h
  split at hk
  · rename_i f g xs hfo hp hargs
    obtain ⟨s, s', r, hbg, hone, ⟨⟨fn, hf1, hf2, hf3⟩, hc⟩, hk⟩ := hk
    have hv := ev_ok hS1.sim rfl fo
    rw [hfo] at hv
    have e1 := VR.asFn hv
    have hvp := ev_ok hS1.sim rfl p
    rw [hp] at hvp
    obtain ⟨_, hpv⟩ := hvp
    obtain ⟨H2, hle, S2, V2⟩ := toIs_ok (a := a1) rfl hS1.sim hargs
    have hcall := hc H2 w1 (β1 g).1 (args.map a1.eval) V2 (S2.box g _ hbg).2.2.1
    rw [← hpv] at hcall
    have hrun : (execOp a1.eval o).run X.P w1 = .ok (.enter f (a1.eval p :: args.map a1.eval).toArray) w1 := by
      simp only [execOp, hop, resolve, e1, Deferred.ofValue, Sem.run_bind, Sem.run_pure, Result.andThen_ok, invoke, callFunc, run_program, hf1, hf2, hf3, Bool.false_eq_true, if_false]
      congr 2
      apply Array.ext'
      simp
    unfold wpListIn
    simp only [Region.wanted, hg, if_true]
    refine op_in (fun c hc => by rw [hop] at hc; cases hc) ?_
    unfold Oper.wp
    rw [hrun]
    refine hcall.mono ?_
    rintro e w2 ⟨v, rfl, hvr, hb2, hf2⟩
    have T : St (E.mks M) nt H2 β1 (putS tm o.dst (.iv r)) (upd bx g (some (.bld (.str s')))) (a1.put o.dst v) w2 := St.put ⟨S2.build (bx := bx) (g := g) (s := .str s) (s' := .str s') rfl hbg hone hf2 hb2, hS1.defers, hS1.size⟩ hdo (r := .iv r) (hvr H2)
    have := list_on (rest := []) (Q := Q) (ro := ro.1) (E := E.mks M) X.hT X.ok hI (all := all) (K := fun tm bx _ => K .normal ⟨tm, bx, σ.nx + all.size⟩) (fun H4 β4 tm bx log a4 w4 hk4 hS4 => hQ .normal _ M H4 β4 a4 w4 hk4 hS4) hd2 T hk
    rw [List.append_nil] at this; exact this
  · exact hk.elim
theorem CW.newBld {id : Nat} {o : Oper} {d : Nat} (hd : d < nt) (hdst : o.dst = some d) (hg : o.guard = none) (hop : o.op = .alloc bldT) {i : TypeInfo} (hinfo : X.P.info? bldT = some i) (hz : i.zero = some (.agg #[.pointer none, .slice none 0 0]))
    (hb : σ.bx σ.nx = none) (h : K .normal ⟨upd σ.tm d (.ptr σ.nx 0), upd σ.bx σ.nx (some (.bld (.str []))), σ.nx + 1⟩) : CW X nt (.region id #[o] false) σ K := by
  intro ro E Q hI hQ M H β a w hS
  refine wpIn_region_list ?_
  show wpListIn (FW ro.1) 0 X.P #[o] Q [o] a w
  unfold wpListIn
  simp only [Region.wanted, hg, if_true]
  refine op_in (fun c hc => by rw [hop] at hc; cases hc) ?_
  have hS1 := hS.sim.newBlock hb (b := .bld (.str [])) (cap := 0) (arr := #[.pointer none, .slice none 0 0]) (e := bldT) (fun w' hw hn hlo => ⟨hlo, hn, .inl ⟨Nat.zero_le _, _, hw, ⟨rfl, .inl ⟨rfl, rfl⟩⟩, by simp [Value.ownBlock]⟩, fun R hR => by
      obtain ⟨arr, n, cap, T, fr, e, e'⟩ := hR
      rw [hw] at e; simp at e; obtain ⟨rfl, _⟩ := e; simp [Ow.j] at e'⟩) (fun s R w' es hw hR => by
      obtain ⟨arr, n, cap, T, fr, e, e'⟩ := hR
      cases es
      rw [hw] at e; simp at e; obtain ⟨rfl, _⟩ := e; simp [Ow.j] at e')
  have hT := St.put (H := H) (a := a) ⟨hS1, hS.defers, hS.size⟩ (dst := o.dst) (fun d' hd' => by rw [hdst] at hd'; cases hd'; exact hd) (r := .ptr σ.nx 0) (v := .pointer (some ⟨w.heap.size, 0, none⟩)) ⟨by rw [upd_same]; simp, by rw [upd_same]⟩
  have hrun : (execOp a.eval o).run X.P w = .ok (.value (.pointer (some ⟨w.heap.size, 0, none⟩))) (w.alloc (.cells #[.pointer none, .slice none 0 0] bldT)) := by
    simp only [execOp, hop, Instr.alloc, Sem.run_bind, run_zeroV hinfo hz, Result.andThen_ok, newVar, newRow, run_newObj, Sem.run_pure]; rfl
  unfold Oper.wp
  rw [hrun]
  show wpListIn (FW ro.1) 0 X.P #[o] Q [] (a.put o.dst _) _
  unfold wpListIn
  rw [hdst] at hT ⊢
  exact hQ .normal _ M H _ _ _ h hT
end
end Go.Proofs.Fl
namespace Go.Proofs.Fl
open Go.RowKit Go.Shelf
section
variable {P : Program} (w : World)
theorem run_append_bytes (base : Nat) (t u ty e : TypeId) (i : TypeInfo) (ht : P.underlying t = some (.slice e)) (hu : P.underlying u = some .string) (hi : P.info? e = some i) (hz : i.zero = some (.int .u8 0))
    (hsize : i.size = 1) (hby : i.bytes = 1)
    (v : Value) (n : Nat) (xs : List Value) (hown : w.ownsRowF base e 1 v n xs) (s : ByteArray)
    (h63 : n + s.size ≤ maxLen) (hbytes : n + s.size ≤ 140737488355328) (hbase : base ≤ w.heap.size) :
    ∃ v' w', (Builtin.append_ #[t, u] ty #[v, .string s]).run P w = .ok v' w' ∧ w'.ownsRowF base e 1 v' (n + s.size) (xs ++ Lib.strCells s) ∧ w.grownBy w' v.ownBlock ∧ (∀ R, v'.ownBlock = some R → v.ownBlock = some R ∨ w.heap.size ≤ R) := by
  rcases hown.2 with ⟨rfl, rfl⟩ | ⟨g, cap, cur, fz, rfl, hbg, hg, hfz, hnc, hcm, hcs, htake⟩
  · obtain ⟨v', w', h1, h2, h3, h4⟩ := Lib.run_append_own_stringF (P := P) w w.heap.size t u ty e i ht hu hi hz hsize hby (.slice none 0 0) 0 xs ⟨hown.1, .inl ⟨rfl, rfl⟩⟩ s h63 hbytes (Nat.le_refl _)
    refine ⟨v', w', h1, ⟨h2.1, ?_⟩, h3, fun R hR => ?_⟩
    · rcases h2.2 with h | ⟨g, cap, cur, fz, e1, e2, e3⟩
      · exact .inl h
      · exact .inr ⟨g, cap, cur, fz, e1, by omega, e3⟩
    · rcases h2.2 with ⟨rfl, _⟩ | ⟨g, cap, cur, fz, rfl, e2, _⟩
      · cases hR
      · cases hR; exact .inr e2
  · have hxl : xs.length = n := by simpa using hown.1
    have hlen : (xs ++ Lib.strCells s).length = (n + s.size) * 1 := by rw [List.length_append, hxl, Lib.strCells_length, Nat.mul_one]
    by_cases hroom : n + s.size ≤ cap
    · have hcs' : cur.size = cap := by simpa using hcs
      have hr := Lib.run_append_room_stringF (P := P) w t u ty e i ht hu hi hsize g n cap cur fz hg (by simpa using hfz) s hroom (by omega)
      refine ⟨_, _, hr, ⟨hlen, .inr ⟨g, cap, _, fz, rfl, hbg, setRow_heap w g cur _ e _ hg, by omega, hroom, hcm, ?_, ?_⟩⟩, ⟨rfl, rfl, rfl, by simp, fun k _ hk => setRow_other w g k _ (fun e => hk (by simp [Value.ownBlock, e]))⟩, fun R hR => .inl hR⟩
      · simp only [List.size_toArray, List.length_append, List.length_take, List.length_drop, Array.length_toList, Lib.strCells_length]
        omega
      · have ht' : cur.toList.take n = xs := by simpa using htake
        rw [ht', ← hlen]
        exact List.take_left
    · have holds : ∀ j u, xs[j]? = some u → w.cell? ((⟨g, 0, none⟩ : Addr).add j) = some u := hown.cells (g := g) rfl
      have hsmall : n + s.size ≤ 9223372036854775807 := by simp only [maxLen] at h63; omega
      have hr := Lib.run_append_grow_string (P := P) w t u ty e i (.int .u8 0) ht hu hi hz ⟨g, 0, none⟩ n cap xs (by rw [hsize]; simpa using hxl) holds s (by omega) (by omega) (by rw [hby]; exact growslice_fits (by omega) (by omega))
      have hge := grownCap_ge w (n + s.size) cap e
      have hcm2 : grownCap w (n + s.size) cap e ≤ maxLen := grownCap_le_maxLen w (n + s.size) cap e h63
      refine ⟨_, _, hr, ⟨hlen, .inr ⟨w.heap.size, _, _, (0, 0), rfl, hbase, heap_alloc_new w.drew _, Nat.zero_le _, hge, hcm2, ?_, ?_⟩⟩, ⟨rfl, rfl, rfl, by simp, fun k hk _ => heap_alloc_old w.drew _ hk⟩, fun R hR => ?_⟩
      · have hz1 : (Value.int IntKind.u8 0).cells.size = 1 := rfl
        simp only [Array.size_append, List.size_toArray, size_zeroCells, hz1, hxl, Lib.strCells_length]
        omega
      · simp only [Array.toList_append, List.append_assoc]
        rw [← List.append_assoc, ← hlen]
        exact List.take_left
      · have hR : some w.heap.size = some R := hR
        cases hR; exact .inr (Nat.le_refl _)
theorem wpList_append_bytes {w : World} {ops : Array Oper} {rest : List Oper} {o : Oper} {a : Act} {Q : Exit → Act → World → Prop} (hgd : o.guard = none) (sl x : Operand) (t u : TypeId)
    (ho : o.op = .call { callee := .builtin .append, args := #[sl, x], argTypes := #[t, u] })
    (base : Nat) (e : TypeId) (i : TypeInfo) (ht : P.underlying t = some (.slice e)) (hu : P.underlying u = some .string) (hi : P.info? e = some i) (hz : i.zero = some (.int .u8 0))
    (hsize : i.size = 1) (hby : i.bytes = 1)
    (v : Value) (n : Nat) (xs : List Value) (hs : a.eval sl = v) (hown : w.ownsRowF base e 1 v n xs) (s : ByteArray) (hx : a.eval x = .string s)
    (h63 : n + s.size ≤ maxLen) (hbytes : n + s.size ≤ 140737488355328) (hbase : base ≤ w.heap.size)
    (h : ∀ v' w', w'.ownsRowF base e 1 v' (n + s.size) (xs ++ Lib.strCells s) → w.grownBy w' v.ownBlock → (∀ R, v'.ownBlock = some R → v.ownBlock = some R ∨ w.heap.size ≤ R) → wpList P ops Q rest (a.put o.dst v') w') : wpList P ops Q (o :: rest) a w := by
  refine wpList_plain hgd fun K hK => ?_
  obtain ⟨v', w', hr, h2, h3, h4⟩ := run_append_bytes (P := P) w base t u o.type e i ht hu hi hz hsize hby v n xs hown s h63 hbytes hbase
  unfold Oper.wp execOp
  simp only [ho, resolve, invoke, builtin, Sem.run_bind, Sem.run_pure, Result.andThen_ok, List.map_toArray, List.map_cons, List.map_nil, hs, hx, hr]
  exact hK _ _ (h v' w' h2 h3 h4)
end
theorem BldF.refl (j b : Nat) (w : World) : BldF j b w w := ⟨rfl, rfl, rfl, Nat.le_refl _, fun _ _ _ _ => rfl, fun _ h => .inl h⟩
theorem rowAt_own {w : World} {b R : Nat} {p v : Value} {T : TypeId} {fr : Nat × Nat} (hb : w.heap[b]? = some (.cells #[p, v] T fr)) (hR : RowJ 1 w b R) : v.ownBlock = some R := by
  obtain ⟨arr, n, cap, T', fr', e, e'⟩ := hR
  rw [hb] at e; simp at e
  obtain ⟨rfl, _⟩ := e
  simp at e'
  rw [e']; rfl
theorem rowAt_of {w : World} {b R n cap : Nat} {p : Value} {T : TypeId} {fr : Nat × Nat} (hb : w.heap[b]? = some (.cells #[p, .slice (some ⟨R, 0, none⟩) n cap] T fr)) : RowJ 1 w b R := ⟨_, _, _, _, _, hb, rfl⟩
variable {P : Program} {ρ : Ren}
theorem copyCheck_b (L : Lays.n240 P ρ) (X : Builder.X72 P ρ) (B b : Nat) (bs : List Value) (w : World) (h : Lib.IsBuilderF (ρ.t 72) (ρ.t 5) B b bs w) :
    Calls P (ρ.f 240) #[.pointer (some ⟨b, 0, none⟩)] w fun e w' => e = .returned (.tuple #[]) ∧ Lib.BuilderAtF (ρ.t 72) (ρ.t 5) B b (.pointer (some ⟨b, 0, none⟩)) bs w' ∧ BldF 1 b w w' ∧ w'.heap.size = w.heap.size := by
  rcases h with h | h
  · have hh := h
    obtain ⟨hB, v, hbk, hown, hne⟩ := hh
    refine (Any.Builder_copyCheck_fresh L X b w h.cell0 h.shape h.frozen0).mono ?_
    rintro e w' ⟨rfl, rfl⟩
    have hb2 : (w.setCell ⟨b, 0, none⟩ (.pointer (some ⟨b, 0, none⟩))).heap[b]? = some (.cells #[.pointer (some ⟨b, 0, none⟩), v] (ρ.t 72) (0, 0)) := by simp [World.setCell, Array.getElem?_modify, hbk]
    refine ⟨rfl, h.used _, ⟨rfl, rfl, rfl, by simp [World.setCell], fun k _ hk _ => Below.heap_setCell _ _ _ _ hk, fun R hR => ?_⟩, by simp [World.setCell]⟩
    have := rowAt_own hb2 hR
    rcases hown.2 with ⟨rfl, _⟩ | ⟨g, cap, cur, fz, rfl, _⟩
    · cases this
    · cases this; exact .inl (rowAt_of hbk)
  · refine (Any.Builder_copyCheck_used L X b w h.cell0).mono ?_
    rintro e w' ⟨rfl, rfl⟩
    exact ⟨rfl, h, BldF.refl _ _ _, rfl⟩
set_option maxHeartbeats 2000000 in
set_option maxRecDepth 100000 in
theorem writeString_b (L : Lays.n166 P ρ) (X : Builder.Extra P ρ) (B b : Nat) (bs : List Value) (s : ByteArray) (w : World) (h : Lib.IsBuilderF (ρ.t 72) (ρ.t 5) B b bs w) (hlen : bs.length + s.size ≤ 140737488355328) (hBw : B ≤ w.heap.size) :
    Calls P (ρ.f 166) #[.pointer (some ⟨b, 0, none⟩), .string s] w fun e w' => e = .returned (.tuple #[.int .i64 s.size, .nilIface]) ∧ Lib.BuilderAtF (ρ.t 72) (ρ.t 5) B b (.pointer (some ⟨b, 0, none⟩)) (bs ++ Lib.strCells s) w' ∧ BldF 1 b w w' := by
  obtain ⟨i0, hi, hz0, hz1, hz2⟩ := info_parts X.infoByte
  have mixed := L.mixed
  have t72 := L.t72; have a72 := L.a72; have z72 := L.z72; have v72 := L.v72; have u72 := run_underlying L.t72
  have t70 := L.t70; have a70 := L.a70; have z70 := L.z70; have v70 := L.v70; have u70 := run_underlying L.t70
  have t37 := L.t37; have a37 := L.a37; have z37 := L.z37; have v37 := L.v37; have u37 := run_underlying L.t37
  have t3 := L.t3; have a3 := L.a3; have z3 := L.z3; have v3 := L.v3; have u3 := run_underlying L.t3
  have t9 := L.t9; have a9 := L.a9; have z9 := L.z9; have v9 := L.v9; have u9 := run_underlying L.t9
  have t4 := L.t4; have a4 := L.a4; have z4 := L.z4; have v4 := L.v4; have u4 := run_underlying L.t4
  have t164 := L.t164; have a164 := L.a164; have z164 := L.z164; have v164 := L.v164; have u164 := run_underlying L.t164
  have t5 := X.t5; have a5 := X.a5; have z5 := X.z5; have v5 := X.v5; have u5 := run_underlying X.t5
  have e240 : ∀ args w, (callFunc (ρ.f 240) args).run P w = .ok (.enter (ρ.f 240) args) w := enters_of L.f240 (by kernel_rfl) rfl
  obtain ⟨p0, v0, hb0, hown0, _⟩ : ∃ p v, w.heap[b]? = some (.cells #[p, v] (ρ.t 72) (0, 0)) ∧ w.ownsRowF B (ρ.t 5) 1 v bs.length bs ∧ v.ownBlock ≠ some b := by
    rcases h with ⟨_, v, h1, h2⟩ | ⟨_, v, h1, h2⟩
    · exact ⟨_, v, h1, h2⟩
    · exact ⟨_, v, h1, h2⟩
  go_enter L.f166, Body.n166_ntmps ρ
  go_wp2_with (go_at_fn (ρ.f 240); refine (copyCheck_b { L with } X.toX72 B b bs _ h).mono ?_)
  rintro e w1 ⟨rfl, h1, hf1, hs1⟩
  obtain ⟨hB, v, hbk, hown, hne⟩ := h1
  have c0 : w1.cell? ⟨b, 0, none⟩ = some (.pointer (some ⟨b, 0, none⟩)) := by rw [Lib.cell_of_heap hbk]; rfl
  have c1 : w1.cell? ⟨b, 1, none⟩ = some v := by rw [Lib.cell_of_heap hbk]; rfl
  go_wp2_with (at_builtin; refine wpList_append_bytes rfl _ _ (ρ.t 37) (ρ.t 9) rfl B (ρ.t 5) i0 L.t37 L.t9 hi hz0 hz1 hz2 _ _ _ rfl hown s rfl ?c3 ?c4 ?c5 ?_)
  case c3 => unfold maxLen; omega
  case c4 => omega
  case c5 => rw [hs1]; exact hBw
  intro v' w2 hown' hgrow hrow'
  have hlt : b < w1.heap.size := by
    rcases Nat.lt_or_ge b w1.heap.size with h' | h'
    · exact h'
    · simp [Array.getElem?_eq_none h'] at hbk
  have hb2 : w2.heap[b]? = some (.cells #[.pointer (some ⟨b, 0, none⟩), v] (ρ.t 72) (0, 0)) := by
    rw [hgrow.block b hlt (fun e => hne e.symm)]
    exact hbk
  have d0 : w2.cell? ⟨b, 0, none⟩ = some (.pointer (some ⟨b, 0, none⟩)) := by rw [Lib.cell_of_heap hb2]; rfl
  have d1 : w2.cell? ⟨b, 1, none⟩ = some v := by rw [Lib.cell_of_heap hb2]; rfl
  have f1 : w2.frozen? ⟨b, 1, none⟩ = false := Lib.frozen_of_heap hb2 1
  obtain ⟨ao, n', cap, rfl⟩ : ∃ ao n' cap, v' = .slice ao n' cap := by
    rcases hown'.2 with ⟨hv, _⟩ | ⟨g, cap, cur, fz, hv, _⟩
    · exact ⟨_, _, _, hv⟩
    · exact ⟨_, _, _, hv⟩
  have hrw : ∀ R, v.ownBlock = some R → RowJ 1 w1 b R := fun R hR => by
    rcases hown.2 with ⟨rfl, _⟩ | ⟨g, cap, cur, fz, rfl, _⟩
    · cases hR
    · cases hR; exact rowAt_of hbk
  go_wp2
  go_ret2
  refine ⟨rfl, Lib.BuilderAtF.put (T := (ρ.t 72)) (e := (ρ.t 5)) hB hb2 (bs' := bs ++ Lib.strCells s) (by simpa [Lib.strCells_length] using hown') X.neB5, ?_⟩
  have hb3 : (w2.setCell ⟨b, 1, none⟩ (.slice ao n' cap)).heap[b]? = some (.cells #[.pointer (some ⟨b, 0, none⟩), .slice ao n' cap] (ρ.t 72) (0, 0)) := by simp [World.setCell, Array.getElem?_modify, hb2]
  refine ⟨?_, ?_, ?_, ?_, fun k hk hkb hkr => ?_, fun R hR => ?_⟩
  · exact hgrow.os.trans hf1.os
  · exact hgrow.tape.trans hf1.tape
  · exact hgrow.output.trans hf1.output
  · have := hgrow.size; simp [World.setCell]; omega
  · refine (Below.heap_setCell _ _ _ _ hkb).trans ((hgrow.block k (by omega) (fun e => ?_)).trans (hf1.block k hk hkb hkr))
    exact hkr (((hf1.row k (hrw k e.symm))).resolve_right (by omega))
  · rcases hrow' R (rowAt_own hb3 hR) with h2 | h2
    · exact hf1.row R (hrw R h2)
    · exact .inr (by omega)
set_option maxHeartbeats 1000000 in
set_option maxRecDepth 100000 in
theorem string_b (L : Lays.n169 P ρ) (X : Builder.Extra P ρ) (B b : Nat) (l : List UInt8) (w : World) (h : Lib.IsBuilderF (ρ.t 72) (ρ.t 5) B b (Lib.byteCells l) w) (h0 : l ≠ []) :
    Calls P (ρ.f 169) #[.pointer (some ⟨b, 0, none⟩)] w fun e w' => e = .returned (.string ⟨l.toArray⟩) ∧ Lib.IsBuilderF (ρ.t 72) (ρ.t 5) B b (Lib.byteCells l) w' ∧ BldF 1 b w w' := by
  obtain ⟨p, hp, hAt⟩ : ∃ p, (p = .pointer none ∨ p = .pointer (some ⟨b, 0, none⟩)) ∧ Lib.BuilderAtF (ρ.t 72) (ρ.t 5) B b p (Lib.byteCells l) w := by
    rcases h with h | h
    · exact ⟨_, .inl rfl, h⟩
    · exact ⟨_, .inr rfl, h⟩
  obtain ⟨hB, v, hbk, hown, hne⟩ := hAt
  have hl0 : l.length ≠ 0 := by simpa using h0
  rw [Lib.byteCells_length] at hown
  obtain ⟨g, cap, cur, fz, rfl, hbg, hg, hfz, hnc, hcm, hcs, htake⟩ : ∃ g cap cur fz, v = .slice (some ⟨g, 0, none⟩) l.length cap ∧ B ≤ g ∧ w.heap[g]? = some (.cells cur (ρ.t 5) fz) ∧ fz.2 ≤ l.length * 1 ∧ l.length ≤ cap ∧ cap ≤ maxLen ∧ cur.size = cap * 1 ∧ cur.toList.take (l.length * 1) = Lib.byteCells l := by
    rcases hown.2 with ⟨_, hz⟩ | ⟨g, cap, cur, fz, hv, r⟩
    · exact absurd hz hl0
    · exact ⟨g, cap, cur, fz, hv, r⟩
  have c1 : w.drew.cell? ⟨b, 1, none⟩ = some (.slice (some ⟨g, 0, none⟩) l.length cap) := by
    have : w.drew.heap[b]? = some (.cells #[p, .slice (some ⟨g, 0, none⟩) l.length cap] (ρ.t 72) (0, 0)) := hbk
    rw [Lib.cell_of_heap this]; rfl
  have hSD : (Builtin.unsafeSliceData_ #[(ρ.t 37)] (ρ.t 127) #[.slice (some ⟨g, 0, none⟩) l.length cap]).run P w.drew = .ok (.pointer (some ⟨g, 0, none⟩)) w.drew :=
    Lib.run_unsafeSliceData_row _ _ _ _ _ _ (by omega)
  have hUS : (Builtin.unsafeString_ #[(ρ.t 127), (ρ.t 3)] (ρ.t 9) #[.pointer (some ⟨g, 0, none⟩), .int .i64 l.length]).run P w.drew = .ok (.string ⟨l.toArray⟩) (w.drew.freeze ⟨g, 0, none⟩ l.length) := by
    refine Lib.run_unsafeString_row w.drew (ρ.t 127) (ρ.t 3) (ρ.t 9) (ρ.t 5) L.t127 X.cellsByte g cur.size (by have hg' : w.drew.heap[g]? = some (.cells cur (ρ.t 5) fz) := hg; simp [World.shape?, hg']) l h0 (by omega) (by unfold maxLen at hcm; omega) ?_
    intro j x hx
    have := hown.cells (g := g) rfl j (.int .u8 x.toNat) (by simp [Lib.byteCells, hx])
    exact this
  have hkeep : Lib.IsBuilderF (ρ.t 72) (ρ.t 5) B b (Lib.byteCells l) (w.drew.freeze ⟨g, 0, none⟩ l.length) := by
    have hA : Lib.BuilderAtF (ρ.t 72) (ρ.t 5) B b p (Lib.byteCells l) w.drew := ⟨hB, _, hbk, by rw [Lib.byteCells_length]; exact hown, hne⟩
    have hF := hA.froze (g := g) (cap := cap) (by rw [Lib.byteCells_length]; exact c1)
    rw [Lib.byteCells_length] at hF
    rcases hp with rfl | rfl
    · exact .inl hF
    · exact .inr hF
  have hgb : b ≠ g := fun e => hne (by simp [Value.ownBlock, e])
  have hother : ∀ k, k ≠ g → (w.drew.freeze ⟨g, 0, none⟩ l.length).heap[k]? = w.heap[k]? := fun k hk => by
    unfold World.freeze
    rw [if_neg hl0]
    simp only [Array.getElem?_modify]
    rw [if_neg (fun e => hk e.symm)]
    rfl
  have hframe : BldF 1 b w (w.drew.freeze ⟨g, 0, none⟩ l.length) := by
    refine ⟨?_, ?_, ?_, ?_, fun k _ _ hkr => hother k (fun e => hkr (e ▸ rowAt_of hbk)), fun R ⟨arr, n, cap, T, fr, e, e'⟩ => .inl ⟨arr, n, cap, T, fr, (hother b hgb).symm.trans e, e'⟩⟩
    · unfold World.freeze; rw [if_neg hl0]; rfl
    · unfold World.freeze; rw [if_neg hl0]; rfl
    · unfold World.freeze; rw [if_neg hl0]; rfl
    · unfold World.freeze; rw [if_neg hl0]; show w.heap.size ≤ (Array.modify w.heap g _).size; rw [Array.size_modify]; exact Nat.le_refl _
  have mixed := L.mixed
  have t72 := L.t72; have a72 := L.a72; have z72 := L.z72; have v72 := L.v72; have u72 := run_underlying L.t72
  have t70 := L.t70; have a70 := L.a70; have z70 := L.z70; have v70 := L.v70; have u70 := run_underlying L.t70
  have t37 := L.t37; have a37 := L.a37; have z37 := L.z37; have v37 := L.v37; have u37 := run_underlying L.t37
  have t127 := L.t127; have a127 := L.a127; have z127 := L.z127; have v127 := L.v127; have u127 := run_underlying L.t127
  have t3 := L.t3; have a3 := L.a3; have z3 := L.z3; have v3 := L.v3; have u3 := run_underlying L.t3
  have t9 := L.t9; have a9 := L.a9; have z9 := L.z9; have v9 := L.v9; have u9 := run_underlying L.t9
  have t5 := X.t5; have a5 := X.a5; have z5 := X.z5; have v5 := X.v5; have u5 := run_underlying X.t5
  go_enter L.f169, Body.n169_ntmps ρ
  go_wp2
  go_region_o
  all_goals (go_wp2; go_ret; exact ⟨rfl, hkeep, hframe⟩)
end Go.Proofs.Fl
namespace Go.Proofs
open Go.Shelf
def Tryz.laysM246_ren : Go.Shelf.Ren := ⟨fun | 246 => 175 | 283 => 188 | 284 => 189 | 285 => 190 | 286 => 191 | 129 => 195 | 317 => 194 | 318 => 196 | 319 => 197 | 320 => 198 | 337 => 199 | 338 => 200 | n => n, fun | 2 => 2 | 3 => 3 | 9 => 9 | 4 => 4 | 171 => 203 | 0 => 0 | 53 => 85 | 37 => 143 | 5 => 5 | 173 => 206 | 212 => 211 | 51 => 84 | 20 => 20 | 213 => 212 | 46 => 177 | 232 => 215 | 233 => 216 | n => n, fun | 17 => 0 | 18 => 2 | 19 => 3 | n => n⟩
def Tryz.laysM243_ren : Go.Shelf.Ren := ⟨fun | 243 => 150 | 246 => 175 | 283 => 188 | 284 => 189 | 285 => 190 | 286 => 191 | 129 => 195 | 317 => 194 | 318 => 196 | 319 => 197 | 320 => 198 | 337 => 199 | 338 => 200 | n => n, fun | 3 => 3 | 9 => 9 | 2 => 2 | 4 => 4 | 171 => 203 | 0 => 0 | 53 => 85 | 37 => 143 | 5 => 5 | 173 => 206 | 212 => 211 | 51 => 84 | 20 => 20 | 213 => 212 | 46 => 177 | 232 => 215 | 233 => 216 | n => n, fun | 17 => 0 | 18 => 2 | 19 => 3 | n => n⟩
def Tryz.laysM171_ren : Go.Shelf.Ren := ⟨fun | 171 => 109 | 243 => 150 | 246 => 175 | 283 => 188 | 284 => 189 | 285 => 190 | 286 => 191 | 129 => 195 | 317 => 194 | 318 => 196 | 319 => 197 | 320 => 198 | 337 => 199 | 338 => 200 | n => n, fun | 3 => 3 | 9 => 9 | 2 => 2 | 4 => 4 | 171 => 203 | 0 => 0 | 53 => 85 | 37 => 143 | 5 => 5 | 173 => 206 | 212 => 211 | 51 => 84 | 20 => 20 | 213 => 212 | 46 => 177 | 232 => 215 | 233 => 216 | n => n, fun | 17 => 0 | 18 => 2 | 19 => 3 | n => n⟩
theorem Tryz.laysM171 : Go.Proofs.LaysM.n171 Tryz.prog Tryz.laysM171_ren := {
  mixed := by kernel_rfl
  f129 := Tryz.func195.trans (congrArg some (by kernel_rfl))
  f171 := Tryz.func109.trans (congrArg some (by kernel_rfl))
  f243 := Tryz.func150.trans (congrArg some (by kernel_rfl))
  f246 := Tryz.func175.trans (congrArg some (by kernel_rfl))
  f283 := Tryz.func188.trans (congrArg some (by kernel_rfl))
  f284 := Tryz.func189.trans (congrArg some (by kernel_rfl))
  f285 := Tryz.func190.trans (congrArg some (by kernel_rfl))
  f286 := Tryz.func191.trans (congrArg some (by kernel_rfl))
  f317 := Tryz.func194.trans (congrArg some (by kernel_rfl))
  f318 := Tryz.func196.trans (congrArg some (by kernel_rfl))
  f319 := Tryz.func197.trans (congrArg some (by kernel_rfl))
  f320 := Tryz.func198.trans (congrArg some (by kernel_rfl))
  f337 := Tryz.func199.trans (congrArg some (by kernel_rfl))
  f338 := Tryz.func200.trans (congrArg some (by kernel_rfl))
  t0 := Tryz.underlying0
  a0 := Tryz.isAgg0
  z0 := Tryz.sizeOf0
  v0 := Tryz.zeroValue0
  t2 := Tryz.underlying2
  a2 := Tryz.isAgg2
  z2 := Tryz.sizeOf2
  v2 := Tryz.zeroValue2
  t3 := Tryz.underlying3
  a3 := Tryz.isAgg3
  z3 := Tryz.sizeOf3
  v3 := Tryz.zeroValue3
  t4 := Tryz.underlying4
  a4 := Tryz.isAgg4
  z4 := Tryz.sizeOf4
  v4 := Tryz.zeroValue4
  t5 := Tryz.underlying5
  a5 := Tryz.isAgg5
  z5 := Tryz.sizeOf5
  v5 := Tryz.zeroValue5
  t9 := Tryz.underlying9
  a9 := Tryz.isAgg9
  z9 := Tryz.sizeOf9
  v9 := Tryz.zeroValue9
  t20 := Tryz.underlying20
  a20 := Tryz.isAgg20
  z20 := Tryz.sizeOf20
  v20 := Tryz.zeroValue20
  t37 := Tryz.underlying143
  a37 := Tryz.isAgg143
  z37 := Tryz.sizeOf143
  v37 := Tryz.zeroValue143
  t46 := Tryz.underlying177
  a46 := Tryz.isAgg177
  z46 := Tryz.sizeOf177
  v46 := Tryz.zeroValue177
  t51 := Tryz.underlying84
  a51 := Tryz.isAgg84
  z51 := Tryz.sizeOf84
  v51 := Tryz.zeroValue84
  t53 := Tryz.underlying85
  a53 := Tryz.isAgg85
  z53 := Tryz.sizeOf85
  v53 := Tryz.zeroValue85
  t171 := Tryz.underlying203
  a171 := Tryz.isAgg203
  z171 := Tryz.sizeOf203
  v171 := Tryz.zeroValue203
  t173 := Tryz.underlying206
  a173 := Tryz.isAgg206
  z173 := Tryz.sizeOf206
  v173 := Tryz.zeroValue206
  t212 := Tryz.underlying211
  a212 := Tryz.isAgg211
  z212 := Tryz.sizeOf211
  v212 := Tryz.zeroValue211
  t213 := Tryz.underlying212
  a213 := Tryz.isAgg212
  z213 := Tryz.sizeOf212
  t232 := Tryz.underlying215
  a232 := Tryz.isAgg215
  z232 := Tryz.sizeOf215
  v232 := Tryz.zeroValue215
  t233 := Tryz.underlying216
  a233 := Tryz.isAgg216
  z233 := Tryz.sizeOf216
  v233 := Tryz.zeroValue216
  g17 := by kernel_rfl
  g18 := by kernel_rfl
  g19 := by kernel_rfl
  i0 := by kernel_rfl
  i2 := by kernel_rfl
  i3 := by kernel_rfl
  i4 := by kernel_rfl
  i5 := by kernel_rfl
  i9 := by kernel_rfl
  i20 := by kernel_rfl
  i37 := by kernel_rfl
  i46 := by kernel_rfl
  i51 := by kernel_rfl
  i53 := by kernel_rfl
  i171 := by kernel_rfl
  i173 := by kernel_rfl
  i212 := by kernel_rfl
  i232 := by kernel_rfl
  i233 := by kernel_rfl
  m17 := by kernel_rfl
  m18 := by kernel_rfl
  m19 := by kernel_rfl }
open Go.RowKit Go.Sort Go.Lib in
theorem Tryz.strconv_Itoa (n : Int) (h0 : -9223372036854775808 ≤ n) (h1 : n ≤ 9223372036854775807) (w : World) (htab : Lib.TabIs Tryz.prog w "internal/strconv.uint64pow10" .u64 Lib.pow10Tab) :
    Calls Tryz.prog 109 #[.int .i64 n] w fun e w' => e = .returned (.string ⟨(Lib.itoa n).toArray⟩) ∧ ∃ k os, w' = grow (w.drewN k) os := Any.strconv_Itoa Tryz.laysM171 n h0 h1 w htab
def Tryz.lays105_ren : Go.Shelf.Ren := ⟨fun | 105 => 111 | 212 => 152 | 99 => 153 | 165 => 154 | 166 => 110 | 170 => 155 | 169 => 112 | 263 => 177 | 264 => 178 | 206 => 179 | 240 => 151 | 241 => 180 | 276 => 176 | 277 => 192 | n => n, fun | 9 => 9 | 3 => 3 | 4 => 4 | 20 => 20 | 0 => 0 | 46 => 177 | 109 => 178 | 5 => 5 | 72 => 145 | 76 => 152 | 51 => 84 | 146 => 195 | 53 => 85 | 148 => 197 | 70 => 142 | 37 => 143 | 75 => 151 | 127 => 182 | 164 => 193 | 80 => 68 | n => n, fun | n => n⟩
theorem Tryz.lays105 : Go.Proofs.Lays.n105 Tryz.prog Tryz.lays105_ren := {
  mixed := by kernel_rfl
  f99 := Tryz.func153.trans (congrArg some (by kernel_rfl))
  f105 := Tryz.func111.trans (congrArg some (by kernel_rfl))
  f165 := Tryz.func154.trans (congrArg some (by kernel_rfl))
  f166 := Tryz.func110.trans (congrArg some (by kernel_rfl))
  f169 := Tryz.func112.trans (congrArg some (by kernel_rfl))
  f170 := Tryz.func155.trans (congrArg some (by kernel_rfl))
  f206 := Tryz.func179.trans (congrArg some (by kernel_rfl))
  f212 := Tryz.func152.trans (congrArg some (by kernel_rfl))
  f240 := Tryz.func151.trans (congrArg some (by kernel_rfl))
  f241 := Tryz.func180.trans (congrArg some (by kernel_rfl))
  f263 := Tryz.func177.trans (congrArg some (by kernel_rfl))
  f264 := Tryz.func178.trans (congrArg some (by kernel_rfl))
  f276 := Tryz.func176.trans (congrArg some (by kernel_rfl))
  f277 := Tryz.func192.trans (congrArg some (by kernel_rfl))
  t0 := Tryz.underlying0
  a0 := Tryz.isAgg0
  z0 := Tryz.sizeOf0
  v0 := Tryz.zeroValue0
  t3 := Tryz.underlying3
  a3 := Tryz.isAgg3
  z3 := Tryz.sizeOf3
  v3 := Tryz.zeroValue3
  t4 := Tryz.underlying4
  a4 := Tryz.isAgg4
  z4 := Tryz.sizeOf4
  v4 := Tryz.zeroValue4
  t5 := Tryz.underlying5
  a5 := Tryz.isAgg5
  z5 := Tryz.sizeOf5
  v5 := Tryz.zeroValue5
  t9 := Tryz.underlying9
  a9 := Tryz.isAgg9
  z9 := Tryz.sizeOf9
  v9 := Tryz.zeroValue9
  t20 := Tryz.underlying20
  a20 := Tryz.isAgg20
  z20 := Tryz.sizeOf20
  v20 := Tryz.zeroValue20
  t37 := Tryz.underlying143
  a37 := Tryz.isAgg143
  z37 := Tryz.sizeOf143
  v37 := Tryz.zeroValue143
  t46 := Tryz.underlying177
  a46 := Tryz.isAgg177
  z46 := Tryz.sizeOf177
  v46 := Tryz.zeroValue177
  t51 := Tryz.underlying84
  a51 := Tryz.isAgg84
  z51 := Tryz.sizeOf84
  v51 := Tryz.zeroValue84
  t53 := Tryz.underlying85
  a53 := Tryz.isAgg85
  z53 := Tryz.sizeOf85
  v53 := Tryz.zeroValue85
  t70 := Tryz.underlying142
  a70 := Tryz.isAgg142
  z70 := Tryz.sizeOf142
  v70 := Tryz.zeroValue142
  t72 := Tryz.underlying145
  a72 := Tryz.isAgg145
  z72 := Tryz.sizeOf145
  v72 := Tryz.zeroValue145
  t75 := Tryz.underlying151
  a75 := Tryz.isAgg151
  z75 := Tryz.sizeOf151
  v75 := Tryz.zeroValue151
  t76 := Tryz.underlying152
  a76 := Tryz.isAgg152
  z76 := Tryz.sizeOf152
  v76 := Tryz.zeroValue152
  t109 := Tryz.underlying178
  a109 := Tryz.isAgg178
  z109 := Tryz.sizeOf178
  v109 := Tryz.zeroValue178
  t127 := Tryz.underlying182
  a127 := Tryz.isAgg182
  z127 := Tryz.sizeOf182
  v127 := Tryz.zeroValue182
  t146 := Tryz.underlying195
  a146 := Tryz.isAgg195
  z146 := Tryz.sizeOf195
  v146 := Tryz.zeroValue195
  t148 := Tryz.underlying197
  a148 := Tryz.isAgg197
  z148 := Tryz.sizeOf197
  v148 := Tryz.zeroValue197
  t164 := Tryz.underlying193
  a164 := Tryz.isAgg193
  z164 := Tryz.sizeOf193
  v164 := Tryz.zeroValue193 }
theorem Tryz.Builder_Extra_105 : Builder.Extra Tryz.prog Tryz.lays105_ren := {
  sizeBuilder := by kernel_rfl
  liesBuilder := by kernel_rfl
  t5 := Tryz.underlying5
  a5 := Tryz.isAgg5
  z5 := Tryz.sizeOf5
  v5 := Tryz.zeroValue5
  infoByte := by kernel_rfl
  cellsByte := by kernel_rfl
  sizeByte := by kernel_rfl
  neB5 := by decide }
open Go.RowKit Go.Lib in
theorem Tryz.strings_Repeat (s : ByteArray) (c : Nat) (w : World) (hc : c ≤ 9223372036854775807) (hlen : s.size * c ≤ 140737488355328) :
    Calls Tryz.prog 111 #[.string s, .int .i64 c] w fun e w' => e = .returned (.string ⟨(Lib.repeatL s.data.toList c).toArray⟩) ∧ Below w.heap.size w w' := Any.strings_Repeat Tryz.lays105 Tryz.Builder_Extra_105 s c w hc hlen
end Go.Proofs
namespace Go.Proofs.Fl
open Go.RowKit Go.Shelf
theorem VRL.one {H : Heap} {args : List Value} {x : IV} (h : VRL H args [x]) : ∃ v, args = [v] ∧ VR H v x := by
  cases h with | cons v _ vs _ h t => cases t; exact ⟨v, rfl, h⟩
theorem VRL.two {H : Heap} {args : List Value} {x y : IV} (h : VRL H args [x, y]) : ∃ u v, args = [u, v] ∧ VR H u x ∧ VR H v y := by
  cases h with | cons u _ us _ h t => obtain ⟨v, rfl, hv⟩ := t.one; exact ⟨u, v, rfl, h, hv⟩
theorem strSize (s : ByteArray) : s.size = s.data.toList.length := Lib.size_eq s
theorem pure_lib {J : Keep} {f : FuncId} {xs : List IV} {r : IV} (hf : ∃ fn, Tryz.prog.funcs[f]? = some fn ∧ (fn.name == "runtime.NumGoroutine") = false ∧ fn.body.isNone = false)
    (h : ∀ (H : Heap) (w : World) (args : List Value), J.I w → VRL H args xs → Calls Tryz.prog f args.toArray w fun e w' => ∃ v, e = .returned v ∧ (∀ H, VR H v r) ∧ Below w.heap.size w w') : C J f xs r := by
  refine ⟨hf, fun H w args hI hH hargs => (h H w args hI hargs).mono ?_⟩
  rintro e w' ⟨v, rfl, hv, hb⟩
  refine ⟨v, H, rfl, fun b arr hb' => ?_, HExt.refl _ _, hv H, hb⟩
  obtain ⟨t, fr, ht⟩ := hH b arr hb'
  exact ⟨t, fr, (hb.block b (hH.lt hb')).trans ht⟩
theorem below_grow (w : World) (k : Nat) (os : Array Obj) : Below w.heap.size w (Go.Sort.grow (w.drewN k) os) := by
  refine ⟨rfl, rfl, rfl, ?_, fun j hj => ?_⟩
  · simp [Go.Sort.grow, World.drewN]
  · simp [Go.Sort.grow, World.drewN, Array.getElem?_append, hj]
theorem f158_ok (J : Keep) {s : List UInt8} {c : Nat} (hc : s.length * c ≤ 140737488355328) (hc2 : c ≤ 9223372036854775807) : C J 111 [.str s, .int .i64 (c : Nat)] (.str (Lib.repeatL s c)) := by
  refine pure_lib ⟨_, Tryz.func111, rfl, rfl⟩ fun H w args hI hargs => ?_
  obtain ⟨u, v, rfl, hu, hv⟩ := hargs.two
  obtain ⟨s, rfl, rfl⟩ := VR.asStr hu
  rw [VR.asInt hv]
  refine (Tryz.strings_Repeat s c w hc2 (by rw [strSize]; exact hc)).mono ?_
  rintro e w' ⟨rfl, hb⟩
  exact ⟨_, rfl, fun H => .str _ _ (by simp), hb⟩
structure LibI (J : Keep) : Prop where
  pow10 : ∀ w, J.I w → Lib.TabIs Tryz.prog w "internal/strconv.uint64pow10" .u64 Lib.pow10Tab
theorem f198_ok {J : Keep} (L : LibI J) {n : Int} (h0 : -9223372036854775808 ≤ n) (h1 : n ≤ 9223372036854775807) : C J 109 [.int .i64 n] (.str (Lib.itoa n)) := by
  refine pure_lib ⟨_, Tryz.func109, rfl, rfl⟩ fun H w args hI hargs => ?_
  obtain ⟨u, rfl, hu⟩ := hargs.one
  rw [VR.asInt hu]
  refine (Tryz.strconv_Itoa n h0 h1 w (L.pow10 w hI)).mono ?_
  rintro e w' ⟨rfl, k, os, rfl⟩
  exact ⟨_, rfl, fun H => .str _ _ (by simp), below_grow _ _ _⟩
theorem byteCells_append (a b : List UInt8) : Lib.byteCells (a ++ b) = Lib.byteCells a ++ Lib.byteCells b := by simp [Lib.byteCells]
theorem strCells_eq (s : ByteArray) : Lib.strCells s = Lib.byteCells s.data.toList := by
  simp [Lib.strCells, Lib.byteCells]
theorem bld199 {s t : List UInt8} (hl : s.length + t.length ≤ 140737488355328) : BldC Tryz.prog 110 s [.str t] (s ++ t) (.tup [.int .i64 (t.length : Nat), .nil 0]) := by
  refine ⟨⟨_, Tryz.func110, rfl, rfl⟩, fun H w b args hargs hb => ?_⟩
  obtain ⟨u, rfl, hu⟩ := hargs.one
  obtain ⟨t, rfl, rfl⟩ := VR.asStr hu
  refine (writeString_b { Tryz.lays105 with } Tryz.Builder_Extra_105 0 b (Lib.byteCells s) t w hb (by rw [Lib.byteCells_length, strSize]; exact hl) (Nat.zero_le _)).mono ?_
  rintro e w' ⟨rfl, h1, h2⟩
  refine ⟨_, rfl, fun H => .tup [_, _] _ (.cons _ _ _ _ ?_ (.cons _ _ _ _ .nilI .nil)), .inr ?_, h2⟩
  · rw [strSize]; exact .int _ _
  · rw [byteCells_append, ← strCells_eq]; exact h1
theorem bld200 {s : List UInt8} (hs : s ≠ []) : BldC Tryz.prog 112 s [] s (.str s) := by
  refine ⟨⟨_, Tryz.func112, rfl, rfl⟩, fun H w b args hargs hb => ?_⟩
  cases hargs
  refine (string_b { Tryz.lays105 with } Tryz.Builder_Extra_105 0 b s w hb hs).mono ?_
  rintro e w' ⟨rfl, h1, h2⟩
  exact ⟨_, rfl, fun H => .str _ _ (by simp), h1, h2⟩
section
variable {J : Keep} {nt : Nat} {σ : AS} {K : Exit → AS → Prop}
theorem W.build (n : Nat) {id : Nat} {all : Array Oper} {o : Oper} {fo p : Operand} {args : List Operand} {ats : Array TypeId} (ho : all.toList[n]? = some o) (hd : dstsOk nt all.toList = true) (hg : o.guard = none) (hop : o.op = .call { callee := .value fo, args := (p :: args).toArray, argTypes := ats })
    (h : opsP TT (cx J).C all (all.toList.take n) σ.nx σ.tm σ.bx [] fun tm bx _ => match evS tm fo, evS tm p, toIs bx (evS tm) args with
      | .iv (.fn f), .ptr g 0, some (xs, []) => ∃ s s' r, bx g = some (.bld (.str s)) ∧ (∀ g' s', bx g' = some (.bld s') → g' = g) ∧ BldC Tryz.prog f s xs s' r ∧
          opsP TT (cx J).C all (all.toList.drop (n + 1)) (σ.nx + n + 1) (putS tm o.dst (.iv r)) (upd bx g (some (.bld (.str s')))) [] fun tm bx _ => K .normal ⟨tm, bx, σ.nx + all.size⟩
      | _, _, _ => False) : W J nt (.region id all false) σ K := by
  unfold W
  exact CW.build (X := cx J) n ho hd hg hop h
theorem W.newBld {id : Nat} {o : Oper} {d : Nat} (hd : Nat.blt d nt = true) (hdst : o.dst = some d) (hg : o.guard = none) (hop : o.op = .alloc bldT)
    (hb : σ.bx σ.nx = none) (h : K .normal ⟨upd σ.tm d (.ptr σ.nx 0), upd σ.bx σ.nx (some (.bld (.str []))), σ.nx + 1⟩) : W J nt (.region id #[o] false) σ K := by
  unfold W
  exact CW.newBld (X := cx J) ((by simpa [Nat.blt_eq] using hd)) hdst hg hop (i := (Tryz.prog.info? bldT).getD default) (by kernel_rfl) (by kernel_rfl) hb h
end
end Go.Proofs.Fl
namespace Go.Proofs.Fl
open Go.RowKit Go.Proofs.Dig
attribute [local irreducible] IntKind.wrap PureC MutC MakC IterC
theorem padW_eq : ∀ (w n : Nat), 0 < w → n < 10 ^ w → padW w n = List.replicate (w - (decN n).length) 48 ++ decN n ∧ (decN n).length ≤ w
  | 0, _, h, _ => absurd h (by omega)
  | 1, n, _, h => by
    have hn : n < 10 := by simpa using h
    rw [decN_small hn]
    refine ⟨?_, by simp⟩
    show padW 0 (n / 10) ++ [dig8 (n % 10)] = _
    rw [Nat.mod_eq_of_lt hn]; rfl
  | w + 2, n, _, h => by
    show padW (w + 1) (n / 10) ++ [dig8 (n % 10)] = _ ∧ _
    by_cases hn : n < 10
    · rw [decN_small hn, Nat.mod_eq_of_lt hn, Nat.div_eq_of_lt hn, padW_zero]
      exact ⟨by simp, Nat.succ_le_succ (Nat.zero_le _)⟩
    · have hq : n / 10 < 10 ^ (w + 1) := by
        rw [Nat.pow_succ] at h
        exact Nat.div_lt_of_lt_mul (by omega)
      obtain ⟨h1, h2⟩ := padW_eq (w + 1) (n / 10) (by omega) hq
      rw [decN_big (by omega), h1]
      refine ⟨?_, by simp; omega⟩
      rw [List.length_append, List.length_singleton, List.append_assoc, show w + 2 - ((decN (n / 10)).length + 1) = w + 1 - (decN (n / 10)).length by omega]
theorem decN_len {n w : Nat} (hw : 0 < w) (h : n < 10 ^ w) : (decN n).length ≤ w := (padW_eq w n hw h).2
theorem itoa_dec (n : Nat) : Lib.itoa ((n : Nat) : Int) = decN n := by
  unfold Lib.itoa
  rw [if_neg (by omega), Int.toNat_natCast]
  induction n using Nat.strongRecOn with
  | _ n ih =>
    rw [Lib.decDigits]
    split
    · rename_i h; rw [decN_small h]; rfl
    · rename_i h; rw [decN_big (by omega), ih (n / 10) (by omega)]; rfl
theorem repeat_zero : ∀ c, Lib.repeatL [48] c = List.replicate c 48
  | 0 => rfl
  | c + 1 => by rw [List.replicate_succ, ← repeat_zero c]; rfl
def isBld : Bx → Bool
  | .bld _ => true
  | _ => false
theorem one_tb {m : List (Nat × Bx)} {g : Nat} (h : m.all (fun p => Nat.beq p.1 g || !isBld p.2) = true) : ∀ g' s', tbB m g' = some (.bld s') → g' = g := by
  intro g' s' hg
  induction m with
  | nil => cases hg
  | cons p m ih =>
    simp only [List.all_cons, Bool.and_eq_true] at h
    simp only [tbB] at hg
    cases hb : Nat.beq g' p.1 with
    | false => rw [hb] at hg; exact ih h.2 hg
    | true =>
      rw [hb] at hg
      simp only [cond_true, Option.some.injEq] at hg
      rw [hg] at h
      simp only [isBld, Bool.not_true, Bool.or_false] at h
      rw [Nat.eq_of_beq_eq_true hb, Nat.eq_of_beq_eq_true h.1]
theorem one_upd {bx : Nat → Option Bx} {g : Nat} {b : Option Bx} (h : ∀ g' s', bx g' = some (.bld s') → g' = g) : ∀ g' s', upd bx g b g' = some (.bld s') → g' = g := by
  intro g' s' hg
  by_cases e : g' = g
  · exact e
  · rw [upd_other _ _ _ e] at hg; exact h g' s' hg
theorem LibI.any {J : Keep} (L : LibI J) : LibI J.any := ⟨L.pow10⟩
def preT (ds : List Nat) (k : Nat) : List UInt8 := if k = 0 then [] else decN (hiN ds k)
theorem preT_len {ds : List Nat} (hd : Dg B9 ds) {k : Nat} (hk : k ≤ ds.length) : (preT ds k).length ≤ 9 * k := by
  unfold preT
  split
  · simp
  · refine decN_len (by omega) ?_
    have := nv_lt (hd.drop (ds.length - k))
    rw [List.length_drop, show ds.length - (ds.length - k) = k by omega] at this
    have e : B9 ^ k = 10 ^ (9 * k) := by rw [Nat.pow_mul]
    rw [← e]; exact this
theorem preT_one {ds : List Nat} (hk : 0 < ds.length) : preT ds (0 + 1) = decN (ds.getD (ds.length - 1 - 0) 0) := by
  unfold preT
  rw [if_neg (by omega), hiN_succ hk, hiN_zero, Nat.zero_mul, Nat.zero_add]
theorem preT_succ {ds : List Nat} (hd : Ok B9 ds) {k : Nat} (h0 : 0 < k) (hk : k < ds.length) : preT ds (k + 1) = preT ds k ++ padW 9 (ds.getD (ds.length - 1 - k) 0) := by
  unfold preT
  rw [if_neg (by omega), if_neg (by omega), hiN_succ hk]
  have h1 : 0 < hiN ds k := by
    unfold hiN
    refine nv_pos (by decide) (hd.nm.drop _) (fun e => ?_)
    have := congrArg List.length e
    simp at this; omega
  exact decN_split 9 h1 (hd.dg.getD (by decide) _)
set_option maxHeartbeats 1000000 in
theorem f157_ds {J : Keep} (L : LibI J) {ds : List Nat} (hd : Ok B9 ds) (hl : ds.length < 2 ^ 43) : C J 71 [mgI ds] (.str (decN (nv B9 ds))) := by
  refine fn_ok (J := J.top) Tryz.func71 rfl rfl rfl ?_
  have lm : (ds.map u32).length = ds.length := by simp
  by_cases h0 : ds = []
  · subst h0
    repeat (first | (refine W.RS (by kernel_rfl) ?_; conv => whnf) | (refine W.S ?_) | (refine W.ret ?_; conv => whnf) | (refine W.condT rfl ?_) | (refine ⟨_, f163_ok J [], ?_⟩; conv => whnf))
    show IV.str [48] = IV.str (decN 0)
    rw [decN_small (by decide)]; rfl
  · have hp : 0 < ds.length := List.length_pos_iff.2 h0
    have c0 := f163_ok J (ds.map u32)
    rw [show (((ds.map u32).length : Int) == 0) = false by rw [lm]; exact beq_eq_false_iff_ne.2 (by omega)] at c0
    repeat (first | (refine W.S ?_; refine W.newBld rfl rfl rfl rfl rfl ?_; conv => whnf) | (refine W.RS (by kernel_rfl) ?_; conv => whnf) | (refine W.S ?_) | (refine W.block ?_) | (refine W.skip ?_; conv => whnf) | (refine W.condF rfl ?_) | (refine ⟨_, c0, ?_⟩; conv => whnf) | (refine ⟨149, [.sl (ds.map u32)], f192_ok J _, rfl, ?_⟩; conv => whnf))
    refine W.weak (σ' := mkA [(1, .ptr pinId 0), (3, .ptr (pinId + 1) 0), (11, .clo 149 [7])] [(pinId, .var (mgI ds)), (pinId + 1, .bld (.str [])), (7, .var (.sl (ds.map u32)))] 50) (Wk.tab [(pinId, 0), (pinId + 1, 4)] ⟨⟨rfl, rfl⟩, ⟨rfl, rfl⟩, ⟨rfl, rfl⟩, trivial⟩ ⟨rfl, rfl, rfl, trivial⟩ rfl) ?_
    refine W.range (f224_ok J (show ds.length < 2 ^ 60 by omega)) [pinId, pinId + 1] [(1, .ptr pinId 0), (3, .ptr (pinId + 1) 0)] (fun k => [(pinId, .var (mgI ds)), (pinId + 1, .bld (.str (preT ds k)))]) 60 rfl ⟨rfl, trivial⟩ (by simp) rfl back_two (fun _ => rfl) (fun _ => by intro p hp; simp at hp; rcases hp with rfl | rfl <;> rfl) rfl ⟨rfl, rfl, trivial⟩ rfl ⟨rfl, rfl, trivial⟩ rfl rfl (fun k hk => ?_) ?_
    · rw [back_at hk]
      rw [back_len] at hk
      show W J.any _ _ ⟨putsL (tbS [(1, .ptr pinId 0), (3, .ptr (pinId + 1) 0)]) [12, 13] [.int .i64 ((ds.length - 1 - k : Nat) : Int), u32 (ds.getD (ds.length - 1 - k) 0)], tbB [(pinId, .var (mgI ds)), (pinId + 1, .bld (.str (preT ds k)))], 60⟩ _
      have hlen := preT_len hd.dg (k := k) (by omega)
      have h3 := hd.dg.getD (by decide) (ds.length - 1 - k)
      have hpad := padW_eq 9 (ds.getD (ds.length - 1 - k) 0) (by decide) h3
      have hone := preT_one hp
      have hsucc := fun h0 => preT_succ hd (k := k) h0 hk
      obtain ⟨x, hx⟩ : ∃ x, ds.getD (ds.length - 1 - k) 0 = x := ⟨_, rfl⟩
      rw [hx] at h3 hpad hsucc ⊢
      have h3 : x < 1000000000 := h3
      have c1 := f198_ok (J := J.any) L.any (n := ((x : Nat) : Int)) (by omega) (by omega)
      rw [itoa_dec] at c1
      have hdl := hpad.2
      have c2 := f158_ok J (s := [48]) (c := 9 - (decN x).length) (by simp; omega) (by omega)
      rw [repeat_zero, show ((9 - (decN x).length : Nat) : Int) = 9 - ((decN x).length : Int) by omega] at c2
      by_cases hk0 : 0 < k
      · have he := hsucc hk0
        rw [hpad.1, ← List.append_assoc] at he
        have w1 := bld199 (s := preT ds k) (t := List.replicate (9 - (decN x).length) 48) (by simp; omega)
        have w2 := bld199 (s := preT ds k ++ List.replicate (9 - (decN x).length) 48) (t := decN x) (by simp; omega)
        rw [← he] at w2
        have o1 := one_tb (m := [(pinId, .var (mgI ds)), (pinId + 1, .bld (.str (preT ds k)))]) (g := pinId + 1) rfl
        repeat (first | (refine W.build 4 rfl rfl rfl rfl ?_; conv => whnf) | (refine W.build 1 rfl rfl rfl rfl ?_; conv => whnf) | (refine W.RS (by kernel_rfl) ?_; conv => whnf) | (refine W.R (by kernel_rfl) ?_; conv => whnf) | (refine W.S ?_) | (refine W.block ?_) | (refine W.condT rfl ?_) | (refine ⟨_, c1, ?_⟩; conv => whnf) | (refine ⟨_, c2, ?_⟩; conv => whnf) | (refine ⟨_, _, _, rfl, o1, w1, ?_⟩; conv => whnf) | (refine ⟨rfl, _, w64 (by omega), ?_⟩; conv => whnf) | (refine ⟨_, w64 (by omega), ?_⟩; conv => whnf) | (refine ⟨true, decide_eq_true (by omega), ?_⟩; conv => whnf) | (refine ⟨_, rfl, ?_⟩; conv => whnf) | (refine ⟨rfl, ?_⟩; conv => whnf))
        repeat (first | (refine ⟨_, _, _, rfl, one_upd o1, w2, ?_⟩; conv => whnf) | (refine ⟨rfl, ?_⟩; conv => whnf))
        exact trivial
      · have e0 : k = 0 := by omega
        subst e0
        rw [hx] at hone
        have hpe : preT ds 0 = [] := rfl
        have w2 : BldC Tryz.prog 110 [] [.str (decN x)] (preT ds (0 + 1)) (.tup [.int .i64 ((decN x).length : Nat), .nil 0]) := by
          rw [hone]; exact bld199 (s := []) (t := decN x) (by simp; omega)
        have o1 := one_tb (m := [(pinId, .var (mgI ds)), (pinId + 1, .bld (.str []))]) (g := pinId + 1) rfl
        rw [hpe]
        repeat (first | (refine W.build 1 rfl rfl rfl rfl ?_; conv => whnf) | (refine W.RS (by kernel_rfl) ?_; conv => whnf) | (refine W.R (by kernel_rfl) ?_; conv => whnf) | (refine W.S ?_) | (refine W.block ?_) | (refine W.skip ?_; conv => whnf) | (refine W.condF rfl ?_) | (refine ⟨_, c1, ?_⟩; conv => whnf) | (refine ⟨_, _, _, rfl, o1, w2, ?_⟩; conv => whnf) | (refine ⟨rfl, _, w64 (by omega), ?_⟩; conv => whnf) | (refine ⟨_, w64 (by omega), ?_⟩; conv => whnf) | (refine ⟨false, decide_eq_false (by omega), ?_⟩; conv => whnf) | (refine ⟨_, rfl, ?_⟩; conv => whnf) | (refine ⟨rfl, ?_⟩; conv => whnf))
        exact trivial
    · rw [back_len]
      have hall : preT ds ds.length = decN (nv B9 ds) := by
        unfold preT
        rw [if_neg (by omega), hiN_all]
      rw [hall]
      have o1 := one_tb (m := [(pinId, .var (mgI ds)), (pinId + 1, .bld (.str (decN (nv B9 ds))))]) (g := pinId + 1) rfl
      have w3 := bld200 (decN_ne (nv B9 ds))
      repeat (first | (refine W.S ?_; refine W.build 0 rfl rfl rfl rfl ?_; conv => whnf) | (refine W.ret ?_; conv => whnf) | (refine ⟨_, _, _, rfl, o1, w3, ?_⟩; conv => whnf))
      rfl
theorem f157_ok {J : Keep} (L : LibI J) {n : Nat} (h : ln n < 2 ^ 43) : C J 71 [mag n] (.str (decN n)) := by
  have := f157_ds L (dg_ok n) h
  rwa [dg_nv] at this
end Go.Proofs.Fl
namespace Go.Proofs.Fl
open Go.RowKit Go.Proofs.Dig
attribute [local irreducible] IntKind.wrap PureC MutC MakC IterC
def qtext (q : Rat) : List UInt8 := if q.den = 1 then ztext q.num else ztext q.num ++ [47] ++ decN q.den
theorem decN_ln (n : Nat) : (decN n).length ≤ 9 * ln n + 1 := by
  refine decN_len (by omega) ?_
  have h := lt_ln n
  have e : B9 ^ ln n = 10 ^ (9 * ln n) := by rw [Nat.pow_mul]
  have := Nat.pow_le_pow_right (n := 10) (by decide) (Nat.le_succ (9 * ln n))
  show n < 10 ^ (9 * ln n + 1)
  omega
theorem ztext_len (z : Int) : (ztext z).length ≤ (decN z.natAbs).length + 1 := by
  unfold ztext
  split <;> simp <;> omega
theorem f35_ok {J : Keep} (L : LibI J) {q : Rat} (h : qln q < 2 ^ 40) : C J 44 [qr q] (.str (qtext q)) := by
  refine fn_ok Tryz.func44 rfl rfl rfl ?_
  have hq := h
  unfold qln at hq
  have c1 := f157_ok L (n := q.num.natAbs) (by omega)
  have c2 := f157_ok L (n := q.den) (by omega)
  have c3 := f164_q J (q := q) (by omega)
  have l1 := decN_ln q.num.natAbs
  have l2 := decN_ln q.den
  have c4 := f163_ok J ((dg (q.den - 1)).map u32)
  have hz : (((dg (q.den - 1)).map u32).length = 0) ↔ q.den = 1 := by
    have := den_pos q
    rw [List.length_map]
    have h2 := @dg_nil_iff (q.den - 1)
    rw [← List.length_eq_zero_iff] at h2
    omega
  unfold qtext
  by_cases hn : q.num < 0
  · have e1 : ztext q.num = [45] ++ decN q.num.natAbs := by unfold ztext; rw [if_pos hn]
    show W J _ _ ⟨argS [.agg [.sl ((dg q.num.natAbs).map u32), .bool (decide (q.num < 0)), .sl ((dg (q.den - 1)).map u32)]], fun _ => none, 0⟩ _
    rw [decide_eq_true hn]
    unfold qr qd at c3
    rw [decide_eq_true hn] at c3
    by_cases hd : q.den = 1
    · rw [show (((dg (q.den - 1)).map u32).length : Int) == 0 by rw [beq_iff_eq]; have := hz.2 hd; omega] at c4
      rw [if_pos hd, e1]
      repeat (first | (refine W.RS (by kernel_rfl) ?_; conv => whnf) | (refine W.R (by kernel_rfl) ?_; conv => whnf) | (refine W.S ?_) | (refine W.ret ?_; conv => whnf) | (refine W.skip ?_; conv => whnf) | (refine W.condF rfl ?_) | (refine W.condT rfl ?_) | (refine ⟨_, c1, ?_⟩; conv => whnf) | (refine ⟨_, c4, ?_⟩; conv => whnf) | (refine ⟨by simp; omega, ?_⟩; conv => whnf) | (refine ⟨_, rfl, ?_⟩; conv => whnf))
      rfl
    · rw [show ((((dg (q.den - 1)).map u32).length : Int) == 0) = false by rw [beq_eq_false_iff_ne]; intro e; exact hd (hz.1 (by omega))] at c4
      rw [if_neg hd, e1]
      repeat (first | (refine W.RS (by kernel_rfl) ?_; conv => whnf) | (refine W.R (by kernel_rfl) ?_; conv => whnf) | (refine W.S ?_) | (refine W.ret ?_; conv => whnf) | (refine W.condT rfl ?_) | (refine ⟨_, c1, ?_⟩; conv => whnf) | (refine ⟨_, c2, ?_⟩; conv => whnf) | (refine ⟨_, c3, ?_⟩; conv => whnf) | (refine ⟨_, c4, ?_⟩; conv => whnf) | (refine ⟨by simp; omega, ?_⟩; conv => whnf) | (refine ⟨_, rfl, ?_⟩; conv => whnf))
      simp [oneOf]
  · have e1 : ztext q.num = decN q.num.natAbs := by unfold ztext; rw [if_neg hn]; rfl
    show W J _ _ ⟨argS [.agg [.sl ((dg q.num.natAbs).map u32), .bool (decide (q.num < 0)), .sl ((dg (q.den - 1)).map u32)]], fun _ => none, 0⟩ _
    rw [decide_eq_false hn]
    unfold qr qd at c3
    rw [decide_eq_false hn] at c3
    by_cases hd : q.den = 1
    · rw [show (((dg (q.den - 1)).map u32).length : Int) == 0 by rw [beq_iff_eq]; have := hz.2 hd; omega] at c4
      rw [if_pos hd, e1]
      repeat (first | (refine W.RS (by kernel_rfl) ?_; conv => whnf) | (refine W.S ?_) | (refine W.ret ?_; conv => whnf) | (refine W.skip ?_; conv => whnf) | (refine W.condF rfl ?_) | (refine ⟨_, c1, ?_⟩; conv => whnf) | (refine ⟨_, c4, ?_⟩; conv => whnf) | (refine ⟨_, rfl, ?_⟩; conv => whnf))
      rfl
    · rw [show ((((dg (q.den - 1)).map u32).length : Int) == 0) = false by rw [beq_eq_false_iff_ne]; intro e; exact hd (hz.1 (by omega))] at c4
      rw [if_neg hd, e1]
      repeat (first | (refine W.RS (by kernel_rfl) ?_; conv => whnf) | (refine W.R (by kernel_rfl) ?_; conv => whnf) | (refine W.S ?_) | (refine W.ret ?_; conv => whnf) | (refine W.skip ?_; conv => whnf) | (refine W.condF rfl ?_) | (refine W.condT rfl ?_) | (refine ⟨_, c1, ?_⟩; conv => whnf) | (refine ⟨_, c2, ?_⟩; conv => whnf) | (refine ⟨_, c3, ?_⟩; conv => whnf) | (refine ⟨_, c4, ?_⟩; conv => whnf) | (refine ⟨by simp; omega, ?_⟩; conv => whnf) | (refine ⟨_, rfl, ?_⟩; conv => whnf))
      simp [oneOf]
end Go.Proofs.Fl
namespace Go.Proofs.Fl
open Go.RowKit Go.Proofs.Dig
attribute [local irreducible] IntKind.wrap PureC MutC MakC IterC
theorem getq {f : Rat → IV} {l : List Rat} {k : Nat} (h : k < l.length) : (l.map f)[k]? = some (f (l.getD k 0)) := by
  simp [h]
theorem take_snoc {l : List Rat} {k : Nat} (h : k < l.length) : l.take (k + 1) = l.take k ++ [l.getD k 0] := by
  rw [List.take_add_one, List.getElem?_eq_getElem h]
  simp [List.getD, h]
theorem getD_mem {l : List Rat} {k : Nat} (h : k < l.length) : l.getD k 0 ∈ l := by
  simp [List.getD, h]
theorem qln_zero : qln 0 ≤ 1 := by
  show ln 0 + ln 1 ≤ 1
  have h0 : ln 0 ≤ 0 := ln_le (by decide)
  rw [ln_one]; omega
end Go.Proofs.Fl
namespace Go.Proofs.Fl
open Go.RowKit Go.Proofs.Dig
attribute [local irreducible] IntKind.wrap PureC MutC MakC IterC
section
variable {J : Keep} {a b c d : Rat}
theorem f113_ok (L : LibI J) (ha : qln a < 2 ^ 36) (hb : qln b < 2 ^ 36) : C J 22 [sd a b] (.str ([91] ++ qtext a ++ [32] ++ qtext b ++ [93])) := by
  refine fn_ok Tryz.func22 rfl rfl rfl ?_
  have c1 := f35_ok L (q := a) (by omega)
  have c2 := f35_ok L (q := b) (by omega)
  have t : ∀ q : Rat, qln q < 2 ^ 36 → (qtext q).length < 2 ^ 42 := fun q h => by
    unfold qln at h
    have l1 := ztext_len q.num
    have l2 := decN_ln q.num.natAbs
    have l3 := decN_ln q.den
    unfold qtext
    split <;> simp <;> omega
  have t1 := t a ha
  have t2 := t b hb
  repeat (first | (refine W.RS (by kernel_rfl) ?_; conv => whnf) | (refine W.ret ?_; conv => whnf) | (refine ⟨_, c1, ?_⟩; conv => whnf) | (refine ⟨_, c2, ?_⟩; conv => whnf) | (refine ⟨by simp; omega, ?_⟩; conv => whnf) | (refine ⟨rfl, ?_⟩; conv => whnf))
  rfl
end
end Go.Proofs.Fl
namespace Go.Proofs.Fl
open Go.RowKit
inductive PV where
  | iv (x : IV)
  | ptr (i : Nat)
  | clo (f : FuncId) (is : List Nat)
def boxV (b : Nat) : Value := .pointer (some ⟨b, 0, none⟩)
def PVR (H : Heap) (bs : List Nat) (v : Value) : PV → Prop
  | .iv x => VR H v x
  | .ptr i => i < bs.length ∧ v = boxV (bs.getD i 0)
  | .clo f is => (∀ i ∈ is, i < bs.length) ∧ v = cloV f (is.map fun i => bs.getD i 0)
def PVRL (H : Heap) (bs : List Nat) : List Value → List PV → Prop
  | [], [] => True
  | v :: vs, x :: xs => PVR H bs v x ∧ PVRL H bs vs xs
  | _, _ => False
theorem PVRL.length {H : Heap} {bs : List Nat} : ∀ {vs : List Value} {xs : List PV}, PVRL H bs vs xs → vs.length = xs.length
  | [], [], _ => rfl
  | [], _ :: _, h => h.elim
  | _ :: _, [], h => h.elim
  | _ :: _, _ :: _, h => by simp [PVRL.length h.2]
theorem PVRL.get {H : Heap} {bs : List Nat} : ∀ {vs : List Value} {xs : List PV}, PVRL H bs vs xs → ∀ (i : Nat) (x : PV), xs[i]? = some x → ∃ v, vs[i]? = some v ∧ PVR H bs v x
  | [], [], _, i, x, h => by simp at h
  | [], _ :: _, h, _, _, _ => h.elim
  | _ :: _, [], h, _, _, _ => h.elim
  | v :: vs, y :: xs, h, 0, x, hx => by simp at hx; subst hx; exact ⟨v, rfl, h.1⟩
  | v :: vs, y :: xs, h, i + 1, x, hx => by simp at hx; simpa using PVRL.get h.2 i x hx
def EffC (P : Program) (I : World → Prop) (f : FuncId) (xs : List PV) (zs zs' : List IV) (r : IV) : Prop :=
  (∃ fn, P.funcs[f]? = some fn ∧ (fn.name == "runtime.NumGoroutine") = false ∧ fn.body.isNone = false) ∧
  ∀ (H : Heap) (w : World) (bs : List Nat) (args : List Value), bs.Pairwise (· ≠ ·) → (∀ w', BelowO (fun k => k ∈ bs ∨ w.heap.size ≤ k) w w' → I w') → HeapHas w H →
    BRs (fun k => k ∈ bs ∨ w.heap.size ≤ k) w H bs zs → PVRL H bs args xs →
    Calls P f args.toArray w fun e w' => ∃ v H', e = .returned v ∧ HeapHas w' H' ∧ HExtO (fun k => w.heap.size ≤ k) H H' ∧ VR H' v r ∧ BelowO (fun k => k ∈ bs ∨ w.heap.size ≤ k) w w' ∧
      BRs (fun k => k ∈ bs ∨ w.heap.size ≤ k) w' H' bs zs'
def argE : List PV → Nat → SV
  | [], _ => .und
  | .iv x :: _, 0 => .iv x
  | .ptr i :: _, 0 => .ptr (pinId + i) 0
  | .clo f is :: _, 0 => .clo f (is.map fun i => pinId + i)
  | _ :: l, t + 1 => argE l t
def svE : PV → SV
  | .iv x => .iv x
  | .ptr i => .ptr (pinId + i) 0
  | .clo f is => .clo f (is.map fun i => pinId + i)
theorem argE_get : ∀ {xs : List PV} {t : Nat}, argE xs t = (match xs[t]? with | some x => svE x | none => .und)
  | [], t => by simp [argE]
  | x :: l, 0 => by cases x <;> rfl
  | x :: l, t + 1 => by
    have := @argE_get l t
    cases x <;> simpa [argE] using this
def boxesP (bx : Nat → Option Bx) : Nat → List IV → Prop
  | _, [] => True
  | i, z :: zs => bx i = some (.var z) ∧ boxesP bx (i + 1) zs
def effK (T : TypeId → Option TY) (rs : List ResultVar) (zs : List IV) (r : IV) : Exit → AS → Prop
  | .normal, σ => retP T rs r σ ∧ boxesP σ.bx pinId zs
  | .ret, σ => retP T rs r σ ∧ boxesP σ.bx pinId zs
  | _, _ => False
theorem boxesP_brs {E : Env} {H : Heap} {β : Nat → Nat × Nat} {tm : Nat → SV} {bx : Nat → Option Bx} {tmps : Array Value} {w : World} (h : Sim E H β tm bx tmps w) {bs0 : List Nat} (hβ : ∀ j, j < bs0.length → β (pinId + j) = (bs0.getD j 0, 0)) :
    ∀ (bs : List Nat) (j : Nat) (zs : List IV), bs0.drop j = bs → bs.length = zs.length → boxesP bx (pinId + j) zs → BRs E.own w H bs zs
  | [], _, [], _, _, _ => trivial
  | [], _, _ :: _, _, h, _ => by simp at h
  | _ :: _, _, [], _, h, _ => by simp at h
  | b :: bs, j, z :: zs, hd, hl, hb => by
    have hj : j < bs0.length := by
      have := congrArg List.length hd
      simp only [List.length_drop, List.length_cons] at this
      omega
    have hbj : bs0.getD j 0 = b := by
      have := List.drop_eq_getElem_cons hj
      rw [this] at hd
      injection hd with e _
      rw [← e]; simp [hj]
    have hbox := h.box (pinId + j) _ hb.1
    rw [hβ j hj, hbj] at hbox
    refine ⟨hbox, boxesP_brs h hβ bs (j + 1) zs ?_ (by simpa using hl) (by rw [← Nat.add_assoc]; exact hb.2)⟩
    have := List.drop_eq_getElem_cons hj
    rw [this] at hd
    injection hd
theorem boxesP_fz {bx : Nat → Option Bx} (fs : List Nat) : ∀ {i : Nat} {zs : List IV}, boxesP bx i zs → boxesP (fzAll bx fs) i zs
  | _, [], _ => trivial
  | _, _ :: _, h => ⟨fzAll_var fs _ _ _ h.1, boxesP_fz fs h.2⟩
theorem eff_of {X : Cx} {f : FuncId} {fn : Func} {c : Code} (hf : X.P.funcs[f]? = some fn) (hb : fn.body = some c) (hn : (fn.name == "runtime.NumGoroutine") = false) {xs : List PV} {zs zs' : List IV} {r : IV} (hzl : zs.length ≤ 8) (hzz : zs'.length = zs.length) (hx : xs.length ≤ fn.ntmps)
    (h : CW X fn.ntmps c ⟨argE xs, tbB (bxL pinId zs), 0⟩ (effK X.T fn.results.toList zs' r)) : EffC X.P X.I f xs zs zs' r := by
  refine ⟨⟨fn, hf, hn, by rw [hb]; rfl⟩, fun H w bs args hp hI hH hbs hargs => ?_⟩
  have hlen := hargs.length
  have hbl := BRs_len hbs
  refine (callsIn_wide (n := 0)).1 (callsIn_of_wp_marks hf hb trivial ?_)
  let ow : Nat → Prop := fun k => k ∈ bs ∨ w.heap.size ≤ k
  let pn : Nat → Option (Nat × Nat) := fun g => if pinId ≤ g ∧ g < pinId + bs.length then some (bs.getD (g - pinId) 0, 0) else none
  have gb : ∀ j, j < bs.length → bs[j]? = some (bs.getD j 0) := fun j hj => by simp [hj]
  refine h ⟨none, X.r0⟩ ⟨ow, w, H, pn, []⟩ _ (fun w' hw' => hI w' hw') (fun e1 σ' M H' β a0 w0 k hS0 => ?_) [] H (fun g => (bs.getD (g - pinId) 0, 0)) _ w ⟨⟨hH, BelowO.refl _ _, fun _ hk => .inr hk, HExtO.refl _ _, fun t => ?_, fun g b hg => ?_, fun g g' b b' hg hg' _ _ e => ?_, fun p k hk => ?_, MarksOk.nil _ _, fun g s g' b R hg => (by obtain ⟨j, z, _, _, e⟩ := bxL_mem (tbB_mem hg); cases e)⟩, rfl, ?_⟩
  · have key : (retP X.T fn.results.toList r σ' ∧ boxesP σ'.bx pinId zs') → ∀ a' w', St ⟨ow, w, H, pn, []⟩ fn.ntmps H' β σ'.tm σ'.bx a' w' → a'.tmps = a0.tmps → ∃ v, (results fn a'.tmps).run X.P w' = .ok v w' ∧ (∃ v1 H1, Ending.returned v = .returned v1 ∧ HeapHas w' H1 ∧ HExtO (fun k => w.heap.size ≤ k) H H1 ∧ VR H1 v1 r ∧ BelowO ow w w' ∧ BRs ow w' H1 bs zs') := fun ⟨k, kb⟩ a' w' hS _ => by
      unfold retP at k
      split at k
      · rename_i ys fs hr
        obtain ⟨H1, l1, S1, vs, e2, V1⟩ := resI_ok X.hT hS.sim hr
        have hβ : ∀ j, j < bs.length → β (pinId + j) = (bs.getD j 0, 0) := fun j hj => by
          have hpj : pn (pinId + j) = some (bs.getD j 0, 0) := by
            show (if pinId ≤ pinId + j ∧ pinId + j < pinId + bs.length then some (bs.getD (pinId + j - pinId) 0, 0) else none) = _
            rw [if_pos ⟨by omega, by omega⟩, Nat.add_sub_cancel_left]
          exact (S1.pin _ _ hpj).1
        have hBR := boxesP_brs S1 hβ bs 0 zs' (by simp) (by omega) (boxesP_fz fs kb)
        have hnone : ∀ (bs : List Nat) (zs : List IV), BRs ow w' H1 bs zs → ∀ b ∈ bs, H1 b = none := by
          intro bs
          induction bs with
          | nil => intro zs _ b hb; cases hb
          | cons b0 bs ih =>
            intro zs hz b hb
            cases zs with
            | nil => exact hz.elim
            | cons z zs =>
              rcases List.mem_cons.1 hb with rfl | hb
              · exact hz.1.2.1
              · exact ih zs hz.2 b hb
        refine ⟨(if h : vs.toArray.size = 1 then vs.toArray[0] else .tuple vs.toArray), ?_, _, H1, rfl, S1.has, ⟨S1.ext.1, fun k arr hk => ?_⟩, ?_, S1.below, hBR⟩
        · unfold results
          have e0 : (fn.results.mapM fun | .tmp t => pure (a'.tmps.getD t undef) | .cell a t => do loadVar t (← asAddr (a'.tmps.getD a undef)) : Sem (Array Value)) = List.toArray <$> fn.results.toList.mapM (resOf a'.tmps) := by
            rw [Array.mapM_eq_mapM_toList]
            rfl
          refine (congrArg (fun (x : Sem (Array Value)) => (x >>= fun vs => pure (if h : vs.size = 1 then vs[0] else .tuple vs)).run X.P w') e0).trans ?_
          simp only [Sem.run_bind, Sem.run_map, e2, Result.andThen_ok, Sem.run_pure]
        · rcases S1.ext.2 k arr hk with h0 | h0
          · exact .inl h0
          · rcases h0 with h0 | h0
            · rw [hnone bs zs' hBR k h0] at hk; cases hk
            · exact .inr h0
        · rw [← k]
          cases V1 with
          | nil => exact .tup [] [] .nil
          | cons v x vs xs h0 t =>
            cases t with
            | nil => exact h0
            | cons v' x' vs xs h1 t =>
              have : ¬ (v :: v' :: vs).toArray.size = 1 := by simp
              rw [dif_neg this]
              exact .tup _ _ (.cons _ _ _ _ h0 (.cons _ _ _ _ h1 t))
      · exact k.elim
    cases e1 with
    | normal => (show LeavesInM (FW none) 0 X.P fn a0.tmps (fun e' w' => ∃ v H', e' = .returned v ∧ HeapHas w' H' ∧ HExtO (fun k => w.heap.size ≤ k) H H' ∧ VR H' v r ∧ BelowO ow w w' ∧ BRs ow w' H' bs zs') a0.defers .returning w0; rw [hS0.defers]; exact leavesM M hS0 (key k))
    | ret => (show LeavesInM (FW none) 0 X.P fn a0.tmps (fun e' w' => ∃ v H', e' = .returned v ∧ HeapHas w' H' ∧ HExtO (fun k => w.heap.size ≤ k) H H' ∧ VR H' v r ∧ BelowO ow w w' ∧ BRs ow w' H' bs zs') a0.defers .returning w0; rw [hS0.defers]; exact leavesM M hS0 (key k))
    | _ => exact k.elim
  · show SR _ _ _ _ (argE xs t)
    rw [argE_get]
    cases hx' : xs[t]? with
    | some x =>
      have hlt : t < args.length := by rw [hlen]; exact (List.getElem?_eq_some_iff.1 hx').1
      obtain ⟨v, h1, h2⟩ := hargs.get t x hx'
      have ev : (args.toArray ++ Array.replicate (fn.ntmps - args.toArray.size) undef).getD t undef = v := by
        simp [Array.getElem?_append, hlt]
        exact (List.getElem?_eq_some_iff.1 h1).2
      rw [ev]
      cases x with
      | iv x => exact h2
      | ptr i =>
        obtain ⟨h3, h4⟩ := h2
        refine ⟨bxL_some (by omega), ?_⟩
        rw [h4]
        show Value.pointer (some ⟨bs.getD i 0, 0, none⟩) = Value.pointer (some ⟨bs.getD (pinId + i - pinId) 0, 0, none⟩)
        rw [Nat.add_sub_cancel_left]
      | clo f is =>
        obtain ⟨h3, h4⟩ := h2
        refine ⟨fun g hg => ?_, ?_⟩
        · obtain ⟨i, hi, e⟩ := List.mem_map.1 hg
          rw [← e]
          have hi2 := h3 i hi
          exact bxL_some (by omega)
        · have hl : (is.map ((fun b => Value.pointer (some ⟨b, 0, none⟩)) ∘ fun i => bs.getD i 0)) = (is.map ((fun g => Value.pointer (some ⟨bs.getD (g - pinId) 0, 0, none⟩)) ∘ fun i => pinId + i)) := by
            apply List.map_congr_left
            intro i _
            show Value.pointer (some ⟨bs.getD i 0, 0, none⟩) = Value.pointer (some ⟨bs.getD (pinId + i - pinId) 0, 0, none⟩)
            rw [Nat.add_sub_cancel_left]
          rw [h4, cloV, List.map_map, List.map_map]
          exact congrArg (fun l => Value.func (.func f) #[] (List.toArray l)) hl
    | none =>
      have hge : ¬ t < args.length := by
        intro hlt
        rw [hlen] at hlt
        simp [hlt] at hx'
      show _ = undef
      simp [Array.getElem?_append, hge, Array.getElem?_replicate]
      split <;> rfl
  · obtain ⟨j, z, rfl, hz, rfl⟩ := bxL_mem (tbB_mem hg)
    obtain ⟨b, e1, e2⟩ := BRs_get hbs j z hz
    simp only [Nat.add_sub_cancel_left]
    rw [show (bs.getD j 0, 0) = (b, 0) by simp [e1]]
    exact e2
  · obtain ⟨j, z, rfl, hz, rfl⟩ := bxL_mem (tbB_mem hg)
    obtain ⟨j', z', rfl, hz', rfl⟩ := bxL_mem (tbB_mem hg')
    obtain ⟨b1, e1, _⟩ := BRs_get hbs j z hz
    obtain ⟨b2, e2, _⟩ := BRs_get hbs j' z' hz'
    simp only [Nat.add_sub_cancel_left] at e
    simp [e1, e2] at e
    apply Classical.byContradiction
    intro hne
    have hne : ¬ j = j' := fun e0 => hne (by rw [e0])
    have l1 := (List.getElem?_eq_some_iff.1 e1).1
    have l2 := (List.getElem?_eq_some_iff.1 e2).1
    have v1 := (List.getElem?_eq_some_iff.1 e1).2
    have v2 := (List.getElem?_eq_some_iff.1 e2).2
    have hpg := List.pairwise_iff_getElem.1 hp
    rcases Nat.lt_or_gt_of_ne hne with hlt | hlt
    · exact hpg j j' l1 l2 hlt (by rw [v1, v2, e])
    · exact hpg j' j l2 l1 hlt (by rw [v1, v2, e])
  · replace hk : (if pinId ≤ p ∧ p < pinId + bs.length then some (bs.getD (p - pinId) 0, 0) else none) = some k := hk
    split at hk
    · rename_i hpp
      cases hk
      refine ⟨rfl, ?_, by omega, hpp.1⟩
      have := bxL_some (i := pinId) (zs := zs) (j := p - pinId) (by omega)
      rwa [show pinId + (p - pinId) = p by omega] at this
    · cases hk
  · show (args.toArray ++ Array.replicate (fn.ntmps - args.toArray.size) undef).size = fn.ntmps
    simp; omega
end Go.Proofs.Fl
namespace Go.Proofs.Fl
open Go.RowKit
def ixOf : List Nat → Nat → Option Nat
  | [], _ => none
  | g :: gs, h => bif Nat.beq g h then some 0 else match ixOf gs h with
    | some i => some (i + 1)
    | none => none
def ixAll (gs : List Nat) : List Nat → Option (List Nat)
  | [] => some []
  | h :: hs => match ixOf gs h, ixAll gs hs with
    | some i, some is => some (i :: is)
    | _, _ => none
def toP (gs : List Nat) (bx : Nat → Option Bx) : SV → Option (PV × List Nat)
  | .ptr g off => bif Nat.beq off 0 then (match ixOf gs g with
    | some i => some (.ptr i, [])
    | none => none) else none
  | .clo f hs => match ixAll gs hs with
    | some is => some (.clo f is, [])
    | none => none
  | s => match toI bx s with
    | some (x, f) => some (.iv x, f)
    | none => none
def toPs (gs : List Nat) (bx : Nat → Option Bx) (ρ : Operand → SV) : List Operand → Option (List PV × List Nat)
  | [] => some ([], [])
  | o :: os => match toP gs bx (ρ o) with
    | some (x, f) => match toPs gs bx ρ os with
      | some (xs, fs) => some (x :: xs, f ++ fs)
      | none => none
    | none => none
theorem ixOf_spec : ∀ {gs : List Nat} {h i : Nat}, ixOf gs h = some i → gs[i]? = some h
  | [], _, _, e => by simp [ixOf] at e
  | g :: gs, h, i, e => by
    simp only [ixOf] at e
    cases hb : Nat.beq g h with
    | true =>
      rw [hb] at e
      simp only [cond_true, Option.some.injEq] at e
      subst e
      rw [Nat.eq_of_beq_eq_true hb]; rfl
    | false =>
      rw [hb] at e
      simp only [cond_false] at e
      split at e
      · rename_i j hj
        simp only [Option.some.injEq] at e
        subst e
        simpa using ixOf_spec hj
      · cases e
theorem ixAll_spec {gs : List Nat} : ∀ {hs is : List Nat}, ixAll gs hs = some is → hs = is.map (fun i => gs.getD i 0) ∧ ∀ i ∈ is, i < gs.length
  | [], is, e => by simp only [ixAll, Option.some.injEq] at e; subst e; exact ⟨rfl, by simp⟩
  | h :: hs, is, e => by
    simp only [ixAll] at e
    split at e
    · rename_i i is' h1 h2
      simp only [Option.some.injEq] at e
      subst e
      obtain ⟨e1, e2⟩ := ixAll_spec h2
      have e3 := ixOf_spec h1
      have l3 := (List.getElem?_eq_some_iff.1 e3).1
      refine ⟨?_, ?_⟩
      · rw [List.map_cons, ← e1]
        congr 1
        simp [e3]
      · intro j hj
        rcases List.mem_cons.1 hj with rfl | hj
        · exact l3
        · exact e2 j hj
    · cases e
theorem toP_fz (gs : List Nat) (bx : Nat → Option Bx) (f : List Nat) (s : SV) : toP gs (fzAll bx f) s = toP gs bx s := by
  cases s <;> simp only [toP, toI_fz]
section
variable {E : Env} {β : Nat → Nat × Nat} {tm : Nat → SV} {tmps : Array Value} {w : World}
theorem toP_ok {gs : List Nat} {H : Heap} {bx : Nat → Option Bx} (h : Sim E H β tm bx tmps w) {v : Value} {s : SV} {x : PV} {f : List Nat} (hv : SR H β bx v s) (ht : toP gs bx s = some (x, f)) :
    ∃ H', HLe H H' ∧ Sim E H' β tm (fzAll bx f) tmps w ∧ PVR H' (gs.map fun g => (β g).1) v x := by
  have gd : ∀ i, i < gs.length → (gs.map fun g => (β g).1).getD i 0 = (β (gs.getD i 0)).1 := fun i hi => by simp [hi]
  have viaI : ∀ {s : SV}, SR H β bx v s → (match toI bx s with | some (x, f) => some (PV.iv x, f) | none => none) = some (x, f) → ∃ H', HLe H H' ∧ Sim E H' β tm (fzAll bx f) tmps w ∧ PVR H' (gs.map fun g => (β g).1) v x := fun {s} hv ht => by
    split at ht
    · rename_i y fy hy
      simp only [Option.some.injEq, Prod.mk.injEq] at ht
      obtain ⟨rfl, rfl⟩ := ht
      obtain ⟨H', l, S, V⟩ := toI_ok h hv hy
      exact ⟨H', l, S, V⟩
    · cases ht
  cases s with
  | ptr g off =>
    simp only [toP] at ht
    cases hb : Nat.beq off 0 with
    | false => rw [hb] at ht; cases ht
    | true =>
      rw [hb] at ht
      simp only [cond_true] at ht
      split at ht
      · rename_i i hi
        simp only [Option.some.injEq, Prod.mk.injEq] at ht
        obtain ⟨rfl, rfl⟩ := ht
        have e0 := Nat.eq_of_beq_eq_true hb
        subst e0
        have e1 := ixOf_spec hi
        have l1 := (List.getElem?_eq_some_iff.1 e1).1
        refine ⟨H, HLe.refl _, h, ⟨by simpa using l1, ?_⟩⟩
        rw [gd i l1, show gs.getD i 0 = g by simp [e1]]
        exact hv.2
      · cases ht
  | clo f hs =>
    simp only [toP] at ht
    split at ht
    · rename_i is hi
      simp only [Option.some.injEq, Prod.mk.injEq] at ht
      obtain ⟨rfl, rfl⟩ := ht
      obtain ⟨e1, e2⟩ := ixAll_spec hi
      refine ⟨H, HLe.refl _, h, ⟨fun i hm => by simpa using e2 i hm, ?_⟩⟩
      rw [hv.2, e1, cloV, List.map_map, List.map_map]
      have hl : is.map ((fun g => Value.pointer (some ⟨(β g).1, 0, none⟩)) ∘ fun i => gs.getD i 0) = is.map ((fun b => Value.pointer (some ⟨b, 0, none⟩)) ∘ fun i => (gs.map fun g => (β g).1).getD i 0) := by
        apply List.map_congr_left
        intro i hm
        show Value.pointer (some ⟨(β (gs.getD i 0)).1, 0, none⟩) = Value.pointer (some ⟨(gs.map fun g => (β g).1).getD i 0, 0, none⟩)
        rw [gd i (e2 i hm)]
      exact congrArg (fun l => Value.func (.func f) #[] (List.toArray l)) hl
    · cases ht
  | unk => exact viaI (s := .unk) hv ht
  | und => exact viaI (s := .und) hv ht
  | iv y => exact viaI (s := .iv y) hv ht
  | nilS => exact viaI (s := .nilS) hv ht
  | ref g off n fl => exact viaI (s := .ref g off n fl) hv ht
  | iptr y off => exact viaI (s := .iptr y off) hv ht
  | eptr g i off => exact viaI (s := .eptr g i off) hv ht
  | yld l => exact viaI (s := .yld l) hv ht
  | val u => exact viaI (s := .val u) hv ht
  | slN n => exact viaI (s := .slN n) hv ht
  | cv u f0 gs0 => exact viaI (s := .cv u f0 gs0) hv ht
theorem toPs_ok {gs : List Nat} {a : Act} (ha : a.tmps = tmps) : ∀ {H : Heap} {bx : Nat → Option Bx} (_ : Sim E H β tm bx tmps w) {os : List Operand} {xs : List PV} {fs : List Nat}, toPs gs bx (evS tm) os = some (xs, fs) →
    ∃ H', HLe H H' ∧ Sim E H' β tm (fzAll bx fs) tmps w ∧ PVRL H' (gs.map fun g => (β g).1) (os.map a.eval) xs
  | H, bx, h, [], xs, fs, ht => by simp only [toPs, Option.some.injEq, Prod.mk.injEq] at ht; obtain ⟨rfl, rfl⟩ := ht; exact ⟨H, HLe.refl _, h, trivial⟩
  | H, bx, h, o :: os, xs, fs, ht => by
    simp only [toPs] at ht
    split at ht
    · rename_i x f h1
      split at ht
      · rename_i ys gs' h2
        simp only [Option.some.injEq, Prod.mk.injEq] at ht; obtain ⟨rfl, rfl⟩ := ht
        obtain ⟨H1, l1, S1, V1⟩ := toP_ok h (ev_ok h ha o) h1
        have h2' : toPs gs (fzAll bx f) (evS tm) os = some (ys, gs') := by
          rw [← h2]
          clear h2
          induction os with
          | nil => rfl
          | cons o' os ih => simp only [toPs, toP_fz, ih]
        obtain ⟨H2, l2, S2, V2⟩ := toPs_ok ha S1 h2'
        refine ⟨H2, l1.trans l2, by rw [fzAll_append]; exact S2, ⟨?_, V2⟩⟩
        cases x with
        | iv x => exact VR.mono l2 V1
        | ptr i => exact V1
        | clo f is => exact V1
      · simp at ht
    · simp at ht
theorem pv_append {H : Heap} {bs : List Nat} : ∀ {vs us : List Value} {xs ys : List PV}, PVRL H bs vs xs → PVRL H bs us ys → PVRL H bs (vs ++ us) (xs ++ ys)
  | [], _, [], _, _, h => h
  | [], _, _ :: _, _, h, _ => h.elim
  | _ :: _, _, [], _, h, _ => h.elim
  | _ :: _, _, _ :: _, _, h, k => ⟨h.1, pv_append h.2 k⟩
theorem ptrs_pv {H : Heap} {gs : List Nat} {β : Nat → Nat × Nat} : ∀ {is : List Nat}, (∀ i ∈ is, i < gs.length) → PVRL H (gs.map fun g => (β g).1) ((is.map fun i => gs.getD i 0).map fun g => Value.pointer (some ⟨(β g).1, 0, none⟩)) (is.map .ptr)
  | [], _ => trivial
  | i :: is, h => by
    have h1 := h i (by simp)
    refine ⟨⟨by simpa using h1, ?_⟩, ptrs_pv fun j hj => h j (by simp [hj])⟩
    show Value.pointer (some ⟨(β (gs.getD i 0)).1, 0, none⟩) = boxV ((gs.map fun g => (β g).1).getD i 0)
    have e : (gs.map fun g => (β g).1).getD i 0 = (β (gs.getD i 0)).1 := by simp [h1]
    rw [e]; rfl
def updL (bx : Nat → Option Bx) : List Nat → List IV → Nat → Option Bx
  | g :: gs, z :: zs => updL (upd bx g (some (.var z))) gs zs
  | _, _ => bx
theorem updL_at : ∀ {gs : List Nat} {zs : List IV} {bx : Nat → Option Bx} (_ : gs.length = zs.length) (_ : gs.Pairwise (· ≠ ·)) (g : Nat), (∃ (i : Nat) (z : IV), gs[i]? = some g ∧ zs[i]? = some z ∧ updL bx gs zs g = some (.var z)) ∨ (¬ g ∈ gs ∧ updL bx gs zs g = bx g)
  | [], [], _, _, _, g => .inr ⟨by simp, rfl⟩
  | [], _ :: _, _, h, _, _ => by simp at h
  | _ :: _, [], _, h, _, _ => by simp at h
  | g0 :: gs, z0 :: zs, bx, h, hp, g => by
    obtain ⟨h1, h2⟩ := List.pairwise_cons.1 hp
    rcases updL_at (bx := upd bx g0 (some (.var z0))) (by simpa using h) h2 g with ⟨i, z, e1, e2, e3⟩ | ⟨e1, e2⟩
    · exact .inl ⟨i + 1, z, by simpa using e1, by simpa using e2, e3⟩
    · by_cases hg : g = g0
      · subst hg
        refine .inl ⟨0, z0, rfl, rfl, ?_⟩
        show updL (upd bx g (some (.var z0))) gs zs g = _
        rw [e2, upd_same]
      · refine .inr ⟨fun hm => ?_, ?_⟩
        · rcases List.mem_cons.1 hm with hm | hm
          · exact hg hm
          · exact e1 hm
        · show updL (upd bx g0 (some (.var z0))) gs zs g = _
          rw [e2, upd_other _ _ _ hg]
theorem Sim.turn {H : Heap} {bx : Nat → Option Bx} (h : Sim E H β tm bx tmps w) {gs : List Nat} {zs zs' : List IV} (hz : cloB bx gs zs) (hp : gs.Pairwise (· ≠ ·)) (hl : gs.length = zs'.length) {w' : World} {H' : Heap}
    (hb : BelowO (fun k => k ∈ gs.map (fun g => (β g).1) ∨ w.heap.size ≤ k) w w') (hh : HeapHas w' H') (he : HExtO (fun k => w.heap.size ≤ k) H H') (hbr : BRs (fun k => k ∈ gs.map (fun g => (β g).1) ∨ w.heap.size ≤ k) w' H' (gs.map fun g => (β g).1) zs') :
    Sim E H' β tm (updL bx gs zs') tmps w' := by
  have hvar : ∀ g ∈ gs, ∃ z, bx g = some (.var z) := fun g hg => cloB_get hz g hg
  have hlo : ∀ g ∈ gs, E.own (β g).1 := fun g hg => by obtain ⟨z, e⟩ := hvar g hg; exact (h.box g _ e).lo rfl
  have hown : ∀ k, (k ∈ gs.map (fun g => (β g).1) ∨ w.heap.size ≤ k) → E.own k := fun k hk => hk.elim (fun e => by obtain ⟨g, hg, rfl⟩ := List.mem_map.1 e; exact hlo g hg) (h.lo k)
  have hnot : ∀ g b, bx g = some b → b.alive = true → ¬ g ∈ gs → ¬ (β g).1 ∈ gs.map (fun g => (β g).1) := fun g b hg ha hn hm => by
    obtain ⟨g', hg', e⟩ := List.mem_map.1 hm
    obtain ⟨z, ez⟩ := hvar g' hg'
    exact hn (h.inj g' g _ _ ez hg rfl ha e ▸ hg')
  have key : ∀ g b, updL bx gs zs' g = some b → b.alive = true → ∃ b2, bx g = some b2 ∧ b2.alive = true := fun g b hg ha => by
    rcases updL_at (bx := bx) hl hp g with ⟨i, z, e1, _, _⟩ | ⟨_, e2⟩
    · obtain ⟨z0, e0⟩ := hvar g (List.mem_of_getElem? e1)
      exact ⟨_, e0, rfl⟩
    · rw [e2] at hg; exact ⟨b, hg, ha⟩
  refine ⟨hh, h.below.trans (hb.mono hown), fun k hk => h.lo k (Nat.le_trans hb.size hk), h.ext.step he h.lo, fun t => (h.slot t).mono he.1 (fun g' b1 hg' => ?_), fun g' b1 hg' => ?_, fun g1 g2 b1 b2 e1 e2 a1 a2 hee => ?_, fun p' k' hk' => ?_, h.marks.keep fun D hD => hb.block D fun ho => ho.elim (fun e => ?_) (fun hge => Nat.not_lt.2 hge (Array.getElem?_eq_some_iff.1 hD).1), fun g1 s g2 b2 R e1 e2 ha2 hR => ?_⟩
  · rcases updL_at (bx := bx) hl hp g' with ⟨i, z, e1, _, e3⟩ | ⟨_, e2⟩
    · obtain ⟨z0, e0⟩ := hvar g' (List.mem_of_getElem? e1)
      rw [e0] at hg'; simp at hg'; subst hg'
      exact ⟨.var z, e3, trivial, rfl⟩
    · exact ⟨b1, by rw [e2]; exact hg', shape.refl _, rfl⟩
  · rcases updL_at (bx := bx) hl hp g' with ⟨i, z, e1, e2, e3⟩ | ⟨en, e2⟩
    · rw [e3] at hg'; simp at hg'; subst hg'
      obtain ⟨b, f1, f2⟩ := BRs_get hbr i z e2
      have : b = (β g').1 := by
        rw [List.getElem?_map, e1] at f1
        simpa using f1.symm
      subst this
      exact ⟨hlo g' (List.mem_of_getElem? e1), f2.2⟩
    · rw [e2] at hg'
      by_cases hal : b1.alive = true
      · have hlt := (h.box g' b1 hg').lt hal
        have hn := hnot g' b1 hg' hal en
        refine (h.box g' b1 hg').keep (hb.block _ (fun ho => ho.elim hn (by omega))) he.1 (fun hnn => ?_) (fun s R eb hR => ?_)
        · cases hx : H' (β g').1 with
          | none => rfl
          | some arr =>
            rcases he.2 _ _ hx with h1 | h1
            · rw [hnn] at h1; exact absurd h1 (by simp)
            · have h1 : w.heap.size ≤ (β g').1 := h1
              omega
        · subst eb
          have hlR := (bld_row (h.box g' _ hg').2.2.1 hR).1
          refine ⟨hb.block _ (fun ho => ho.elim (fun e2 => ?_) (by omega)), fun hnn => ?_⟩
          · obtain ⟨g2, hg2, e3⟩ := List.mem_map.1 e2
            obtain ⟨z, ez⟩ := hvar g2 hg2
            exact h.hid g' s g2 _ R hg' ez rfl hR e3
          · cases hx : H' R with
            | none => rfl
            | some arr =>
              rcases he.2 _ _ hx with h1 | h1
              · rw [hnn] at h1; exact absurd h1 (by simp)
              · have h1 : w.heap.size ≤ R := h1
                omega
      · cases b1 <;> first | trivial | simp [Bx.alive] at hal
  · obtain ⟨c1, d1, f1⟩ := key g1 b1 e1 a1
    obtain ⟨c2, d2, f2⟩ := key g2 b2 e2 a2
    exact h.inj g1 g2 c1 c2 d1 d2 f1 f2 hee
  · obtain ⟨p1, p2, p3⟩ := h.pin p' k' hk'
    refine ⟨p1, ?_, p3⟩
    rcases updL_at (bx := bx) hl hp p' with ⟨i, z, _, _, e3⟩ | ⟨_, e2⟩
    · rw [e3]; simp
    · rw [e2]; exact p2
  · obtain ⟨g, hg, e2⟩ := List.mem_map.1 e
    obtain ⟨z, ez⟩ := hvar g hg
    obtain ⟨arr, e', hc⟩ := (h.box g _ ez).cells rfl
    have hD' := hD
    rw [← e2, hc] at hD'; cases hD'
  · rcases updL_at (bx := bx) hl hp g1 with ⟨i, z, _, _, e3⟩ | ⟨en, e3⟩
    · rw [e3] at e1; cases e1
    · rw [e3] at e1
      have hlt := (h.box g1 _ e1).lt rfl
      have hR' := hR.same (hb.block _ (fun ho => ho.elim (hnot g1 _ e1 rfl en) (by omega)))
      obtain ⟨c2, d2, f2⟩ := key g2 b2 e2 ha2
      exact h.hid g1 s g2 c2 R e1 d2 f2 hR'
end
section
variable {X : Cx} {nt : Nat} {σ : AS} {K : Exit → AS → Prop}
def callee : SV → Option (FuncId × List Nat)
  | .iv (.fn f) => some (f, [])
  | .clo f gs => some (f, gs)
  | _ => none
theorem CW.eff (n : Nat) (gs : List Nat) {id : Nat} {all : Array Oper} {o : Oper} {fo : Operand} {args : Array Operand} {ats : Array TypeId} (ho : all.toList[n]? = some o) (hd : dstsOk nt all.toList = true) (hg : o.guard = none) (hop : o.op = .call { callee := .value fo, args := args, argTypes := ats })
    (h : opsP X.T X.C all (all.toList.take n) σ.nx σ.tm σ.bx [] fun tm bx _ => match callee (evS tm fo), toPs gs bx (evS tm) args.toList with
      | some (f, hs), some (xs, fs) => ∃ is zs zs' r, ixAll gs hs = some is ∧ cloB bx gs zs ∧ gs.Pairwise (· ≠ ·) ∧ EffC X.P X.I f (xs ++ is.map .ptr) zs zs' r ∧
          opsP X.T X.C all (all.toList.drop (n + 1)) (σ.nx + n + 1) (putS tm o.dst (.iv r)) (updL (fzAll bx fs) gs zs') [] fun tm bx _ => K .normal ⟨tm, bx, σ.nx + all.size⟩
      | _, _ => False) : CW X nt (.region id all false) σ K := by
  intro ro E Q hI hQ M H β a w hS
  refine wpIn_region_list ?_
  have hsplit : all.toList = all.toList.take n ++ o :: all.toList.drop (n + 1) := by
    have hlt := (List.getElem?_eq_some_iff.1 ho).1
    have he := (List.getElem?_eq_some_iff.1 ho).2
    have h1 := List.take_append_drop n all.toList
    rw [List.drop_eq_getElem_cons hlt, he] at h1
    exact h1.symm
  have hd1 : dstsOk nt (all.toList.take n) = true := by
    unfold dstsOk at hd ⊢
    rw [List.all_eq_true] at hd ⊢
    exact fun x hx => hd x (List.mem_of_mem_take hx)
  have hd2 : dstsOk nt (all.toList.drop (n + 1)) = true := by
    unfold dstsOk at hd ⊢
    rw [List.all_eq_true] at hd ⊢
    exact fun x hx => hd x (List.mem_of_mem_drop hx)
  have hdo : ∀ d, o.dst = some d → d < nt := dstsOk_spec hd (List.mem_of_getElem? ho)
  rw [hsplit]
  refine list_on (E := E.mks M) X.hT X.ok hI (fun H1 β1 tm bx log a1 w1 hk hS1 => ?_) hd1 hS h
  split at hk
  · rename_i f hs xs fs hfo hargs
    obtain ⟨is, zs, zs', r, hix, hz, hpw, ⟨⟨fn, hf1, hf2, hf3⟩, hc⟩, hk⟩ := hk
    have hv := ev_ok hS1.sim rfl fo
    obtain ⟨H2, hle, S2, V2⟩ := toPs_ok (gs := gs) (a := a1) rfl hS1.sim hargs
    obtain ⟨i1, i2⟩ := ixAll_spec hix
    have gd : ∀ i, i < gs.length → (gs.map fun g => (β1 g).1).getD i 0 = (β1 (gs.getD i 0)).1 := fun i hi => by simp [hi]
    have hz2 : cloB (fzAll bx fs) gs zs := by
      have go : ∀ (gs : List Nat) (zs : List IV), cloB bx gs zs → cloB (fzAll bx fs) gs zs := by
        intro gs
        induction gs with
        | nil => intro zs h; cases zs with
          | nil => trivial
          | cons => exact h.elim
        | cons g gs ih => intro zs h; cases zs with
          | nil => exact h.elim
          | cons z zs => exact ⟨fzAll_var fs _ _ _ h.1, ih zs h.2⟩
      exact go gs zs hz
    have hcap : a1.eval fo = .func (.func f) #[] (hs.map fun g => Value.pointer (some ⟨(β1 g).1, 0, none⟩)).toArray := by
      unfold callee at hfo
      split at hfo
      · rename_i f0 heq
        simp only [Option.some.injEq, Prod.mk.injEq] at hfo
        obtain ⟨rfl, rfl⟩ := hfo
        rw [heq] at hv
        exact VR.asFn hv
      · rename_i f0 gs0 heq
        simp only [Option.some.injEq, Prod.mk.injEq] at hfo
        obtain ⟨rfl, rfl⟩ := hfo
        rw [heq] at hv
        exact hv.2
      · cases hfo
    have hPV : PVRL H2 (gs.map fun g => (β1 g).1) (args.toList.map a1.eval ++ hs.map fun g => Value.pointer (some ⟨(β1 g).1, 0, none⟩)) (xs ++ is.map .ptr) := by
      rw [i1]
      exact pv_append V2 (ptrs_pv i2)
    have hpb : (gs.map fun g => (β1 g).1).Pairwise (· ≠ ·) := by
      refine List.pairwise_map.2 (hpw.imp_of_mem fun {x y} hx hy hne e => hne ?_)
      obtain ⟨z1, hz1⟩ := cloB_get hz2 x hx
      obtain ⟨z2, hz3⟩ := cloB_get hz2 y hy
      exact S2.inj x y _ _ hz1 hz3 rfl rfl e
    have hown : ∀ k, (k ∈ gs.map (fun g => (β1 g).1) ∨ w1.heap.size ≤ k) → E.own k := fun k hk => hk.elim (fun e => by
      obtain ⟨g, hg, rfl⟩ := List.mem_map.1 e
      obtain ⟨z, ez⟩ := cloB_get hz2 g hg
      exact (S2.box g _ ez).lo rfl) (S2.lo k)
    have hcall := hc H2 w1 (gs.map fun g => (β1 g).1) (args.toList.map a1.eval ++ hs.map fun g => Value.pointer (some ⟨(β1 g).1, 0, none⟩)) hpb (fun w' hw' => hI _ (S2.below.trans (hw'.mono hown))) S2.has
      (cloB_brs S2 hz2 (fun g hg => .inl (List.mem_map.2 ⟨g, hg, rfl⟩))) hPV
    have hrun : (execOp a1.eval o).run X.P w1 = .ok (.enter f (args.toList.map a1.eval ++ hs.map fun g => Value.pointer (some ⟨(β1 g).1, 0, none⟩)).toArray) w1 := by
      simp only [execOp, hop, resolve, hcap, Deferred.ofValue, Sem.run_bind, Sem.run_pure, Result.andThen_ok, invoke, callFunc, run_program, hf1, hf2, hf3, Bool.false_eq_true, if_false]
      congr 2
      apply Array.ext'
      simp
    unfold wpListIn
    simp only [Region.wanted, hg, if_true]
    refine op_in (fun c hc => by rw [hop] at hc; cases hc) ?_
    unfold Oper.wp
    rw [hrun]
    refine hcall.mono ?_
    rintro e w2 ⟨v, H3, rfl, hh3, he3, hv3, hb3, hbr3⟩
    have hlz : gs.length = zs'.length := by have := BRs_len hbr3; simpa using this
    have T : St (E.mks M) nt H3 β1 (putS tm o.dst (.iv r)) (updL (fzAll bx fs) gs zs') (a1.put o.dst v) w2 := St.put ⟨S2.turn hz2 hpw hlz hb3 hh3 he3 hbr3, hS1.defers, hS1.size⟩ hdo (r := .iv r) hv3
    have := list_on (rest := []) (Q := Q) (ro := ro.1) (E := E.mks M) X.hT X.ok hI (all := all) (K := fun tm bx _ => K .normal ⟨tm, bx, σ.nx + all.size⟩) (fun H4 β4 tm bx log a4 w4 hk4 hS4 => hQ .normal _ M H4 β4 a4 w4 hk4 hS4) hd2 T hk
    rw [List.append_nil] at this; exact this
  · exact hk.elim
end
end Go.Proofs.Fl
namespace Go.Proofs.Fl
open Go.RowKit
def pend (n : Nat) (c : Option Code) (k : Nat) : Option Code := bif Nat.beq k n then c else none
def ans (n : Nat) (st : Bool) (k : Nat) : Bool := !(st && Nat.beq (k + 1) n)
theorem pend_ans (n : Nat) (c : Option Code) (k : Nat) : (pend n c (k + 1)).isNone = ans n c.isSome k := by
  unfold pend ans
  cases Nat.beq (k + 1) n <;> cases c <;> rfl
theorem pend_lt {n : Nat} {c : Option Code} {k : Nat} (h : k < n) : pend n c k = none := by
  unfold pend
  cases hb : Nat.beq k n with
  | true => have := Nat.eq_of_beq_eq_true hb; omega
  | false => rfl
theorem pend_end (n : Nat) (c : Option Code) : pend n c n = c := by unfold pend; rw [Nat.beq_refl]; rfl
def RecS (w : World) (l : Nat) (fn : FuncId) (tmps : Array Value) (ps : Array Tmp) (assign body : Code) (d : Option Code) : Prop :=
  ∃ D, w.heap[l]? = some (.loop { state := if d.isNone then .ready else .done, pending := d, fn, tmps, params := ps, assign, body, defers := D })
def jumpOf : Exit → Option (Option Code)
  | .normal => some none
  | .ret => some (some .ret)
  | .exit id => some (some (.exit id))
  | _ => none
structure IterJS (X : Cx) (l : Nat) (ys : List (List IV)) (st : Bool) (J : (Nat → Prop) → Nat → Heap → World → Prop) : Prop where
  inv : ∀ own k H w w', J own k H w → BelowO own w w' → X.I w'
  step : ∀ own k H H' w w', J own k H w → BelowO own w w' → HeapHas w' H' → HExtO own H H' → J own k H' w'
  sub : ∀ own own' k H w, J own k H w → (∀ b, own' b → own b) → J own' k H w
  round : ∀ own k H w args (hk : k < ys.length), J own k H w → HeapHas w H → (∀ b, w.heap.size ≤ b → own b) → VRL H args ys[k] →
    YieldAt (FW none) 0 X.P l args.toArray w (fun e w' => e = .returned (.bool (ans ys.length st k)) ∧ ∃ H', HeapHas w' H' ∧ HLe H H' ∧ w.heap.size ≤ w'.heap.size ∧ w'.os = w.os ∧ w'.tape = w.tape ∧ w'.output = w.output ∧
      (∀ b, own b → b < w.heap.size → w'.heap[b]? = w.heap[b]? ∧ (H b = none → H' b = none)) ∧ J (fun b => own b ∧ (b < w.heap.size ∨ w'.heap.size ≤ b)) (k + 1) H' w')
def IterCS (X : Cx) (f : FuncId) (zs : List IV) (ys : List (List IV)) (st : Bool) : Prop :=
  (∃ fn, X.P.funcs[f]? = some fn ∧ (fn.name == "runtime.NumGoroutine") = false ∧ fn.body.isNone = false) ∧
  ∀ (l : Nat) (J : (Nat → Prop) → Nat → Heap → World → Prop) (own : Nat → Prop) (H : Heap) (w : World) (bs : List Nat), IterJS X l ys st J → J own 0 H w → HeapHas w H → (∀ b, w.heap.size ≤ b → own b) → BRs own w H bs zs → bs.Pairwise (· ≠ ·) →
    CallsIn (FW none) 0 X.P f (yieldV l :: bs.map fun b => Value.pointer (some ⟨b, 0, none⟩)).toArray w (fun e w' => ∃ v own' H', e = .returned v ∧ HeapHas w' H' ∧ J own' ys.length H' w')
def roundKS (X : Cx) (nt : Nat) (body : Code) (j : Option Code) (bx' : Nat → Option Bx) : Exit → AS → Prop
  | .normal, σ => CW X.any nt body σ fun e σ' => jumpOf e = some j ∧ ∀ id b, bx' id = some b → σ'.bx id = some b
  | _, _ => False
structure RJS (n : Nat) (c : Option Code) (X : Cx) (E : Env) (nt : Nat) (β : Nat → Nat × Nat) (tm : Nat → SV) (inv : Nat → Nat → Option Bx) (l : Nat) (fn : FuncId) (tmps : Array Value) (ps : Array Tmp) (assign body : Code) (own : Nat → Prop) (k : Nat) (H : Heap) (w : World) : Prop where
  sim : Sim E H β tm (inv k) tmps w
  rec' : RecS w l fn tmps ps assign body (pend n c k)
  sub : ∀ b, own b → E.own b
  nl : ¬ own l
  el : E.own l
  bxs : ∀ g b, inv k g = some b → ¬ own (β g).1
  rws : ∀ g s R, inv k g = some (.bld s) → RowAt s w (β g).1 R → ¬ own R
  mks : ∀ D, ({ target := .collected D, args := #[] } : Deferred) ∈ E.mrk → ¬ own D
theorem RJS.iter {c : Option Code} {X : Cx} {E : Env} {nt : Nat} {β : Nat → Nat × Nat} {tm : Nat → SV} {inv : Nat → Nat → Option Bx} {l : Nat} {fn : FuncId} {tmps : Array Value} {ps : Array Tmp} {assign body : Code} {ys : List (List IV)} {nx : Nat}
    (hI : ∀ w, BelowO E.own E.w0 w → X.I w) (hnt : tmps.size = nt) (hps : ∀ p ∈ ps.toList, p < nt) (hys : ∀ y ∈ ys, y.length = ps.size)
    (htm : ∀ k t, okP (inv k) (tm t)) (hal : ∀ k g b, inv k g = some b → b.alive = true ∧ pinId ≤ g ∧ g < pinId + 8) (hdom : ∀ k g, inv k g ≠ none → inv (k + 1) g ≠ none) (hdom' : ∀ k g, inv (k + 1) g ≠ none → inv k g ≠ none)
    (hround : ∀ k (hk : k < ys.length), CW X.any nt assign ⟨putsL tm ps.toList ys[k], inv k, nx⟩ (roundKS X nt body (pend ys.length c (k + 1)) (inv (k + 1)))) : IterJS X l ys c.isSome (RJS ys.length c X E nt β tm inv l fn tmps ps assign body) where
  inv own k H w w' h hb := hI _ (h.sim.below.trans (hb.mono h.sub))
  step own k H H' w w' h hb hh he := by
    refine ⟨h.sim.stand hb hh he h.sub (fun g b hg _ => h.bxs g b hg) h.rws h.mks, ?_, h.sub, h.nl, h.el, h.bxs, fun g s R hg hR => h.rws g s R hg (hR.same (hb.block _ (h.bxs g _ hg))), h.mks⟩
    obtain ⟨D, hD⟩ := h.rec'
    exact ⟨D, (hb.block l h.nl).trans hD⟩
  sub own own' k H w h hs := ⟨h.sim, h.rec', fun b hb => h.sub b (hs b hb), fun e => h.nl (hs _ e), h.el, fun g b hg e => h.bxs g b hg (hs _ e), fun g s R hg hR e => h.rws g s R hg hR (hs _ e), fun D hD e => h.mks D hD (hs _ e)⟩
  round own k H w args hk h hh hlo hargs := by
    obtain ⟨D, hD⟩ := h.rec'
    rw [pend_lt hk] at hD
    replace hD : w.heap[l]? = some (.loop { state := .ready, pending := none, fn, tmps, params := ps, assign, body, defers := D }) := hD
    have hlen := hargs.length
    have hlt : l < w.heap.size := (Array.getElem?_eq_some_iff.1 hD).1
    have hsz : args.toArray.size = ps.size := by
      simp only [List.size_toArray, hlen]; exact hys _ (List.getElem_mem hk)
    refine ⟨fn, _, assign, body, run_yield hD hsz, ?_⟩
    refine roundIn_of_wpIn trivial ?_
    -- the blocks that the round may write
    let ow : Nat → Prop := fun b => E.own b ∧ ¬ (own b ∧ b < w.heap.size) ∧ b ≠ l ∧ ¬ ({ target := .collected b, args := #[] } : Deferred) ∈ E.mrk
    let pn : Nat → Option (Nat × Nat) := fun g => match inv k g with | some _ => some (β g) | none => none
    have mklt : ∀ D, ({ target := .collected D, args := #[] } : Deferred) ∈ E.mrk → w.heap[D]? = some (.deferred (some [])) := fun D hD => by
      obtain ⟨D', e, _, hb⟩ := h.sim.marks.2 _ hD
      cases e
      exact hb
    have olo : ∀ b, w.heap.size ≤ b → ow b := fun b hb => ⟨h.sim.lo b hb, fun ⟨_, h2⟩ => by omega, by omega, fun hm => by
      have := (Array.getElem?_eq_some_iff.1 (mklt b hm)).1
      omega⟩
    have obx : ∀ g b, inv k g = some b → b.alive = true → ow (β g).1 := fun g b hg ha => by
      obtain ⟨arr, e', hc⟩ := (h.sim.box g b hg).cells ha
      exact ⟨(h.sim.box g b hg).lo ha, fun ⟨h1, _⟩ => h.bxs g b hg h1, fun e => (by rw [e, hD] at hc; cases hc), fun hm => (by rw [mklt _ hm] at hc; cases hc)⟩
    have opn : ∀ g q, pn g = some q → β g = q ∧ inv k g ≠ none ∧ g < pinId + 8 ∧ pinId ≤ g := fun g q hq => by
      have hq' : (match inv k g with | some _ => some (β g) | none => none) = some q := hq
      cases hg : inv k g with
      | none => rw [hg] at hq'; cases hq'
      | some b =>
        rw [hg] at hq'
        have := hal k g b hg
        exact ⟨by simpa using hq', by simp, this.2.2, this.2.1⟩
    have orw : ∀ g s R, inv k g = some (.bld s) → RowAt s w (β g).1 R → ow R := fun g s R hg hR => by
      have hb := h.sim.box g _ hg
      obtain ⟨_, _, arr, _, fz, hx⟩ := bld_row hb.2.2.1 hR
      exact ⟨(hb.2.2.2 R hR).1, fun ⟨h1, _⟩ => h.rws g s R hg hR h1, fun e => (by rw [e, hD] at hx; cases hx), fun hm => (by rw [mklt _ hm] at hx; cases hx)⟩
    have S1 := (h.sim.rebase (own := ow) (pin := pn) (M := []) obx orw olo opn (MarksOk.nil _ _))
    obtain ⟨S2, hs2⟩ := S1.puts (ps := ps.toList) (ys := ys[k]) (vs := args) hnt hps hargs
    have hI1 : ∀ w', BelowO ow w w' → X.I w' := fun w' hb => hI _ (h.sim.below.trans (hb.mono fun b hb => hb.1))
    have etm : (ps.zip args.toArray).foldl (fun tmps (t, a) => tmps.setIfInBounds t a) tmps = (ps.toList.zip args).foldl (fun tmps p => tmps.setIfInBounds p.1 p.2) tmps := by
      rw [← Array.foldl_toList, Array.toList_zip]
    have r1 := hround k hk ⟨some l, trivial⟩ ⟨ow, w, H, pn, []⟩ (Exit.then (fun a₁ w₁ => ∃ w₂, (Instr.beginRound l).run X.P w₁ = .ok () w₂ ∧ body.wpIn ((FW none).inRound l) 0 X.P (roundPost X.P l (fun e w' => e = .returned (.bool (ans ys.length c.isSome k)) ∧ ∃ H', HeapHas w' H' ∧ HLe H H' ∧ w.heap.size ≤ w'.heap.size ∧ w'.os = w.os ∧ w'.tape = w.tape ∧ w'.output = w.output ∧
      (∀ b, own b → b < w.heap.size → w'.heap[b]? = w.heap[b]? ∧ (H b = none → H' b = none)) ∧ RJS ys.length c X E nt β tm inv l fn tmps ps assign body (fun b => own b ∧ (b < w.heap.size ∨ w'.heap.size ≤ b)) (k + 1) H' w')) a₁ w₂) (fun _ _ _ => False)) hI1 ?_ [] H β
      { tmps := (ps.zip args.toArray).foldl (fun tmps (t, a) => tmps.setIfInBounds t a) tmps, defers := [] } w ⟨by rw [etm]; exact S2, rfl, by rw [etm]; exact hs2⟩
    · exact r1
    intro e σ' M1 H1 β1 a1 w1 hk1 hS1
    cases e with
    | normal => ?_
    | _ => exact hk1.elim
    have hw1 : w1.heap[l]? = w.heap[l]? := hS1.sim.below.block l (fun ho => ho.2.2.1 rfl)
    have hD1 := hw1.trans hD
    refine ⟨_, run_beginRound hD1 rfl, ?_⟩
    -- the body
    have T1 : Sim ⟨ow, w1, H1, pn, M1⟩ H1 β1 σ'.tm σ'.bx a1.tmps w1 := hS1.sim.rebase (fun g b hg ha => (hS1.sim.box g b hg).lo ha) (fun g s R hg hR => ((hS1.sim.box g _ hg).2.2.2 R hR).1) hS1.sim.lo hS1.sim.pin hS1.sim.marks
    let w2 := w1.putObj l (.loop { state := .busy, pending := none, fn, tmps, params := ps, assign, body, defers := D })
    have T2 : Sim ⟨fun b => ow b ∨ b = l, w1, H1, pn, M1⟩ H1 β1 σ'.tm σ'.bx a1.tmps w1 := hS1.sim.rebase (fun g b hg ha => .inl ((hS1.sim.box g b hg).lo ha)) (fun g s R hg hR => .inl ((hS1.sim.box g _ hg).2.2.2 R hR).1) (fun k hk => .inl (hS1.sim.lo k hk)) hS1.sim.pin
      ⟨hS1.sim.marks.1, fun d hd => by obtain ⟨D', e, ho, hb⟩ := hS1.sim.marks.2 d hd; exact ⟨D', e, .inl ho, hb⟩⟩
    have T3 : Sim ⟨fun b => ow b ∨ b = l, w1, H1, pn, M1⟩ H1 β1 σ'.tm σ'.bx a1.tmps w2 := T2.poke _ hD1 rfl (.inr rfl) (fun d hd e => by
      obtain ⟨D', e', ho, hb⟩ := hS1.sim.marks.2 d hd
      rw [e] at e'; cases e'
      rw [hD1] at hb; cases hb)
    have hne1 : ∀ g b, σ'.bx g = some b → b.alive = true → (β1 g).1 ≠ l := fun g b hg ha e => by
      obtain ⟨arr, e', hc⟩ := (hS1.sim.box g b hg).cells ha
      rw [e, hD1] at hc; cases hc
    have T4 : Sim ⟨ow, w2, H1, pn, M1⟩ H1 β1 σ'.tm σ'.bx a1.tmps w2 := T3.rebase (fun g b hg ha => (hS1.sim.box g b hg).lo ha) (fun g s R hg hR => ((hS1.sim.box g _ hg).2.2.2 R (hR.same (World.putObj_heap_other (hne1 g _ hg rfl)))).1) (fun k hk => hS1.sim.lo k (by simpa [w2] using hk)) T3.pin
      ⟨T3.marks.1, fun d hd => by
        obtain ⟨D', e, ho, hb⟩ := T3.marks.2 d hd
        refine ⟨D', e, ho.resolve_right (fun e' => ?_), hb⟩
        obtain ⟨D2, e2, ho2, hb2⟩ := hS1.sim.marks.2 d hd
        rw [e] at e2; cases e2
        rw [e', hD1] at hb2; cases hb2⟩
    have hI2 : ∀ w', BelowO ow w2 w' → X.I w' := fun w' hb => by
      refine hI _ (h.sim.below.trans ?_)
      have b1 : BelowO E.own w w1 := hS1.sim.below.mono (fun b hb => hb.1)
      have b2 : BelowO E.own w1 w2 := ⟨rfl, rfl, rfl, by simp [w2], fun b hb => World.putObj_heap_other (fun e => hb (by rw [e]; exact h.el))⟩
      exact b1.trans (b2.trans (hb.mono (fun b hb => hb.1)))
    refine hk1 ⟨some l, trivial⟩ ⟨ow, w2, H1, pn, []⟩ _ hI2 ?_ M1 H1 β1 a1 w2 ⟨T4, hS1.defers, hS1.size⟩
    intro e3 σ3 M3 H3 β3 a3 w3 hk3 hS3
    obtain ⟨hj3, hk3⟩ := hk3
    have hD3 : w3.heap[l]? = some (.loop { state := .busy, pending := none, fn, tmps, params := ps, assign, body, defers := D }) := by
      rw [hS3.sim.below.block l (fun ho => ho.2.2.1 rfl)]
      exact World.putObj_heap_same (Array.getElem?_eq_some_iff.1 hD1).1
    suffices hend : ∃ v w', (Instr.endRound l (pend ys.length c (k + 1))).run X.P w3 = .ok v w' ∧ (Ending.returned v = .returned (.bool (ans ys.length c.isSome k)) ∧ ∃ H', HeapHas w' H' ∧ HLe H H' ∧ w.heap.size ≤ w'.heap.size ∧ w'.os = w.os ∧ w'.tape = w.tape ∧ w'.output = w.output ∧
      (∀ b, own b → b < w.heap.size → w'.heap[b]? = w.heap[b]? ∧ (H b = none → H' b = none)) ∧ RJS ys.length c X E nt β tm inv l fn tmps ps assign body (fun b => own b ∧ (b < w.heap.size ∨ w'.heap.size ≤ b)) (k + 1) H' w') from by
      cases e3 with
      | normal => simp only [jumpOf, Option.some.injEq] at hj3; rw [← hj3] at hend; exact hend
      | ret => simp only [jumpOf, Option.some.injEq] at hj3; rw [← hj3] at hend; exact hend
      | exit id => simp only [jumpOf, Option.some.injEq] at hj3; rw [← hj3] at hend; exact hend
      | _ => simp [jumpOf] at hj3
    refine ⟨_, _, run_endRound (pend ys.length c (k + 1)) hD3, by rw [pend_ans], H3, ?_⟩
    have nl3 : ∀ b arr, H3 b = some arr → b ≠ l := fun b arr hb e => by
      obtain ⟨t, fr, ht⟩ := hS3.sim.has b arr hb
      rw [e, hD3] at ht; cases ht
    have hle : HLe H H3 := hS1.sim.ext.1.trans hS3.sim.ext.1
    have hsz2 : w2.heap.size = w1.heap.size := by simp [w2]
    have hsz3 : w.heap.size ≤ w3.heap.size := Nat.le_trans hS1.sim.below.size (by have : w2.heap.size ≤ w3.heap.size := hS3.sim.below.size; omega)
    have hout : ∀ b, ¬ ow b → b ≠ l → w3.heap[b]? = w.heap[b]? := fun b hb hbl => by
      rw [hS3.sim.below.block b hb, show w2.heap[b]? = w1.heap[b]? from World.putObj_heap_other hbl, hS1.sim.below.block b hb]
    have hext : ∀ b arr, H3 b = some arr → H b = some arr ∨ ow b := fun b arr hb => by
      rcases hS3.sim.ext.2 b arr hb with h1 | h1
      · exact hS1.sim.ext.2 b arr h1
      · exact .inr h1
    have hβ : ∀ g b, inv k g = some b → β3 g = β g := fun g b hg => (hS3.sim.pin g (β g) (by show (match inv k g with | some _ => some (β g) | none => none) = _; rw [hg])).1
    have hinv : ∀ g b, inv (k + 1) g = some b → ∃ b0, inv k g = some b0 := fun g b hg => by
      cases hx : inv k g with
      | none => exact absurd hx (hdom' k g (by rw [hg]; simp))
      | some b0 => exact ⟨b0, rfl⟩
    have hb4 : BelowO E.own w (w3.putObj l (.loop { state := if (pend ys.length c (k + 1)).isNone then .ready else .done, pending := pend ys.length c (k + 1), fn, tmps, params := ps, assign, body, defers := D })) := by
      have b1 : BelowO E.own w w1 := hS1.sim.below.mono (fun b hb => hb.1)
      have b2 : BelowO E.own w1 w2 := ⟨rfl, rfl, rfl, by simp [w2], fun b hb => World.putObj_heap_other (fun e => hb (by rw [e]; exact h.el))⟩
      have b3 : BelowO E.own w2 w3 := hS3.sim.below.mono (fun b hb => hb.1)
      have b4 : BelowO E.own w3 (w3.putObj l (.loop { state := if (pend ys.length c (k + 1)).isNone then .ready else .done, pending := pend ys.length c (k + 1), fn, tmps, params := ps, assign, body, defers := D })) := ⟨rfl, rfl, rfl, by simp, fun b hb => World.putObj_heap_other (fun e => hb (by rw [e]; exact h.el))⟩
      exact b1.trans (b2.trans (b3.trans b4))
    refine ⟨fun b arr hb => ?_, hle, by simpa using hsz3, hb4.os, hb4.tape, hb4.output, fun b hb hbw => ⟨?_, fun hn => ?_⟩, ?_⟩
    · obtain ⟨t, fr, ht⟩ := hS3.sim.has b arr hb
      exact ⟨t, fr, (World.putObj_heap_other (nl3 b arr hb)).trans ht⟩
    · have hbl : b ≠ l := fun e => h.nl (by rw [← e]; exact hb)
      exact (World.putObj_heap_other hbl).trans (hout b (fun ho => ho.2.1 ⟨hb, hbw⟩) hbl)
    · cases hx : H3 b with
      | none => rfl
      | some arr =>
        rcases hext b arr hx with h1 | h1
        · rw [hn] at h1; cases h1
        · exact absurd ⟨hb, hbw⟩ h1.2.1
    · refine ⟨?_, ⟨D, World.putObj_heap_same (Array.getElem?_eq_some_iff.1 hD3).1⟩, fun b hb => h.sub b hb.1, fun hb => h.nl hb.1, h.el, fun g b hg hb => ?_, fun g s R hg hR hb => ?_, fun D' hD' hb => h.mks D' hD' hb.1⟩
      · refine ⟨fun b arr hb => ?_, h.sim.below.trans hb4, fun b hb => h.sim.lo b (Nat.le_trans hsz3 (by simpa using hb)), h.sim.ext.step (own' := ow) ⟨hle, hext⟩ (fun b hb => hb.1), fun t => (h.sim.slot t).okP hle (htm (k + 1) t), fun g b hg => ?_, fun g g' b b' hg hg' ha ha' e => ?_, fun g q hq => ?_, ⟨h.sim.marks.1, fun d hd => ?_⟩, fun g s g' b R hg hg' ha hR => ?_⟩
        · obtain ⟨t, fr, ht⟩ := hS3.sim.has b arr hb
          exact ⟨t, fr, (World.putObj_heap_other (nl3 b arr hb)).trans ht⟩
        · obtain ⟨b0, hb0⟩ := hinv g b hg
          have ha := (hal (k + 1) g b hg).1
          have hbr := hS3.sim.box g b (hk3 g b hg)
          have hcell := hbr.cells ha
          rw [hβ g b0 hb0] at hbr hcell
          refine (hbr.own_mono (fun b hb => hb.1)).keep (World.putObj_heap_other fun e => ?_) (HLe.refl _) id (fun s R eb hR => ⟨World.putObj_heap_other fun e => ?_, id⟩)
          · obtain ⟨arr, e', hc⟩ := hcell
            rw [e, hD3] at hc; cases hc
          · subst eb
            obtain ⟨_, _, arr, _, fz, hx⟩ := bld_row hbr.2.2.1 hR
            rw [e, hD3] at hx; cases hx
        · obtain ⟨b0, hb0⟩ := hinv g b hg
          obtain ⟨b0', hb0'⟩ := hinv g' b' hg'
          rw [← hβ g b0 hb0, ← hβ g' b0' hb0'] at e
          exact hS3.sim.inj g g' b b' (hk3 g b hg) (hk3 g' b' hg') ha ha' e
        · obtain ⟨p1, p2, p3⟩ := h.sim.pin g q hq
          exact ⟨p1, hdom k g p2, p3⟩
        · obtain ⟨D', e, ho, hb⟩ := h.sim.marks.2 d hd
          have hDl : D' ≠ l := fun e' => by rw [e', hD] at hb; cases hb
          refine ⟨D', e, ho, (World.putObj_heap_other hDl).trans ((hout D' (fun ho' => ho'.2.2.2 (e ▸ hd)) hDl).trans hb)⟩
        · obtain ⟨b0, hb0⟩ := hinv g _ hg
          obtain ⟨b0', hb0'⟩ := hinv g' b hg'
          have hbr := hS3.sim.box g _ (hk3 g _ hg)
          rw [← hβ g b0 hb0] at hR
          rw [← hβ g' b0' hb0']
          refine hS3.sim.hid g s g' b R (hk3 g _ hg) (hk3 g' b hg') ha (hR.same (World.putObj_heap_other fun e => ?_))
          obtain ⟨arr, e', hc⟩ := hbr.cells rfl
          rw [e, hD3] at hc; cases hc
      · obtain ⟨b0, hb0⟩ := hinv g b hg
        exact h.bxs g b0 hb0 hb.1
      · obtain ⟨b0, hb0⟩ := hinv g _ hg
        have hbr := hS3.sim.box g _ (hk3 g _ hg)
        rw [← hβ g b0 hb0] at hR
        have hR3 : RowAt s w3 (β3 g).1 R := hR.same (World.putObj_heap_other fun e => by
          obtain ⟨arr, e', hc⟩ := hbr.cells rfl
          rw [e, hD3] at hc; cases hc)
        have hlt := (bld_row hbr.2.2.1 hR3).1
        have how := (hbr.2.2.2 R hR3).1
        rcases hb.2 with h1 | h1
        · exact how.2.1 ⟨hb.1, h1⟩
        · have h1 : w3.heap.size ≤ R := by simpa using h1
          omega
theorem CW.rangeS {c : Option Code} {X : Cx} {nt : Nat} {σ : AS} {K : Exit → AS → Prop} (hro : ∀ r, X.ro r → r = none) {g : Operand} {ps : Array Tmp} {assign body : Code} {f : FuncId} {gs : List Nat} {zs : List IV} {ys : List (List IV)} (hg : evS σ.tm g = .clo f gs) (hz : cloB σ.bx gs zs) (hgs : gs.Pairwise (· ≠ ·))
    (hit : IterCS X f zs ys c.isSome) (tm : Nat → SV) (inv : Nat → Nat → Option Bx) {nx : Nat} (hps : ∀ p ∈ ps.toList, p < nt) (hys : ∀ y ∈ ys, y.length = ps.size)
    (h0 : ∀ t, tm t = .unk ∨ σ.tm t = tm t) (htm : ∀ k t, okP (inv k) (tm t)) (hb0 : ∀ g b, inv 0 g = some b → σ.bx g = some b) (hdj : ∀ id ∈ gs, inv 0 id = none)
    (hal : ∀ k g b, inv k g = some b → b.alive = true ∧ pinId ≤ g ∧ g < pinId + 8) (hdom : ∀ k g, inv k g ≠ none ↔ inv (k + 1) g ≠ none) (hpinned : ∀ i, i < 8 → σ.bx (pinId + i) ≠ none → inv 0 (pinId + i) ≠ none)
    (hround : ∀ k (hk : k < ys.length), CW X.any nt assign ⟨putsL tm ps.toList ys[k], inv k, nx⟩ (roundKS X nt body (pend ys.length c (k + 1)) (inv (k + 1)))) (hne : c = none ∨ 0 < ys.length) (hend : match c with | none => K .normal ⟨tm, inv ys.length, nx⟩ | some c => CW X nt c ⟨tm, inv ys.length, nx⟩ K) : CW X nt (.rangeFunc g ps assign body) σ K := by
  intro ro E Q hI hQ M H β a w hS
  have er := hro ro.1 ro.2
  rw [er]
  refine wpIn_rangeFunc fun fn _ => ?_
  obtain ⟨⟨fn', hf1, hf2, hf3⟩, hcall⟩ := hit
  let w1 : World := (w.alloc (.deferred (some []))).alloc (.loop { state := .ready, pending := none, fn, tmps := a.tmps, params := ps, assign, body, defers := w.heap.size })
  have hv := ev_ok hS.sim rfl g
  rw [hg] at hv
  obtain ⟨hv1, hv2⟩ := hv
  let bs := gs.map fun g => (β g).1
  have hbel : Below w.heap.size w w1 := ((Below.refl _ _).alloc (Nat.le_refl _) _).alloc (by simp) _
  have hw1l : w1.heap[w.heap.size + 1]? = some (.loop { state := .ready, pending := none, fn, tmps := a.tmps, params := ps, assign, body, defers := w.heap.size }) := by
    have := World.alloc_heap_new (w.alloc (.deferred (some []))) (.loop { state := .ready, pending := none, fn, tmps := a.tmps, params := ps, assign, body, defers := w.heap.size })
    rwa [World.size_alloc] at this
  have hw1D : w1.heap[w.heap.size]? = some (.deferred (some [])) :=
    (Below.heap_alloc (w.alloc (.deferred (some []))) _ w.heap.size (by simp)).trans (World.alloc_heap_new w _)
  have hsz1 : w1.heap.size = w.heap.size + 2 := by simp [w1]
  have G1 := hS.sim.grow hbel (fun b arr hb => by
    obtain ⟨t, fr, ht⟩ := hS.sim.has b arr hb
    exact ⟨t, fr, (hbel.block b (hS.sim.has.lt hb)).trans ht⟩) (HExt.refl _ _)
  let M' : List Deferred := { target := .collected w.heap.size, args := #[] } :: M
  have G2 : Sim (E.mks M') H β tm (inv 0) a.tmps w1 := by
    refine ⟨G1.has, G1.below, G1.lo, G1.ext, fun t => ?_, fun g b hb => G1.box g b (hb0 g b hb), fun g g' b b' h1 h2 => G1.inj g g' b b' (hb0 g b h1) (hb0 g' b' h2), fun g q hq => ?_, ?_, ?_⟩
    · rcases h0 t with e | e
      · rw [e]; trivial
      · have := G1.slot t
        rw [e] at this
        exact this.okP (HLe.refl _) (htm 0 t)
    · obtain ⟨p1, p2, p3, p4⟩ := G1.pin g q hq
      have hh := hpinned (g - pinId) (by omega)
      rw [show pinId + (g - pinId) = g by omega] at hh
      exact ⟨p1, hh p2, p3, p4⟩
    rotate_left
    · exact fun g s g' b R h1 h2 ha hR => G1.hid g s g' b R (hb0 g _ h1) (hb0 g' b h2) ha hR
    · refine ⟨List.pairwise_cons.2 ⟨fun d hd e => ?_, G1.marks.1⟩, fun d hd => ?_⟩
      · obtain ⟨D, e', _, hb⟩ := hS.sim.marks.2 d hd
        rw [← e] at e'; cases e'
        have := (Array.getElem?_eq_some_iff.1 hb).1
        omega
      · rcases List.mem_cons.1 hd with rfl | hd
        · exact ⟨_, rfl, hS.sim.lo _ (Nat.le_refl _), hw1D⟩
        · exact G1.marks.2 d hd
  refine ⟨w.heap.size + 1, [{ target := .collected w.heap.size, args := #[] }], w1, { target := .fn (.func f) (bs.map fun b => Value.pointer (some ⟨b, 0, none⟩)).toArray, args := #[yieldV (w.heap.size + 1)] }, w1, f, (yieldV (w.heap.size + 1) :: bs.map fun b => Value.pointer (some ⟨b, 0, none⟩)).toArray, w1, ?_, ?_, fun _ _ => trivial, ?_, fun e => (by cases e), ?_⟩
  · exact run_enterLoop_outer fn a.tmps ps assign body
  · simp only [resolve, hv2, Deferred.ofValue, Sem.run_pure]
    simp [Act.eval, yieldV, bs]
  · simp only [invoke, callFunc, Sem.run_bind, run_program, Result.andThen_ok, hf1, hf2, hf3, Bool.false_eq_true, if_false, Sem.run_pure]
    congr 2
    apply Array.ext'
    simp
  · refine (hcall (w.heap.size + 1) (RJS ys.length c X (E.mks M') nt β tm inv (w.heap.size + 1) fn a.tmps ps assign body) (fun b => b ∈ bs ∨ w1.heap.size ≤ b) H w1 bs
      (RJS.iter hI hS.size hps hys htm hal (fun k g => (hdom k g).1) (fun k g => (hdom k g).2) hround) ?_ G2.has (fun b hb => .inr hb) ?_ ?_).mono ?_
    · have hbs : ∀ b ∈ bs, b < w.heap.size ∧ E.own b := fun b hb => by
        obtain ⟨g', hg', rfl⟩ := List.mem_map.1 hb
        obtain ⟨z, hz'⟩ := cloB_get hz g' hg'
        exact ⟨(hS.sim.box g' _ hz').lt rfl, (hS.sim.box g' _ hz').lo rfl⟩
      refine ⟨G2, ⟨_, by rw [show pend ys.length c 0 = none by rcases hne with e | e; (rw [e]; unfold pend; cases Nat.beq 0 ys.length <;> rfl); exact pend_lt e]; exact hw1l⟩, fun b hb => hb.elim (fun h => (hbs b h).2) (fun h => G1.lo b h), fun hb => hb.elim (fun h => by have := (hbs _ h).1; omega) (fun h => by omega), hS.sim.lo _ (by omega), fun g' b hg' hb => ?_, fun g' s R hg' hR hb => ?_, fun D hD hb => ?_⟩
      · have hbx := hb0 g' b hg'
        have ha := (hal 0 g' b hg').1
        rcases hb with hb | hb
        · obtain ⟨g2, hg2, e⟩ := List.mem_map.1 hb
          obtain ⟨z, hz'⟩ := cloB_get hz g2 hg2
          have := hS.sim.inj g2 g' _ b hz' hbx rfl ha e
          subst this
          rw [hdj g2 hg2] at hg'; cases hg'
        · have := (G1.box g' b hbx).lt ha
          omega
      · have hbx := hb0 g' _ hg'
        rcases hb with hb | hb
        · obtain ⟨g2, hg2, e⟩ := List.mem_map.1 hb
          obtain ⟨z, hz'⟩ := cloB_get hz g2 hg2
          exact G1.hid g' s g2 _ R hbx hz' rfl hR e
        · have := (bld_row (G1.box g' _ hbx).2.2.1 hR).1
          omega
      · obtain ⟨D', e, _, hx⟩ := G2.marks.2 _ hD
        cases e
        have hlt := (Array.getElem?_eq_some_iff.1 hx).1
        rcases hb with hb | hb
        · obtain ⟨g2, hg2, e⟩ := List.mem_map.1 hb
          obtain ⟨z, hz'⟩ := cloB_get hz g2 hg2
          obtain ⟨arr, e', hc⟩ := (G1.box g2 _ hz').cells rfl
          rw [e, hx] at hc; cases hc
        · omega
    · exact cloB_brs G1 hz (fun g' hg' => .inl (List.mem_map.2 ⟨g', hg', rfl⟩))
    · refine List.pairwise_map.2 (hgs.imp_of_mem fun {x y} hx hy hne e => hne ?_)
      obtain ⟨z1, hz1⟩ := cloB_get hz x hx
      obtain ⟨z2, hz2⟩ := cloB_get hz y hy
      exact hS.sim.inj x y _ _ hz1 hz2 rfl rfl e
    · rintro e w3 ⟨v, own', H3, rfl, hh3, hJ⟩
      obtain ⟨D3, hD3⟩ := hJ.rec'
      rw [pend_end] at hD3
      have hst : St (E.mks M') nt H3 β tm (inv ys.length) { a with defers := [{ target := .collected w.heap.size, args := #[] }] ++ a.defers } (w3.putObj (w.heap.size + 1) (.loop { state := .exhausted, pending := c, fn, tmps := a.tmps, params := ps, assign, body, defers := D3 })) := by
        refine ⟨hJ.sim.poke _ hD3 rfl hJ.el (fun d hd e => ?_), ?_, hS.size⟩
        · obtain ⟨D', e', _, hb⟩ := hJ.sim.marks.2 d hd
          rw [e] at e'; cases e'
          rw [hD3] at hb; cases hb
        · show _ ++ a.defers = _
          rw [hS.defers]; rfl
      refine ⟨c, _, run_endLoop hD3 (by cases c <;> simp), ?_⟩
      cases c with
      | none => exact hQ .normal ⟨tm, inv ys.length, nx⟩ M' H3 β _ _ hend hst
      | some c =>
        have := hend ro E Q hI hQ M' H3 β _ _ hst
        rw [er] at this
        exact this
end Go.Proofs.Fl
namespace Go.Proofs.Fl
open Go.RowKit
section
variable {X : Cx} {nt l : Nat} {ys : List (List IV)} {st : Bool} {J : (Nat → Prop) → Nat → Heap → World → Prop} {σ : AS} {k : Nat} {K : Exit → AS → Nat → Prop}
theorem WY.liftS (hJ : IterJS X l ys st J) {c : Code} (h : CW X nt c σ (fun e σ' => K e σ' k)) : WY X nt J c σ k K := by
  unfold WY
  rintro Q hQ own H β a w ⟨⟨M, hS⟩, hj⟩
  refine h ⟨none, X.r0⟩ ⟨own, w, H, fun _ => none, []⟩ Q (fun w' hb => hJ.inv _ _ _ _ _ hj hb) (fun e σ' M' H' β' a' w' hk hS' => hQ e σ' k own H' β' a' w' hk ⟨⟨M', ?_, hS'.defers, hS'.size⟩, hJ.step own k H H' w w' hj hS'.sim.below hS'.sim.has hS'.sim.ext⟩) M H β a w hS
  exact hS'.sim.rebase (fun g b hg ha => (hS'.sim.box g b hg).lo ha) (fun g s R hg hR => ((hS'.sim.box g _ hg).2.2.2 R hR).1) hS'.sim.lo hS'.sim.pin hS'.sim.marks
theorem WY.yieldE (hJ : IterJS X l ys st J) (n : Nat) {id : Nat} {all : Array Oper} {o : Oper} {fo : Operand} {args : Array Operand} {ats : Array TypeId} (ho : all.toList[n]? = some o) (hd : dstsOk nt all.toList = true) (hg : o.guard = none) (hop : o.op = .call { callee := .value fo, args := args, argTypes := ats })
    (h : opsP X.T X.C all (all.toList.take n) σ.nx σ.tm σ.bx [] fun tm bx _ => match evS tm fo, toIs bx (evS tm) args.toList with
      | .yld l', some (y, fs) => l' = l ∧ ys[k]? = some y ∧ opsP X.T X.C all (all.toList.drop (n + 1)) (σ.nx + n + 1) (putS tm o.dst (.iv (.bool (ans ys.length st k)))) (fzAll bx fs) [] fun tm bx _ => K .normal ⟨tm, bx, σ.nx + all.size⟩ (k + 1)
      | _, _ => False) : WY X nt J (.region id all false) σ k K := by
  unfold WY
  rintro Q hQ own H β a w ⟨⟨M, hS⟩, hj⟩
  refine wpIn_region_list ?_
  have hsplit : all.toList = all.toList.take n ++ o :: all.toList.drop (n + 1) := by
    have hlt := (List.getElem?_eq_some_iff.1 ho).1
    have he := (List.getElem?_eq_some_iff.1 ho).2
    have h1 := List.take_append_drop n all.toList
    rw [List.drop_eq_getElem_cons hlt, he] at h1
    exact h1.symm
  have hd1 : dstsOk nt (all.toList.take n) = true := by
    unfold dstsOk at hd ⊢
    rw [List.all_eq_true] at hd ⊢
    exact fun x hx => hd x (List.mem_of_mem_take hx)
  have hd2 : dstsOk nt (all.toList.drop (n + 1)) = true := by
    unfold dstsOk at hd ⊢
    rw [List.all_eq_true] at hd ⊢
    exact fun x hx => hd x (List.mem_of_mem_drop hx)
  have hdo : ∀ d, o.dst = some d → d < nt := dstsOk_spec hd (List.mem_of_getElem? ho)
  rw [hsplit]
  refine list_on (E := ⟨own, w, H, fun _ => none, M⟩) X.hT X.ok (fun w' hb => hJ.inv _ _ _ _ _ hj hb) (fun H1 β1 tm bx log a1 w1 hk hS1 => ?_) hd1 hS h
  split at hk
  · rename_i l' y fs hfo hargs
    obtain ⟨rfl, hy, hk⟩ := hk
    have hkl := (List.getElem?_eq_some_iff.1 hy).1
    have hv := ev_ok hS1.sim rfl fo
    rw [hfo] at hv
    have hfv : a1.eval fo = .func (.yield l') #[] #[] := hv
    obtain ⟨H2, hle, S2, V2⟩ := toIs_ok (a := a1) rfl hS1.sim hargs
    have hj2 := hJ.step own k H H2 w w1 hj S2.below S2.has S2.ext
    obtain ⟨fn, tmps, assign, body, hyr, hR⟩ := hJ.round own k H2 w1 (args.toList.map a1.eval) hkl hj2 S2.has S2.lo (by rw [(List.getElem?_eq_some_iff.1 hy).2]; exact V2)
    have hrun : (execOp a1.eval o).run X.P w1 = .ok (.round l' fn tmps assign body) w1 := by
      have ea : (args.toList.map a1.eval).toArray = args.map a1.eval := by apply Array.ext'; simp
      rw [ea] at hyr
      simp only [execOp, hop, resolve, hfv, Deferred.ofValue, Sem.run_bind, Sem.run_pure, Result.andThen_ok, invoke]
      simpa using hyr
    unfold wpListIn
    simp only [Region.wanted, hg, if_true]
    refine ⟨fun _ _ => trivial, ?_⟩
    rw [show (FW none).round = none from rfl, Oper.semAt_none, hrun]
    refine ⟨fun e => (by cases e), hR.mono ?_⟩
    rintro e w2 ⟨rfl, H3, h1, h2, h3, h4, h5, h6, h7, hj3⟩
    have T : St ⟨fun b => own b ∧ (b < w1.heap.size ∨ w2.heap.size ≤ b), w2, H3, fun _ => none, M⟩ nt H3 β1 (putS tm o.dst (.iv (.bool (ans ys.length st k)))) (fzAll bx fs) (a1.put o.dst (.bool (ans ys.length st k))) w2 :=
      St.put ⟨S2.rounded h1 h2 h3 h7, hS1.defers, hS1.size⟩ hdo (r := .iv (.bool (ans ys.length st k))) (.bool _)
    have := list_on (rest := []) (Q := Q) (ro := none) (E := ⟨fun b => own b ∧ (b < w1.heap.size ∨ w2.heap.size ≤ b), w2, H3, fun _ => none, M⟩) X.hT X.ok (fun w' hb => hJ.inv _ _ _ _ _ hj3 hb) (all := all) (K := fun tm bx _ => K .normal ⟨tm, bx, σ.nx + all.size⟩ (k + 1)) (fun H4 β4 tm bx log a4 w4 hk4 hS4 => ?_) hd2 T hk
    · rw [List.append_nil] at this; exact this
    · refine hQ .normal _ (k + 1) (fun b => own b ∧ (b < w1.heap.size ∨ w2.heap.size ≤ b)) H4 β4 a4 w4 hk4 ⟨⟨M, ?_, hS4.defers, hS4.size⟩, hJ.step _ _ _ _ _ _ hj3 hS4.sim.below hS4.sim.has hS4.sim.ext⟩
      exact hS4.sim.rebase (fun g b hg ha => (hS4.sim.box g b hg).lo ha) (fun g s R hg hR => ((hS4.sim.box g _ hg).2.2.2 R hR).1) hS4.sim.lo hS4.sim.pin hS4.sim.marks
  · exact hk.elim
end
theorem iterS_of {st : Bool} {X : Cx} {f : FuncId} {fn : Func} {c : Code} (hf : X.P.funcs[f]? = some fn) (hb : fn.body = some c) (hn : (fn.name == "runtime.NumGoroutine") = false) (hres : fn.results = #[]) {zs : List IV} {ys : List (List IV)} (hx : zs.length + 1 ≤ fn.ntmps)
    (h : ∀ l J, IterJS X l ys st J → WY X fn.ntmps J c ⟨argY l zs, tbB (bxL 0 zs), 10⟩ 0 (endY ys.length)) : IterCS X f zs ys st := by
  refine ⟨⟨fn, hf, hn, by rw [hb]; rfl⟩, fun l J own H w bs hJ hj hH hlo hbs hp => ?_⟩
  have hlen := BRs_len hbs
  refine callsIn_of_wp_marks hf hb trivial ?_
  have hh := h l J hJ
  unfold WY at hh
  refine hh _ (fun e σ' k' own' H' β' a' w' hk hY => ?_) own H (fun g => (bs.getD g 0, 0)) _ w ⟨⟨[], ⟨hH, BelowO.refl _ _, hlo, HExtO.refl _ _, fun t => ?_, fun g b hg => ?_, fun g g' b b' hg hg' _ _ e => ?_, fun p k hk => (by cases hk), MarksOk.nil _ _, fun g s g' b R hg => (by obtain ⟨j, z, _, _, e⟩ := bxL_mem (tbB_mem hg); cases e)⟩, rfl, ?_⟩, hj⟩
  · obtain ⟨⟨M, hS⟩, hj'⟩ := hY
    have hfin : k' = ys.length → LeavesInM (FW none) 0 X.P fn a'.tmps (fun e w' => ∃ v own' H', e = .returned v ∧ HeapHas w' H' ∧ J own' ys.length H' w') a'.defers .returning w' := fun hk => by
      subst hk
      rw [hS.defers]
      have goM : ∀ (M : List Deferred) (w' : World), MarksOk own' M w' → HeapHas w' H' → J own' ys.length H' w' → LeavesInM (FW none) 0 X.P fn a'.tmps (fun e w' => ∃ v own' H', e = .returned v ∧ HeapHas w' H' ∧ J own' ys.length H' w') M .returning w' := by
        intro M
        induction M with
        | nil =>
          intro w' _ hh hj
          exact ⟨_, results_none hres _ _ _, _, own', H', rfl, hh, hj⟩
        | cons d M ih =>
          intro w' hm hh hj
          obtain ⟨D, e, ho, hb⟩ := hm.2 d (by simp)
          obtain ⟨hp1, hp2⟩ := List.pairwise_cons.1 hm.1
          refine ⟨by simp, .inl ⟨D, w'.putObj D (.deferred none), by rw [e], run_takeDeferred hb, ih _ ⟨hp2, fun d' hd' => ?_⟩ ?_ ?_⟩⟩
          · obtain ⟨D', e', ho', hb'⟩ := hm.2 d' (List.mem_cons_of_mem _ hd')
            exact ⟨D', e', ho', (World.putObj_heap_other (fun e2 => hp1 d' hd' (by rw [e, e', e2]))).trans hb'⟩
          · intro b arr hba
            obtain ⟨t, fr, ht⟩ := hh b arr hba
            exact ⟨t, fr, (World.putObj_heap_other (fun e2 => by rw [e2, hb] at ht; cases ht)).trans ht⟩
          · refine hJ.step own' _ H' H' w' _ hj ⟨rfl, rfl, rfl, by simp, fun k hk => World.putObj_heap_other (fun e2 => hk (by rw [e2]; exact ho))⟩ ?_ (HExtO.refl _ _)
            intro b arr hba
            obtain ⟨t, fr, ht⟩ := hh b arr hba
            exact ⟨t, fr, (World.putObj_heap_other (fun e2 => by rw [e2, hb] at ht; cases ht)).trans ht⟩
      exact goM M w' hS.sim.marks hS.sim.has hj'
    cases e with
    | normal => exact hfin hk
    | ret => exact hfin hk
    | _ => exact hk.elim
  · cases t with
    | zero => simp [argY, SR, yieldV, Array.getElem?_append]
    | succ t =>
      show SR _ _ _ _ (argP 0 zs t)
      rw [argP_get]
      by_cases ht : t < zs.length
      · rw [if_pos ht]
        have htb : t < bs.length := by omega
        refine ⟨bxL_some ht, ?_⟩
        simp [Array.getElem?_append, htb]
      · rw [if_neg ht]
        have htb : ¬ t < bs.length := by omega
        show _ = undef
        simp [Array.getElem?_append, htb, Array.getElem?_replicate]
        split <;> rfl
  · obtain ⟨j, z, rfl, hz, rfl⟩ := bxL_mem (tbB_mem hg)
    obtain ⟨b, e1, e2⟩ := BRs_get hbs j z hz
    simp only [Nat.zero_add]
    rw [show (bs.getD j 0, 0) = (b, 0) by simp [e1]]
    exact e2
  · obtain ⟨j, z, rfl, hz, rfl⟩ := bxL_mem (tbB_mem hg)
    obtain ⟨j', z', rfl, hz', rfl⟩ := bxL_mem (tbB_mem hg')
    obtain ⟨b1, e1, _⟩ := BRs_get hbs j z hz
    obtain ⟨b2, e2, _⟩ := BRs_get hbs j' z' hz'
    simp [e1, e2] at e
    simp only [Nat.zero_add]
    apply Classical.byContradiction
    intro hne
    have l1 := (List.getElem?_eq_some_iff.1 e1).1
    have l2 := (List.getElem?_eq_some_iff.1 e2).1
    have v1 := (List.getElem?_eq_some_iff.1 e1).2
    have v2 := (List.getElem?_eq_some_iff.1 e2).2
    have hpg := List.pairwise_iff_getElem.1 hp
    rcases Nat.lt_or_gt_of_ne hne with hlt | hlt
    · exact hpg j j' l1 l2 hlt (by rw [v1, v2, e])
    · exact hpg j' j l2 l1 hlt (by rw [v1, v2, e])
  · show ((yieldV l :: bs.map fun b => Value.pointer (some ⟨b, 0, none⟩)).toArray ++ Array.replicate (fn.ntmps - (yieldV l :: bs.map fun b => Value.pointer (some ⟨b, 0, none⟩)).toArray.size) undef).size = fn.ntmps
    simp; omega
end Go.Proofs.Fl
namespace Go.Proofs.Fl
open Go.RowKit
abbrev EF (J : Keep) (f : FuncId) (xs : List PV) (zs zs' : List IV) (r : IV) : Prop := EffC Tryz.prog J.I f xs zs zs' r
abbrev ITS (J : Keep) : FuncId → List IV → List (List IV) → Bool → Prop := IterCS (cx J.top)
def roundWS (J : Keep) (nt : Nat) (body : Code) (j : Option Code) (m : List (Nat × Bx)) : Exit → AS → Prop
  | .normal, σ => W J.any nt body σ fun e σ' => jumpOf e = some j ∧ boxesW σ'.bx [] m
  | _, _ => False
section
variable {J : Keep} {nt : Nat} {σ : AS} {K : Exit → AS → Prop}
theorem ef_ok {f : FuncId} {fn : Func} {c : Code} (hf : Tryz.prog.funcs[f]? = some fn) (hb : fn.body = some c) (hn : (fn.name == "runtime.NumGoroutine") = false) {xs : List PV} {zs zs' : List IV} {r : IV} (hz : Nat.ble zs.length 8 = true) (hzz : Nat.beq zs'.length zs.length = true) (hx : Nat.ble xs.length fn.ntmps = true)
    (h : W J fn.ntmps c ⟨argE xs, tbB (bxL pinId zs), 0⟩ (effK TT fn.results.toList zs' r)) : EF J f xs zs zs' r := by
  unfold W at h
  exact eff_of (X := cx J) hf hb hn (Nat.le_of_ble_eq_true hz) (Nat.eq_of_beq_eq_true hzz) (Nat.le_of_ble_eq_true hx) h
theorem W.eff (n : Nat) (gs : List Nat) {id : Nat} {all : Array Oper} {o : Oper} {fo : Operand} {args : Array Operand} {ats : Array TypeId} (ho : all.toList[n]? = some o) (hd : dstsOk nt all.toList = true) (hg : o.guard = none) (hop : o.op = .call { callee := .value fo, args := args, argTypes := ats })
    (h : opsP TT (cx J).C all (all.toList.take n) σ.nx σ.tm σ.bx [] fun tm bx _ => match callee (evS tm fo), toPs gs bx (evS tm) args.toList with
      | some (f, hs), some (xs, fs) => ∃ is zs zs' r, ixAll gs hs = some is ∧ cloB bx gs zs ∧ gs.Pairwise (· ≠ ·) ∧ EF J f (xs ++ is.map .ptr) zs zs' r ∧
          opsP TT (cx J).C all (all.toList.drop (n + 1)) (σ.nx + n + 1) (putS tm o.dst (.iv r)) (updL (fzAll bx fs) gs zs') [] fun tm bx _ => K .normal ⟨tm, bx, σ.nx + all.size⟩
      | _, _ => False) : W J nt (.region id all false) σ K := by
  unfold W
  exact CW.eff (X := cx J) n gs ho hd hg hop h
theorem itS_ok {f : FuncId} {fn : Func} {c : Code} (hf : Tryz.prog.funcs[f]? = some fn) (hb : fn.body = some c) (hn : (fn.name == "runtime.NumGoroutine") = false) (hres : fn.results = #[]) {zs : List IV} {ys : List (List IV)} {st : Bool} (hx : Nat.ble (zs.length + 1) fn.ntmps = true)
    (h : ∀ l F, IterJS (cx J.top) l ys st F → WY (cx J.top) fn.ntmps F c ⟨argY l zs, tbB (bxL 0 zs), 10⟩ 0 (endY ys.length)) : ITS J f zs ys st :=
  iterS_of (X := cx J.top) hf hb hn hres (Nat.le_of_ble_eq_true hx) h
theorem W.rangeS {c : Option Code} {g : Operand} {ps : Array Tmp} {assign body : Code} {f : FuncId} {gs : List Nat} {zs : List IV} {ys : List (List IV)} (hit : ITS J f zs ys c.isSome) (ids : List Nat) (l : List (Nat × SV)) (m : Nat → List (Nat × Bx)) (nx : Nat) (hg : evS σ.tm g = .clo f gs) (hz : cloB σ.bx gs zs) (hgs : gs.Pairwise (· ≠ ·))
    (hps : ps.toList.all (fun p => Nat.blt p nt) = true) (hys : ∀ y ∈ ys, y.length = ps.size) (hids : ∀ k, (m k).map (·.1) = ids) (hal : ∀ k, ∀ p ∈ m k, p.2.alive = true) (hpin : ids.all (fun g => Nat.ble pinId g && Nat.blt g (pinId + 8)) = true)
    (hl : slotsE σ.tm l) (hlo : l.all (fun p => okL ids p.2) = true) (hb : boxesW σ.bx [] (m 0)) (hdj : gs.all (fun g => !ids.any (Nat.beq g)) = true) (hfree : freeAll σ.bx ids = true)
    (hround : ∀ k (hk : k < ys.length), W J.any nt assign ⟨putsL (tbS l) ps.toList ys[k], tbB (m k), nx⟩ (roundWS J nt body (pend ys.length c (k + 1)) (m (k + 1)))) (hne : c = none ∨ 0 < ys.length) (hend : match c with | none => K .normal (mkA l (m ys.length) nx) | some c => W J.top nt c (mkA l (m ys.length) nx) K) : W J.top nt (.rangeFunc g ps assign body) σ K := by
  unfold W
  have hmem : ∀ {g : Nat}, ids.any (Nat.beq g) = true ↔ g ∈ ids := fun {g} => any_beq
  have hdom : ∀ k g, tbB (m k) g ≠ none ↔ g ∈ ids := fun k g => by rw [tbB_dom, hids k]
  refine CW.rangeS (c := c) (X := cx J.top) (fun r h => h) hg hz hgs hit (tbS l) (fun k => tbB (m k)) (nx := nx) (fun p hp => ?_) hys (fun t => ?_) (fun k t => ?_) (fun g b hgb => ?_) (fun id hid => ?_) (fun k g b hgb => ?_) (fun k g => ?_) (fun i hi hne => ?_) (fun k hk => ?_) hne ?_
  · have := List.all_eq_true.1 hps p hp
    rwa [Nat.blt_eq] at this
  · rcases tbS_mem (l := l) (t := t) with h | h
    · exact .inl h
    · exact .inr (slotsE_mem hl _ h)
  · rcases tbS_mem (l := l) (t := t) with h | h
    · rw [h]; trivial
    · have := List.all_eq_true.1 hlo _ h
      simp only at this
      cases hs : tbS l t <;> rw [hs] at this <;> simp only [okL] at this <;> first | trivial | cases this | skip
      · rename_i g off
        exact (hdom k g).2 (hmem.1 this)
      · intro g hg
        exact (hdom k g).2 (hmem.1 (List.all_eq_true.1 this g hg))
  · have := boxesW_mem hb _ (tbB_mem hgb)
    exact this
  · cases hx : tbB (m 0) id with
    | none => rfl
    | some b =>
      have h1 := (hdom 0 id).1 (by rw [hx]; simp)
      have h2 := List.all_eq_true.1 hdj id hid
      rw [hmem.2 h1] at h2; cases h2
  · have h1 := (hdom k g).1 (by rw [hgb]; simp)
    have h2 := List.all_eq_true.1 hpin g h1
    simp only [Bool.and_eq_true, Nat.ble_eq, Nat.blt_eq] at h2
    exact ⟨hal k _ (tbB_mem hgb), h2.1, h2.2⟩
  · rw [hdom, hdom]
  · have h1 := freeAll_get hfree i hi
    simp only [freeB, Bool.or_eq_true, Option.isNone_iff_eq_none] at h1
    exact (hdom 0 _).2 (hmem.1 (h1.resolve_left hne))
  · have hr := hround k hk
    unfold W at hr
    refine CW.mono (X := cx J.any) hr fun e σ' hk => ?_
    cases e with
    | normal =>
      have hk' : W J.any nt body σ' _ := hk
      unfold W at hk'
      refine CW.mono (X := cx J.any) hk' fun e σ'' h => ⟨h.1, fun id b hib => ?_⟩
      exact boxesW_mem h.2 _ (tbB_mem hib)
    | _ => exact hk
  · cases c with
    | none => exact hend
    | some c =>
      have h : W J.top nt c (mkA l (m ys.length) nx) K := hend
      unfold W at h
      exact h
end
section
variable {X : Cx} {nt l : Nat} {ys : List (List IV)} {st : Bool} {F : (Nat → Prop) → Nat → Heap → World → Prop} {σ : AS} {k : Nat} {K : Exit → AS → Nat → Prop}
theorem WY.RE (hJ : IterJS X l ys st F) {id : Nat} {all : Array Oper} {draw : Bool} (h0 : regOk nt all draw = true) (h : regP X all draw σ fun σ' => K .normal σ' k) : WY X nt F (.region id all draw) σ k K := by
  simp only [regOk, Bool.and_eq_true, Bool.or_eq_true] at h0
  exact WY.liftS hJ (CW.region h0.1 (fun e => h0.2.resolve_left (by subst e; simp)) h)
theorem WY.RSE (hJ : IterJS X l ys st F) {id : Nat} {all : Array Oper} {draw : Bool} {y : Code} (h0 : regOk nt all draw = true) (h : regP X all draw σ fun σ' => WY X nt F y σ' k K) : WY X nt F (.seq (.region id all draw) y) σ k K :=
  WY.S (WY.RE hJ h0 h)
theorem WY.yieldSE (hJ : IterJS X l ys st F) (n : Nat) {id : Nat} {all : Array Oper} {o : Oper} {fo : Operand} {args : Array Operand} {ats : Array TypeId} {y : Code} (ho : all.toList[n]? = some o) (hd : dstsOk nt all.toList = true) (hg : o.guard = none) (hop : o.op = .call { callee := .value fo, args := args, argTypes := ats })
    (h : opsP X.T X.C all (all.toList.take n) σ.nx σ.tm σ.bx [] fun tm bx _ => match evS tm fo, toIs bx (evS tm) args.toList with
      | .yld l', some (y', fs) => l' = l ∧ ys[k]? = some y' ∧ opsP X.T X.C all (all.toList.drop (n + 1)) (σ.nx + n + 1) (putS tm o.dst (.iv (.bool (ans ys.length st k)))) (fzAll bx fs) [] fun tm bx _ => WY X nt F y ⟨tm, bx, σ.nx + all.size⟩ (k + 1) K
      | _, _ => False) : WY X nt F (.seq (.region id all false) y) σ k K :=
  WY.S (WY.yieldE hJ n ho hd hg hop h)
end
end Go.Proofs.Fl
namespace Go.Proofs.Fl
open Go.RowKit
section
variable {P : Program} {T : TypeId → Option TY}
theorem run_append_own (hT : TabOk P T) {H : Heap} {w : World} (hh : HeapHas w H) {t e : TypeId} {ty te : TY} (ht : T t = some ty) (hsh : ty.sh = .slice e) (hte : T e = some te) (hp : 0 < te.size) (hzs : te.zero.cells.length = te.size)
    {b : Nat} (hb : b < w.heap.size) {v : Value} {es : List IV} (hs : SlAt H w b v e te.size es) {q : Value} {news : List IV} (hq : VR H q (.sl news)) (hz : ∀ y ∈ news, y.cells.length = te.size ∧ y.isTup = false)
    (hby : (es.length + news.length) * te.bytes ≤ 140737488355328) (hm : es.length + news.length ≤ maxLen) (rt : TypeId) :
    ∃ v' w', (Builtin.append_ #[t, t] rt #[v, q]).run P w = .ok v' w' ∧ w'.os = w.os ∧ w'.tape = w.tape ∧ w'.output = w.output ∧ w.heap.size ≤ w'.heap.size ∧
      (∀ k, k < w.heap.size → (∀ n cap, v ≠ .slice (some ⟨k, 0, none⟩) n cap) → w'.heap[k]? = w.heap[k]?) ∧ SlAt H w' b v' e te.size (es ++ news) ∧
      (∀ R n cap, v' = .slice (some ⟨R, 0, none⟩) n cap → (∃ n0 cap0, v = .slice (some ⟨R, 0, none⟩) n0 cap0) ∨ w.heap.size ≤ R) ∧ (∃ a n cap, v' = .slice a n cap) := by
  obtain ⟨i, d, z, ok⟩ := tyOf_ok (hT t ty ht)
  obtain ⟨ie, de, ze, oke⟩ := tyOf_ok (hT e te hte)
  have hd' := ok.sh
  rw [hsh] at hd'
  obtain rfl := shOf_slice hd'
  obtain ⟨ad, cap, vs, rfl, hvs, hsz, hone, hcells⟩ := sl_cells hh hq hz
  have hl := hvs.length
  have hfl := flat_length hsz
  have hzc : ze.cells.size = te.size := by rw [(oke.vr H).size, hzs]
  rcases hs with ⟨rfl, rfl⟩ | ⟨R, cap0, arr, us, rfl, hRb, p2, p4, p5, p6, p7, p8, p9, p10, p11⟩
  · by_cases hne : news = []
    · subst hne
      exact ⟨_, w, run_append_empty P w t rt e ie ok.und oke.info none 0 0 (Nat.le_refl _) ad cap, rfl, rfl, rfl, Nat.le_refl _, fun _ _ _ => rfl, .inl ⟨rfl, rfl⟩, fun R n cap h => (by cases h), _, _, _, rfl⟩
    · obtain ⟨b0, off, rfl, hcell⟩ := hcells hne
      have h0 : 0 < news.length := by cases news <;> simp_all
      simp only [List.length_nil, Nat.zero_add] at hby hm
      have hr := run_append_nil (P := P) w t rt e ie ze ok.und oke.info oke.zero ⟨b0, off, none⟩ news.length cap (flat vs) (by rw [hfl, oke.size, hl]) (cells_at hcell) h0 (by unfold maxLen at hm; omega) (by rw [oke.bytes]; omega)
      generalize hcap : grownCap w news.length 0 e = C at hr
      have hge : news.length ≤ C := by rw [← hcap]; exact grownCap_ge _ _ _ _
      have hcm : C ≤ maxLen := by rw [← hcap]; exact grownCap_le_maxLen _ _ _ _ hm
      refine ⟨_, _, hr, rfl, rfl, rfl, by show w.heap.size ≤ (Array.push _ _).size; rw [Array.size_push]; exact Nat.le_succ _, fun k hk _ => ?_, .inr ⟨w.heap.size, C, (flat vs).toArray ++ Builtin.zeroCells ze.cells (C - news.length), vs, ?_, by omega, ?_, ?_⟩, fun R n cap h => ?_, _, _, _, rfl⟩
      · exact Below.heap_alloc w.drew _ k (by simpa using hk)
      · rfl
      · exact heap_alloc_new w.drew _
      · refine ⟨by simpa using hvs, hsz, flat_one hone, ?_, ?_, by simpa using hge, hcm, hp⟩
        · rw [Array.toList_append]
          simp only
          rw [List.take_append_of_le_length (by rw [hfl]; exact Nat.le_refl _), List.take_of_length_le (by rw [hfl]; exact Nat.le_refl _)]
        · simp only [Array.size_append, List.size_toArray, hfl, size_zeroCells', hzc, hl, ← Nat.add_mul]; congr 1; omega
      · right
        simp only [Value.slice.injEq, Option.some.injEq, Addr.mk.injEq] at h
        exact Nat.le_of_eq h.1.1
  · have hul := p4.length
    have hful := flat_length p5
    have hsize2 : ∀ v ∈ us ++ vs, v.cells.size = te.size := fun v hv => (List.mem_append.1 hv).elim (p5 v) (hsz v)
    have hone2 : ∀ c ∈ flat (us ++ vs), c.oneCell' = true := by
      rw [flat_append]
      intro c hc
      rcases List.mem_append.1 hc with hc | hc
      · exact p6 c hc
      · exact flat_one hone c hc
    have hel : (es ++ news).length = es.length + news.length := by simp
    by_cases hroom : es.length + news.length ≤ cap0
    · have hasz : (es.length + news.length) * te.size ≤ arr.size := by rw [p8]; exact Nat.mul_le_mul_right _ hroom
      have hfit : es.length * ie.size + (flat vs).length ≤ arr.size := by rw [oke.size, hfl, hl, ← Nat.add_mul]; exact hasz
      have hr : ∃ arr', (Builtin.append_ #[t, t] rt #[.slice (some ⟨R, 0, none⟩) es.length cap0, .slice ad news.length cap]).run P w = .ok (.slice (some ⟨R, 0, none⟩) (es.length + news.length) cap0) (w.setRow R arr') ∧ arr'.size = arr.size ∧ arr'.toList.take ((es.length + news.length) * te.size) = flat (us ++ vs) := by
        by_cases hne : news = []
        · subst hne
          refine ⟨arr, ?_, rfl, ?_⟩
          · have := run_append_empty P w t rt e ie ok.und oke.info (some ⟨R, 0, none⟩) es.length cap0 p9 ad cap
            simp only [List.length_nil, Nat.add_zero]
            rw [setRow_self w _ arr e (0, 0) p2]; exact this
          · have : vs = [] := List.eq_nil_of_length_eq_zero (by simpa using hl)
            subst this
            simp only [List.length_nil, Nat.add_zero, List.append_nil]
            rw [← hul]; exact p7
        · obtain ⟨b0, off, rfl, hcell⟩ := hcells hne
          refine ⟨_, run_append_room (P := P) w t rt e ie ok.und oke.info R es.length cap0 arr p2 ⟨b0, off, none⟩ news.length cap (flat vs) (by rw [hfl, oke.size, hl]) (cells_at hcell) (flat_one hone) hroom hfit, ?_, ?_⟩
          · simp only [List.size_toArray, List.length_append, List.length_take, List.length_drop, Array.length_toList]; omega
          · rw [oke.size, ← hul]
            have e1 : arr.toList.take (us.length * te.size) = flat us := p7
            simp only [e1]
            rw [List.append_assoc, List.take_append, List.take_of_length_le (by rw [hful]; exact Nat.mul_le_mul_right _ (by omega)), hful, flat_append]
            congr 1
            rw [← Nat.sub_mul, show us.length + news.length - us.length = news.length by omega, List.take_append_of_le_length (by rw [hfl, hl]; exact Nat.le_refl _), List.take_of_length_le (by rw [hfl, hl]; exact Nat.le_refl _)]
      obtain ⟨arr', hr, hsa, hta⟩ := hr
      refine ⟨_, _, hr, rfl, rfl, rfl, by simp, fun k hk hne => setRow_other _ _ _ _ (fun e2 => by subst e2; exact hne _ _ rfl), .inr ⟨R, cap0, arr', us ++ vs, by rw [hel], hRb, setRow_heap _ _ _ _ _ _ p2, p4.append hvs, hsize2, hone2, ?_, by rw [hsa]; exact p8, by rw [hel]; exact hroom, p10, p11⟩, fun R' n cap h => ?_, _, _, _, rfl⟩
      · rw [List.length_append, hul, hl]; exact hta
      · simp only [Value.slice.injEq, Option.some.injEq, Addr.mk.injEq] at h
        obtain ⟨⟨rfl, _⟩, _⟩ := h
        exact .inl ⟨_, _, rfl⟩
    · have hne : news ≠ [] := by intro e; subst e; simp at hroom; omega
      obtain ⟨b0, off, rfl, hcell⟩ := hcells hne
      have holds : ∀ j v, (flat us)[j]? = some v → w.cell? ((⟨R, 0, none⟩ : Addr).add j) = some v := fun j v hj => by
        rw [add_mk, Nat.zero_add, cell_of_row w _ _ arr e (0, 0) p2]
        rw [← p7, List.getElem?_take] at hj
        split at hj
        · simpa using hj
        · simp at hj
      have hr := run_append_grow (P := P) w t rt e ie ze ok.und oke.info oke.zero ⟨R, 0, none⟩ es.length cap0 (flat us) (by rw [hful, oke.size, hul]) holds ⟨b0, off, none⟩ news.length cap (flat vs) (by rw [hfl, oke.size, hl]) (cells_at hcell) (by omega) (by unfold maxLen at hm; omega)
        (by rw [oke.bytes]; exact growslice_fits (by omega) hby)
      generalize hcap : grownCap w (es.length + news.length) cap0 e = C at hr
      have hge : es.length + news.length ≤ C := by rw [← hcap]; exact grownCap_ge _ _ _ _
      have hcm : C ≤ maxLen := by rw [← hcap]; exact grownCap_le_maxLen _ _ _ _ hm
      refine ⟨_, _, hr, rfl, rfl, rfl, by show w.heap.size ≤ (Array.push _ _).size; rw [Array.size_push]; exact Nat.le_succ _, fun k hk _ => ?_, .inr ⟨w.heap.size, C, (flat us).toArray ++ (flat vs).toArray ++ Builtin.zeroCells ze.cells (C - (es.length + news.length)), us ++ vs, ?_, by omega, ?_, p4.append hvs, hsize2, hone2, ?_, ?_, by rw [hel]; exact hge, hcm, p11⟩, fun R n cap h => ?_, _, _, _, rfl⟩
      · exact Below.heap_alloc w.drew _ k (by simpa using hk)
      · rw [hel]
      · exact heap_alloc_new w.drew _
      · rw [Array.toList_append, Array.toList_append]
        simp only
        rw [← flat_append, List.take_append_of_le_length (by rw [flat_length hsize2]; exact Nat.le_refl _), List.take_of_length_le (by rw [flat_length hsize2]; exact Nat.le_refl _)]
      · simp only [Array.size_append, List.size_toArray, hfl, hful, size_zeroCells', hzc, hl, hul, ← Nat.add_mul]; congr 1; omega
      · right
        simp only [Value.slice.injEq, Option.some.injEq, Addr.mk.injEq] at h
        exact Nat.le_of_eq h.1.1
end
section
variable {E : Env} {H : Heap} {β : Nat → Nat × Nat} {tm : Nat → SV} {bx : Nat → Option Bx} {tmps : Array Value} {w : World}
theorem Sim.rebox (h : Sim E H β tm bx tmps w) {g : Nat} {b b' : Bx} (hg : bx g = some b) (ha : b.alive = true) (hs : shape b b') (hbr : BR E.own w H (β g) b') (hid : ∀ s R, b' = .bld s → RowAt s w (β g).1 R → ∀ g' b1, bx g' = some b1 → b1.alive = true → (β g').1 ≠ R) : Sim E H β tm (upd bx g (some b')) tmps w := by
  have halive : ∀ {g' b1}, upd bx g (some b') g' = some b1 → b1.alive = true → ∃ b2, bx g' = some b2 ∧ b2.alive = true := fun {g' b1} hg' hal => by
    by_cases hne : g' = g
    · subst hne; exact ⟨b, hg, ha⟩
    · rw [upd_other _ _ _ hne] at hg'; exact ⟨b1, hg', hal⟩
  refine ⟨h.has, h.below, h.lo, h.ext, fun t => (h.slot t).mono (HLe.refl _) (fun g' b1 hg' => ?_), fun g' b1 hg' => ?_, fun g1 g2 b1 b2 e1 e2 a1 a2 he => ?_, fun p' k' hk' => ⟨(h.pin p' k' hk').1, upd_ne_none (h.pin p' k' hk').2.1, (h.pin p' k' hk').2.2⟩, h.marks, fun g1 s g2 b2 R e1 e2 ha2 hR => ?_⟩
  · by_cases hne : g' = g
    · subst hne
      rw [hg] at hg'; simp at hg'; subst hg'
      exact ⟨b', by show upd bx g' (some b') g' = _; rw [upd_same], hs, rfl⟩
    · exact ⟨b1, by show upd bx g (some b') g' = _; rw [upd_other _ _ _ hne]; exact hg', shape.refl _, rfl⟩
  · by_cases hne : g' = g
    · subst hne
      have e : b' = b1 := by
        have : upd bx g' (some b') g' = some b1 := hg'
        rw [upd_same] at this; simpa using this
      subst e; exact hbr
    · rw [upd_other _ _ _ hne] at hg'; exact h.box g' b1 hg'
  · obtain ⟨c1, d1, f1⟩ := halive e1 a1
    obtain ⟨c2, d2, f2⟩ := halive e2 a2
    exact h.inj g1 g2 c1 c2 d1 d2 f1 f2 he
  · obtain ⟨c2, d2, f2⟩ := halive e2 ha2
    by_cases hne : g1 = g
    · subst hne
      have e : b' = .bld s := by
        have : upd bx g1 (some b') g1 = some (.bld s) := e1
        rw [upd_same] at this; simpa using this
      exact hid s R e hR g2 c2 d2 f2
    · rw [upd_other _ _ _ hne] at e1
      exact h.hid g1 s g2 c2 R e1 d2 f2 hR
theorem Sim.reveal (h : Sim E H β tm bx tmps w) {g : Nat} {v0 : Option Value} {cs es : List IV} {j : Nat} {e : TypeId} {sz : Nat} (hg : bx g = some (.bld (.row v0 cs j e sz es))) : ∃ v, Sim E H β tm (upd bx g (some (.bld (.row (some v) cs j e sz es)))) tmps w := by
  obtain ⟨h1, h2, ⟨us, v, T', k1, k2, k3, k4, k5, k6⟩, h4⟩ := h.box g _ hg
  exact ⟨v, h.rebox hg rfl trivial ⟨h1, h2, ⟨us, v, T', k1, k2, k3, k4, fun v1 e => (by cases e; rfl), k6⟩, h4⟩ fun s R es hR g' b1 hg' ha => by
    cases es
    exact h.hid g _ g' b1 R hg hg' ha hR⟩
theorem Sim.opened (h : Sim E H β tm bx tmps w) {g : Nat} {cs : List IV} (hg : bx g = some (.var (.agg cs))) {j : Nat} (hj : cs[j]? = some (.nil 3)) (e : TypeId) (sz : Nat) : Sim E H β tm (upd bx g (some (.bld (.row none cs j e sz [])))) tmps w := by
  obtain ⟨h1, h2, h3, v, e', h4, h5⟩ := h.box g _ hg
  obtain ⟨vs, rfl, hvs, hone⟩ := VR.asAgg h4
  obtain ⟨u, hu1, hu2⟩ := hvs.get j _ hj
  have hun : u = .slice none 0 0 := by cases hu2; rfl
  have hlt := (List.getElem?_eq_some_iff.1 hu1).1
  have hset : vs.set j (.slice none 0 0) = vs := by
    rw [← hun]
    have := (List.getElem?_eq_some_iff.1 hu1).2
    rw [← this]
    exact List.set_getElem_self hlt
  have hrow : ∀ R, ¬ RowAt (.row none cs j e sz []) w (β g).1 R := fun R ⟨arr, n, cap, T, fr, e1, e2⟩ => by
    rw [h5] at e1
    simp only [Option.some.injEq, Obj.cells.injEq] at e1
    obtain ⟨rfl, _, _⟩ := e1
    simp only [Ow.j, Value.cells] at e2
    have : vs[j]? = some (.slice (some ⟨R, 0, none⟩) n cap) := by simpa using e2
    rw [hu1, hun] at this; cases this
  refine h.rebox hg rfl trivial ⟨h1, h2, ⟨vs, .slice none 0 0, e', by rw [hset]; simpa [Value.cells] using h5, hvs, hone, hlt, fun v1 e => (by cases e), .inl ⟨rfl, rfl⟩⟩, fun R hR => absurd hR (hrow R)⟩ fun s R es hR g' b1 hg' ha => ?_
  cases es
  exact absurd hR (hrow R)
theorem Sim.shutRow (h : Sim E H β tm bx tmps w) {g : Nat} {v0 : Option Value} {cs es : List IV} {j : Nat} {e : TypeId} {sz : Nat} (hg : bx g = some (.bld (.row v0 cs j e sz es))) (hone : ∀ g' s', bx g' = some (.bld s') → g' = g) {x : IV} (hx : x = .agg (cs.set j (.sl es)) ∨ (cs.length = 1 ∧ j = 0 ∧ x = .sl es)) :
    ∃ H', HLe H H' ∧ Sim E H' β tm (upd bx g (some (.var x))) tmps w := by
  obtain ⟨h1, h2, ⟨us, v, T', k1, k2, k3, k4, k5, k6⟩, h4⟩ := h.box g _ hg
  have hxt : x.isTup = false := by rcases hx with rfl | ⟨_, _, rfl⟩ <;> rfl
  have hvr : ∀ {H' : Heap}, VRL H' us cs → VR H' v (.sl es) → ∃ u, VR H' u x ∧ u.cells = (us.set j v).toArray := fun {H'} hu hv => by
    have hv1 : v.oneCell' = true := hv.one rfl v (by rw [show v.cells = #[v] by cases hv <;> rfl]; simp)
    rcases hx with rfl | ⟨hl, rfl, rfl⟩
    · refine ⟨.agg (us.set j v).toArray, .agg _ _ (hu.set j hv) (fun u hu => ?_), rfl⟩
      rcases List.mem_or_eq_of_mem_set hu with hu | hu
      · exact k3 u hu
      · rw [hu]; exact hv1
    · have hul := hu.length
      rw [hl] at hul
      obtain ⟨u0, hu0⟩ : ∃ u0, us = [u0] := by
        cases us with
        | nil => simp at hul
        | cons a l => cases l with
          | nil => exact ⟨a, rfl⟩
          | cons => simp at hul
      subst hu0
      refine ⟨v, hv, ?_⟩
      cases hv <;> rfl
  rcases k6 with ⟨rfl, rfl⟩ | ⟨R, cap0, arr, ws, rfl, hRb, p2, p4, p5, p6, p7, p8, p9, p10, p11⟩
  · obtain ⟨u, hu1, hu2⟩ := hvr k2 (.sl0 none 0)
    exact ⟨H, HLe.refl _, h.rebox hg rfl trivial ⟨h1, h2, hxt, u, T', hu1, by rw [hu2]; exact k1⟩ (fun s R e => by cases e)⟩
  · have hrow : RowAt (.row v0 cs j e sz es) w (β g).1 R := ⟨_, es.length, cap0, _, _, k1, by simp [Ow.j, k4]⟩
    obtain ⟨hRo, hRn⟩ := h4 R hrow
    let H' : Heap := upd H R (some arr)
    have hsame : H' R = some arr := upd_same _ _ _
    have hother : ∀ k, k ≠ R → H' k = H k := fun k hk => upd_other _ _ _ hk
    have hle : HLe H H' := fun k a ha => by
      by_cases e : k = R
      · rw [e, hRn] at ha; cases ha
      · rw [hother k e]; exact ha
    have hul := p4.length
    obtain ⟨u, hu1, hu2⟩ := hvr (H' := H') (k2.mono hle) (.sl R 0 es.length cap0 sz arr ws es hsame (p4.mono hle) rfl p9 p5 (by rw [List.drop_zero]; exact p7))
    have halive : ∀ {g' b1}, upd bx g (some (.var x)) g' = some b1 → b1.alive = true → ∃ b2, bx g' = some b2 ∧ b2.alive = true := fun {g' b1} hg' hal => by
      by_cases hne : g' = g
      · subst hne; exact ⟨_, hg, rfl⟩
      · rw [upd_other _ _ _ hne] at hg'; exact ⟨b1, hg', hal⟩
    refine ⟨H', hle, fun k a ha => ?_, h.below, h.lo, ⟨h.ext.1.trans hle, fun k a ha => ?_⟩, fun t => (h.slot t).mono hle (fun g' b1 hg' => ?_), fun g' b1 hg' => ?_, fun g1 g2 b1 b2 e1 e2 a1 a2 he => ?_, fun p' k' hk' => ⟨(h.pin p' k' hk').1, upd_ne_none (h.pin p' k' hk').2.1, (h.pin p' k' hk').2.2⟩, h.marks, fun g1 s g2 b2 R' e1 e2 ha2 hR => ?_⟩
    · by_cases e : k = R
      · rw [e, hsame] at ha; cases ha; rw [e]; exact ⟨_, _, p2⟩
      · rw [hother k e] at ha; exact h.has k a ha
    · by_cases e : k = R
      · exact .inr (by rw [e]; exact hRo)
      · rw [hother k e] at ha; exact h.ext.2 k a ha
    · by_cases hne : g' = g
      · subst hne
        rw [hg] at hg'; simp at hg'; subst hg'
        exact ⟨.var x, by show upd bx g' _ g' = _; rw [upd_same], trivial, rfl⟩
      · exact ⟨b1, by show upd bx g _ g' = _; rw [upd_other _ _ _ hne]; exact hg', shape.refl _, rfl⟩
    · by_cases hne : g' = g
      · subst hne
        have e' : Bx.var x = b1 := by
          have : upd bx g' (some (.var x)) g' = some b1 := hg'
          rw [upd_same] at this; simpa using this
        subst e'
        exact ⟨h1, by rw [hother _ (Ne.symm hRb)]; exact h2, hxt, u, T', hu1, by rw [hu2]; exact k1⟩
      · rw [upd_other _ _ _ hne] at hg'
        by_cases hal : b1.alive = true
        · refine (h.box g' b1 hg').keep rfl hle (fun hn => ?_) (fun s R' eb hR => ?_)
          · rw [hother _ (h.hid g _ g' b1 R hg hg' hal hrow)]; exact hn
          · subst eb
            exact absurd (hone g' s hg') hne
        · cases b1 <;> first | trivial | simp [Bx.alive] at hal
    · obtain ⟨c1, d1, f1⟩ := halive e1 a1
      obtain ⟨c2, d2, f2⟩ := halive e2 a2
      exact h.inj g1 g2 c1 c2 d1 d2 f1 f2 he
    · by_cases hne : g1 = g
      · subst hne
        have : upd bx g1 (some (.var x)) g1 = some (.bld s) := e1
        rw [upd_same] at this; cases this
      · rw [upd_other _ _ _ hne] at e1
        exact absurd (hone g1 s e1) hne
theorem fzAll_bld : ∀ (f : List Nat) (bx : Nat → Option Bx) (g' : Nat) (x : Ow), bx g' = some (.bld x) → fzAll bx f g' = some (.bld x)
  | [], _, _, _, h => h
  | g :: l, bx, g', x, h => fzAll_bld l _ g' x (by
    by_cases e : g' = g
    · subst e; rw [upd_same, h]; rfl
    · rw [upd_other _ _ _ e]; exact h)
end
end Go.Proofs.Fl
namespace Go.Proofs.Fl
open Go.RowKit
theorem edge_iff {o : Oper} {p : Nat → Prop} : (∀ e ∈ o.after, Region.binds .any e = true → p e.on) ↔ ∀ e ∈ edgesOf o, p e := by
  unfold edgesOf
  constructor
  · intro h e he
    obtain ⟨x, hx, e'⟩ := List.mem_filterMap.1 he
    cases hb : Region.binds .any x with
    | true => simp [hb] at e'; subst e'; exact h x (by simpa using hx) hb
    | false => simp [hb] at e'
  · intro h x hx hb
    exact h _ (List.mem_filterMap.2 ⟨x, by simpa using hx, by simp [hb]⟩)
section
variable {P : Program} {I : World → Prop} {T : TypeId → Option TY} {Φ : Ctr} {E : Env} {nt : Nat} {Q : Exit → Act → World → Prop}
theorem any_tail {ro : Option Nat} {all : Array Oper} {tab : List Nat} (hf : Flow all tab) {m : Nat} (hanc : ∀ k j, m ≤ k → k < all.size → j < k → (tab.getD k 0).testBit j = true) :
    ∀ (n k fuel : Nat) (listed : Array Bool) (a : Act) (w : World), all.size - k = n → k ≤ all.size → n ≤ fuel → m ≤ k → (∀ j, j < all.size → listed.getD j true = decide (j < k) ∧ listed.getD j false = decide (j < k)) → wpListIn (FW ro) 0 P all Q (all.toList.drop k) a w → wpAnyIn (FW ro) 0 P .any all Q fuel listed a w := by
  have lt : ∀ {j o}, all[j]? = some o → j < all.size := fun h => (Array.getElem?_eq_some_iff.1 h).1
  intro n
  induction n with
  | zero =>
    intro k fuel listed a w hn hk hfu hmk hl h
    have hke : k = all.size := by omega
    subst hke
    rw [List.drop_of_length_le (by simp)] at h
    have hnone : Region.ready .any all listed = [] := by
      cases hr : Region.ready .any all listed with
      | nil => rfl
      | cons i is =>
        have hi : i ∈ Region.ready .any all listed := by rw [hr]; simp
        obtain ⟨h0, o, ho, _⟩ := mem_ready.1 hi
        have := lt ho
        rw [(hl i this).1] at h0
        simp at h0; omega
    cases fuel with
    | zero => exact ⟨hnone, h⟩
    | succ fuel => exact ⟨fun _ => h, fun i hi => by rw [hnone] at hi; simp at hi⟩
  | succ n ih =>
    intro k fuel listed a w hn hk hfu hmk hl h
    have hklt : k < all.size := by omega
    have hgk : all[k]? = some all[k] := by simp [hklt]
    obtain ⟨fuel, rfl⟩ : ∃ f, fuel = f + 1 := ⟨fuel - 1, by omega⟩
    have hcl : Closed all (fun j => decide (j < k)) := fun j o hj hS e he => by
      have := hf.edge j o hj e he
      simp at hS ⊢; omega
    refine ⟨fun hr => ?_, fun i hi => ?_⟩
    · have : k ∈ Region.ready .any all listed := mem_ready.2 ⟨by rw [(hl k hklt).1]; simp, all[k], hgk, (edge_iff (p := fun e => listed.getD e false = true)).2 fun e he => by
        have := hf.edge k _ hgk e he
        rw [(hl e (by omega)).2]; simpa using this⟩
      rw [hr] at this; simp at this
    · obtain ⟨h0, o, ho, hall⟩ := mem_ready.1 hi
      have hilt := lt ho
      have hik : ¬ i < k := by rw [(hl i hilt).1] at h0; simpa using h0
      have hre : ∀ e ∈ edgesOf o, decide (e < k) = true := fun e he => by
        have := hf.edge i o ho e he
        rw [← (hl e (by omega)).2]
        exact (edge_iff (p := fun e => listed.getD e false = true)).1 hall e he
      have hie : i = k := by
        rcases Nat.lt_or_ge k i with h1 | h1
        · have := hf.anc_in hcl i o ho hre k (hanc i k (by omega) hilt h1)
          simp at this
        · omega
      subst hie
      rw [List.drop_eq_getElem_cons (by simpa using hklt)] at h
      rw [hgk] at ho; cases ho
      unfold wpOpIn
      simp only [hgk]
      unfold wpListIn at h
      have hnext : ∀ a w, wpListIn (FW ro) 0 P all Q (all.toList.drop (i + 1)) a w → wpAnyIn (FW ro) 0 P .any all Q fuel (listed.setIfInBounds i true) a w := fun a w h' =>
        ih (i + 1) fuel _ a w (by omega) (by omega) (by omega) (by omega) (fun j hj => by
          by_cases hji : j = i
          · subst hji
            have hsz : j < listed.size := by
              rcases Nat.lt_or_ge j listed.size with h'' | h''
              · exact h''
              · simp [Array.getElem?_eq_none h''] at h0
            simp [hsz]
          · rw [getD_set_ne true (Ne.symm hji), getD_set_ne false (Ne.symm hji), (hl j hj).1, (hl j hj).2]
            have : decide (j < i) = decide (j < i + 1) := by
              rw [decide_eq_decide]; omega
            rw [this]; exact ⟨rfl, rfl⟩) h'
      have e1 : all.toList[i]'(by simpa using hklt) = all[i] := by simp
      rw [e1] at h
      split at h
      · rename_i hw
        rw [if_pos hw]
        exact Oper.wpIn_mono hnext h
      · rename_i hw
        rw [if_neg hw]
        exact ⟨h.1, hnext _ _ h.2⟩
theorem any_go_to {ro : Option Nat} (hT : TabOk P T) (hΦ : CtrOk P I Φ) (hIE : ∀ w, BelowO E.own E.w0 w → I w) {all : Array Oper} {tab : List Nat} (hd : dstsOk nt all.toList = true) (hf : Flow all tab) {g : Nat} {tm : Nat → SV} {bx : Nat → Option Bx} {D : Nat → Option Nat} (m : Nat) (hm : m ≤ all.size) (hD : ∀ i o, all[i]? = some o → D i = o.dst) (L : Nat → Lg)
    (hfact : ∀ i o, i < m → all[i]? = some o → Fact T Φ all o (g + i) (fun t => tmF D L (fun j => decide (j < i)) t (List.range m) (tm t)) (fun id => bxF L (fun j => decide (j < i)) id (List.range m) (bx id)) (L i))
    (hconf : ∀ i j, i < m → j < m → near tab i j = true ∨ meets (L i).e (L j).e = false)
    (hanc : ∀ k j, m ≤ k → k < all.size → j < k → (tab.getD k 0).testBit j = true)
    (hQ : ∀ H β a w, St E nt H β (fun t => tmF D L (fun _ => true) t (List.range m) (tm t)) (fun id => bxF L (fun _ => true) id (List.range m) (bx id)) a w → wpListIn (FW ro) 0 P all Q (all.toList.drop m) a w) :
    ∀ (fuel : Nat) (listed : Array Bool) (S : Nat → Bool) (H : Heap) (β : Nat → Nat × Nat) (a : Act) (w : World), (∀ j, j < all.size → listed.getD j true = S j ∧ listed.getD j false = S j) → (∀ j, S j = true → j < m) → ((List.range all.size).filter fun j => !S j).length ≤ fuel → Closed all S →
      St E nt H β (fun t => tmF D L S t (List.range m) (tm t)) (fun id => bxF L S id (List.range m) (bx id)) a w → wpAnyIn (FW ro) 0 P .any all Q fuel listed a w := by
  have lt : ∀ {j o}, all[j]? = some o → j < all.size := fun h => (Array.getElem?_eq_some_iff.1 h).1
  have fin : ∀ {fuel : Nat} {listed : Array Bool} {S : Nat → Bool} {H : Heap} {β : Nat → Nat × Nat} {a : Act} {w : World}, (∀ j, j < m → S j = true) → (∀ j, S j = true → j < m) → (∀ j, j < all.size → listed.getD j true = S j ∧ listed.getD j false = S j) → ((List.range all.size).filter fun j => !S j).length ≤ fuel → St E nt H β (fun t => tmF D L S t (List.range m) (tm t)) (fun id => bxF L S id (List.range m) (bx id)) a w → wpAnyIn (FW ro) 0 P .any all Q fuel listed a w := by
    intro fuel listed S H β a w hS hSm hl hn h
    have hSe : ∀ j, S j = decide (j < m) := fun j => by
      cases hj : S j with
      | true => simp [hSm j hj]
      | false =>
        have : ¬ j < m := fun e => by rw [hS j e] at hj; cases hj
        simp [this]
    refine any_tail hf hanc (all.size - m) m fuel listed a w rfl hm ?_ (Nat.le_refl _) (fun j hj => by rw [← hSe j]; exact hl j hj) (hQ H β a w ?_)
    · refine Nat.le_trans ?_ hn
      have key : ∀ n, m ≤ n → n - m ≤ ((List.range n).filter fun j => !S j).length := by
        intro n
        induction n with
        | zero => intro _; simp
        | succ n ih =>
          intro hmn
          rw [List.range_succ, List.filter_append, List.length_append]
          rcases Nat.lt_or_ge n m with h1 | h1
          · have : n + 1 = m := by omega
            rw [this]; omega
          · have := ih h1
            have : S n = false := by rw [hSe]; simp; omega
            simp [this]; omega
      exact key _ hm
    · have e1 : (fun t => tmF D L S t (List.range m) (tm t)) = (fun t => tmF D L (fun _ => true) t (List.range m) (tm t)) := funext fun t => tmF_agree fun i hi _ => hS i (List.mem_range.1 hi)
      have e2 : (fun id => bxF L S id (List.range m) (bx id)) = (fun id => bxF L (fun _ => true) id (List.range m) (bx id)) := funext fun id => bxF_agree fun i hi hne => absurd (hS i (List.mem_range.1 hi)) hne
      rw [← e1, ← e2]; exact h
  intro fuel
  induction fuel with
  | zero =>
    intro listed S H β a w hl hSm hn hc h
    refine fin (fun j hj => ?_) hSm hl hn h
    have h0 : (List.range all.size).filter (fun j => !S j) = [] := List.eq_nil_of_length_eq_zero (by omega)
    have := List.filter_eq_nil_iff.1 h0 j (List.mem_range.2 (by omega))
    simpa using this
  | succ fuel ih =>
    intro listed S H β a w hl hSm hn hc h
    by_cases hall0 : ∀ j, j < m → S j = true
    · exact fin hall0 hSm hl hn h
    refine ⟨fun hr => ?_, fun i hi => ?_⟩
    · refine absurd (fun j => ?_) hall0
      induction j using Nat.strongRecOn with
      | _ j ih2 =>
        intro hj
        cases hS : S j with
        | true => rfl
        | false =>
          have hg : all[j]? = some all[j] := by simp [show j < all.size by omega]
          have : j ∈ Region.ready .any all listed := mem_ready.2 ⟨by rw [(hl j (by omega)).1, hS], all[j], hg, (edge_iff (p := fun e => listed.getD e false = true)).2 fun e he => by
            have := hf.edge j _ hg e he
            rw [(hl e (by omega)).2]; exact ih2 e this (by omega)⟩
          rw [hr] at this; simp at this
    obtain ⟨h0, o, ho, hall⟩ := mem_ready.1 hi
    have hilt := lt ho
    have hSi : S i = false := by rw [← (hl i hilt).1]; exact h0
    have hre : ∀ e ∈ edgesOf o, S e = true := fun e he => by
      have := hf.edge i o ho e he
      rw [← (hl e (by omega)).2]
      exact (edge_iff (p := fun e => listed.getD e false = true)).1 hall e he
    have him : i < m := by
      rcases Nat.lt_or_ge i m with h1 | h1
      · exact h1
      · exact absurd (fun j hj => hf.anc_in hc i o ho hre j (hanc i j h1 hilt (by omega))) hall0
    have same : ∀ j, j < m → near tab i j = true → decide (j < i) = S j := fun j hj hn => hf.near_same hc ho (show all[j]? = some all[j] by simp [show j < all.size by omega]) hre hSi hn
    have hfa : Fact T Φ all o (g + i) (fun t => tmF D L S t (List.range m) (tm t)) (fun id => bxF L S id (List.range m) (bx id)) (L i) := by
      refine (hfact i o him ho).foot (fun t ht => ?_) (fun id hid => ?_) (fun p hp => ?_)
      · refine (tmF_agree fun j hj hdj => ?_).symm
        have hj := List.mem_range.1 hj
        have hg : all[j]? = some all[j] := by simp [show j < all.size by omega]
        exact same j hj (hf.looks i o ho t ht j _ hg (by rw [← hD j _ hg]; exact hdj))
      · refine bxF_eqF (fun j hj hne => ?_) (eqF.refl _)
        have hj := List.mem_range.1 hj
        rcases hconf j i hj him with hn | hm
        · rw [near_symm] at hn; exact absurd (same j hj hn) hne
        · exact meets_not hm (.inl hid)
      · refine (bxF_agree fun j hj hne => ?_).symm
        have hj := List.mem_range.1 hj
        rcases hconf i j him hj with hn | hm
        · exact absurd (same j hj hn) hne
        · exact (meets_spec hm hp).1
    unfold wpOpIn
    simp only [ho]
    refine fact_step hT hΦ hIE (dstsOk_spec hd (by simpa using Array.mem_of_getElem? ho)) h hfa fun H β a w hS => ?_
    refine ih _ (fun j => S j || Nat.beq j i) H β a w (fun j hj => ?_) (fun j hSj => ?_) ?_ ?_ ?_
    · by_cases hji : j = i
      · subst hji
        have hsz : j < listed.size := by
          rcases Nat.lt_or_ge j listed.size with h' | h'
          · exact h'
          · simp [Array.getElem?_eq_none h'] at h0
        simp [hsz, Nat.beq_refl]
      · have hb : Nat.beq j i = false := by
          cases hb : Nat.beq j i
          · rfl
          · exact absurd (Nat.eq_of_beq_eq_true hb) hji
        rw [getD_set_ne true (Ne.symm hji), getD_set_ne false (Ne.symm hji), hb, Bool.or_false]
        exact hl j hj
    · simp only [Bool.or_eq_true] at hSj
      rcases hSj with h1 | h1
      · exact hSm j h1
      · rw [Nat.eq_of_beq_eq_true h1]; exact him
    · have := filter_lt (p := fun j => !S j) (p' := fun j => !(S j || Nat.beq j i)) (i := i) (by simp [hSi]) (by simp [Nat.beq_refl]) (fun j hj => by simp at hj ⊢; exact hj.1) (l := List.range all.size) (List.mem_range.2 hilt)
      omega
    · intro j o' hj hSj e he
      simp only [Bool.or_eq_true] at hSj ⊢
      rcases hSj with hSj | hSj
      · exact .inl (hc j o' hj hSj e he)
      · have := Nat.eq_of_beq_eq_true hSj; subst this
        rw [ho] at hj; cases hj
        exact .inl (hre e he)
    · have e1 : (fun t => tmF D L (fun j => S j || Nat.beq j i) t (List.range m) (tm t)) = putS (fun t => tmF D L S t (List.range m) (tm t)) o.dst (L i).r := by
        funext t
        rw [tmF_add (S := S) (i := i) (fun _ => rfl) (List.mem_range.2 him) (fun j hj h1 h2 => by
          have hj := List.mem_range.1 hj
          have hg : all[j]? = some all[j] := by simp [show j < all.size by omega]
          rw [hD i o ho] at h1
          rw [hD j _ hg] at h2
          exact hf.uniq j i _ o t hg ho h2 h1)]
        rw [hD i o ho]
        cases hdo : o.dst with
        | none => simp [putS]
        | some d =>
          by_cases hdt : d = t
          · subst hdt; simp [putS, upd_same]
          · simp [putS, hdt, upd_other _ _ _ (Ne.symm hdt)]
      have e2 : (fun id => bxF L (fun j => S j || Nat.beq j i) id (List.range m) (bx id)) = wrAll (fzAll (fun id => bxF L S id (List.range m) (bx id)) (L i).e.fz) (L i).e.wr := by
        funext id
        rw [app_at, bxF_add (S := S) (i := i) (fun _ => rfl) hSi List.pairwise_lt_range (List.mem_range.2 him)]
        intro j hj hij hSj b
        have hj := List.mem_range.1 hj
        have hnn : near tab i j = false := by
          cases hn : near tab i j with
          | false => rfl
          | true =>
            have := same j hj hn
            rw [hSj] at this
            simp at this; omega
        have m1 := (hconf i j him hj).resolve_left (by rw [hnn]; simp)
        have m2 := (hconf j i hj him).resolve_left (by rw [near_symm, hnn]; simp)
        exact actE_comm m2 m1 id b
      rw [e1, e2]; exact hS
end
end Go.Proofs.Fl
namespace Go.Proofs.Fl
open Go.RowKit
theorem run_fa {P : Program} {T : TypeId → Option TY} (hT : TabOk P T) {w : World} {a : Act} {o : Oper} {t : TypeId} {x : Operand} {j : Nat} (ho : o.op = .fieldAddr t x j) {ty : TY} (ht : T t = some ty) (hsh : ty.sh = .struct) {fo sz : Nat} {ag : Bool} (hf : ty.fields[j]? = some (fo, ag, sz)) (hsz : 0 < sz)
    {b off : Nat} (hx : a.eval x = .pointer (some ⟨b, off, none⟩)) : (execOp a.eval o).run P w = .ok (.value (.pointer (some ⟨b, off + fo, none⟩))) w := by
  obtain ⟨i, d, z, ok⟩ := tyOf_ok (hT t ty ht)
  have hd' := ok.sh
  rw [hsh] at hd'
  obtain ⟨fs, rfl⟩ := shOf_struct hd'
  obtain ⟨fd, fi, dd, e1, e2, e3, e4, e5, e6⟩ := fieldsOf_get (show fieldsOf P fs.toList = some ty.fields from ok.fields) hf
  have e1' : fs[j]? = some fd := by simpa using e1
  have hs : (sizeOf fd.type).run P w = .ok fi.size w := by simp [sizeOf, typeInfo, e3]
  have h0 : ¬ fi.size = 0 := by omega
  simp only [execOp, ho, hx, Instr.fieldAt, Sem.run_bind, ok.run_und, Result.andThen_ok, e1', Instr.sureAddr, Sem.run_pure, fieldPlace, hs, h0, if_false, add_mk, e2]
def AppQ (g : Nat) (v : Value) (cs : List IV) (j : Nat) (e : TypeId) (te : TY) (es : List IV) (s x : Operand) (tm : Nat → SV) (bx : Nat → Option Bx) (K : Nat → (Nat → Option Bx) → Prop) : Prop :=
  evS tm s = .val v ∧ bx g = some (.bld (.row (some v) cs j e te.size es)) ∧ (∀ g' s', bx g' = some (.bld s') → g' = g) ∧ ∃ news f, toI bx (evS tm x) = some (.sl news, f) ∧ (∀ y ∈ news, y.cells.length = te.size ∧ y.isTup = false) ∧
    (es.length + news.length) * te.bytes ≤ 140737488355328 ∧ es.length + news.length ≤ maxLen ∧ K (es.length + news.length) (upd (fzAll bx f) g (some (.bld (.row none cs j e te.size (es ++ news)))))
section
variable {X : Cx} {nt : Nat}
theorem set_splice {α : Type} {l : List α} {j : Nat} (h : j < l.length) (v : α) : splice l j [v] = l.set j v := by
  unfold splice
  rw [List.set_eq_take_append_cons_drop, if_pos h]
  simp
theorem app_core {E : Env} {H : Heap} {β : Nat → Nat × Nat} {tm : Nat → SV} {bx : Nat → Option Bx} {a : Act} {w : World} (hS : St E nt H β tm bx a w) {t e : TypeId} {ty te : TY} (ht : X.T t = some ty) (hsh : ty.sh = .slice e) (hte : X.T e = some te) (hp : 0 < te.size) (hzs : te.zero.cells.length = te.size)
    {g : Nat} {v : Value} {cs es : List IV} {j : Nat} {s x : Operand} {K : Nat → (Nat → Option Bx) → Prop} (hq : AppQ g v cs j e te es s x tm bx K) (rt : TypeId) :
    ∃ H2 v' w1 arrb T' n bx', (Builtin.append_ #[t, t] rt #[a.eval s, a.eval x]).run X.P w = .ok v' w1 ∧ w1.heap[(β g).1]? = some (.cells arrb T' (0, 0)) ∧ j < arrb.size ∧ v'.cells = #[v'] ∧ v'.oneCell' = true ∧ (∃ ad cap, v' = .slice ad n cap) ∧ K n bx' ∧ bx' g ≠ none ∧
      Sim E H2 β tm bx' a.tmps (w1.setRow (β g).1 (splice arrb.toList j v'.cells.toList).toArray) := by
  obtain ⟨hs, hb, hone, news, f, hx, hz, hby, hm, hK⟩ := hq
  have hv := ev_ok hS.sim rfl s
  rw [hs] at hv
  have hev : a.eval s = v := hv
  obtain ⟨H2, hle, S2, V2⟩ := toI_ok hS.sim (ev_ok hS.sim rfl x) hx
  have hb2 : fzAll bx f g = some (.bld (.row (some v) cs j e te.size es)) := fzAll_bld f bx g _ hb
  have hbr := S2.box g _ hb2
  obtain ⟨h1, h2, h3, h4⟩ := hbr
  have hlt : (β g).1 < w.heap.size := (S2.box g _ hb2).lt rfl
  obtain ⟨us, v1, T', k1, k2, k3, k4, k5, k6⟩ := h3
  have e1 := k5 v rfl
  subst e1
  obtain ⟨v', w1, hr, r1, r2, r3, r4, r5, r6, r7, r8⟩ := run_append_own X.hT S2.has ht hsh hte hp hzs hlt k6 V2 hz hby hm rt
  have hrow : ∀ {R}, (∃ n cap, v = .slice (some ⟨R, 0, none⟩) n cap) ↔ RowAt (.row (some v) cs j e te.size es) w (β g).1 R := by
    intro R
    constructor
    · rintro ⟨n, cap, e1⟩
      exact ⟨_, n, cap, _, _, k1, by simp [Ow.j, k4, e1]⟩
    · rintro ⟨arr, n, cap, T0, fr, e1, e2⟩
      rw [k1] at e1
      simp only [Option.some.injEq, Obj.cells.injEq] at e1
      obtain ⟨rfl, _, _⟩ := e1
      refine ⟨n, cap, ?_⟩
      simp [Ow.j, k4] at e2
      exact e2
  have hb1 : w1.heap[(β g).1]? = w.heap[(β g).1]? := r5 _ hlt (fun n cap e1 => (bld_row (H := H2) (o := .row (some v) cs j e te.size es) ⟨us, v, T', k1, k2, k3, k4, k5, k6⟩ (hrow.1 ⟨n, cap, e1⟩)).2.1 rfl)
  obtain ⟨ad, n', cap', hvs⟩ := r8
  have hc1 : v'.cells = #[v'] := by rw [hvs]; rfl
  have ho1 : v'.oneCell' = true := by rw [hvs]; rfl
  have hlen : n' = (es ++ news).length := by
    rcases r6 with ⟨e1, e2⟩ | ⟨R, cap, arr, ws, e1, _⟩
    · rw [hvs] at e1; cases e1; rw [e2]; rfl
    · rw [hvs] at e1; cases e1; rfl
  refine ⟨H2, v', w1, (us.set j v).toArray, T', es.length + news.length, _, by rw [hev]; exact hr, hb1.trans k1, by simpa using k4, hc1, ho1, ⟨ad, cap', by rw [hvs, hlen]; simp⟩, hK, by rw [upd_same]; simp, ?_⟩
  have hset : (splice (us.set j v).toArray.toList j v'.cells.toList).toArray = (us.set j v').toArray := by
    rw [hc1]
    show (splice (us.set j v) j [v']).toArray = _
    rw [set_splice (by simpa using k4)]
    simp
  rw [hset]
  have hw2 : ∀ k, k ≠ (β g).1 → (w1.setRow (β g).1 (us.set j v').toArray).heap[k]? = w1.heap[k]? := fun k hk => setRow_other _ _ _ _ hk
  have hbw2 : (w1.setRow (β g).1 (us.set j v').toArray).heap[(β g).1]? = some (.cells (us.set j v').toArray T' (0, 0)) := setRow_heap _ _ _ _ _ _ (hb1.trans k1)
  refine S2.build (s := .row (some v) cs j e te.size es) (s' := .row none cs j e te.size (es ++ news)) rfl hb2 (fun g' s' h => ?_) ⟨r1, r2, r3, ?_, fun k hk hkb hkr => ?_, fun R hR => ?_⟩ ?_
  · by_cases hg' : ∃ s0, bx g' = some (.bld s0)
    · obtain ⟨s0, hs0⟩ := hg'
      exact hone g' s0 hs0
    · exfalso
      have key : ∀ (f : List Nat) (bx : Nat → Option Bx), (¬ ∃ s0, bx g' = some (.bld s0)) → ¬ ∃ s0, fzAll bx f g' = some (.bld s0) := by
        intro f
        induction f with
        | nil => intro bx h; exact h
        | cons g0 f ih =>
          intro bx h
          refine ih _ ?_
          rintro ⟨s0, e0⟩
          by_cases e : g' = g0
          · subst e
            rw [upd_same] at e0
            cases hx0 : bx g' with
            | none => rw [hx0] at e0; cases e0
            | some b0 => rw [hx0] at e0; cases b0 <;> simp [fzB] at e0; subst e0; exact h ⟨_, hx0⟩
          · rw [upd_other _ _ _ e] at e0; exact h ⟨s0, e0⟩
      exact key f bx hg' ⟨s', h⟩
  · simpa using r4
  · rw [hw2 k hkb]
    exact r5 k hk (fun n cap e1 => hkr (hrow.1 ⟨n, cap, e1⟩))
  · obtain ⟨arr, n, cap, T0, fr, e1, e2⟩ := hR
    rw [hbw2] at e1
    simp only [Option.some.injEq, Obj.cells.injEq] at e1
    obtain ⟨rfl, _, _⟩ := e1
    have e3 : v' = .slice (some ⟨R, 0, none⟩) n cap := by
      simp [Ow.j, k4] at e2
      exact e2
    rcases r7 R n cap e3 with ⟨n0, cap0, e4⟩ | h5
    · exact .inl (hrow.1 ⟨n0, cap0, e4⟩)
    · exact .inr h5
  · refine ⟨us, v', T', hbw2, k2, k3, k4, fun v1 e => (by cases e), ?_⟩
    rcases r6 with h6 | ⟨R, cap, arr, ws, e1, h7, h8, h9⟩
    · exact .inl h6
    · exact .inr ⟨R, cap, arr, ws, e1, h7, (hw2 R h7).trans h8, h9⟩
theorem app_end {ro : Option Nat} {E : Env} {Q : Exit → Act → World → Prop} {H : Heap} {β : Nat → Nat × Nat} {tm : Nat → SV} {bx : Nat → Option Bx} {a : Act} {w : World} (hS : St E nt H β tm bx a w) {all : Array Oper} {o st : Oper} {s x p : Operand} {t t2 e : TypeId} {d : Nat} {ty te ty2 : TY}
    (hgo : o.guard = none) (hgs : st.guard = none) (hop : o.op = .call { callee := .builtin .append, args := #[s, x], argTypes := #[t, t] }) (hod : o.dst = some d) (hdn : d < nt) (hst : st.op = .store t2 p (.tmp d)) (hsd : st.dst = none) (hpd : p ≠ .tmp d)
    (ht : X.T t = some ty) (hsh : ty.sh = .slice e) (hte : X.T e = some te) (ht2 : X.T t2 = some ty2) (hs2 : ty2.size = 1) (hp : 0 < te.size) (hzs : te.zero.cells.length = te.size)
    {g : Nat} {v : Value} {cs es : List IV} {j : Nat} {K : (Nat → SV) → (Nat → Option Bx) → Prop} (hpp : evS tm p = .ptr g j) (hq : AppQ g v cs j e te es s x tm bx fun n bx => K (upd tm d (.slN n)) bx)
    (hQ : ∀ H β tm bx a w, K tm bx → St E nt H β tm bx a w → Q .normal a w) : wpListIn (FW ro) 0 X.P all Q [o, st] a w := by
  obtain ⟨H2, v', w1, arrb, T', n, bx', hr, k1, k2, k3, k4, ⟨ad, cap, k5⟩, hK, k6, S2⟩ := app_core hS ht hsh hte hp hzs hq o.type
  have hvp := ev_ok hS.sim rfl p
  rw [hpp] at hvp
  obtain ⟨_, hpv⟩ := hvp
  obtain ⟨i2, d2, z2, ok2⟩ := tyOf_ok (X.hT t2 ty2 ht2)
  have hrun1 : (execOp a.eval o).run X.P w = .ok (.value v') w1 := exec_append hop rfl rfl hr
  have T2 : St E nt H2 β (upd tm d (.slN n)) bx' (a.put o.dst v') (w1.setRow (β g).1 (splice arrb.toList j v'.cells.toList).toArray) := by
    have := St.put (dst := o.dst) (r := .slN n) (v := v') ⟨S2, hS.defers, hS.size⟩ (fun d' hd' => by rw [hod] at hd'; cases hd'; exact hdn) ⟨ad, cap, k5⟩
    rw [hod] at this ⊢
    exact this
  have e1 : (a.put o.dst v').eval (.tmp d) = v' := by
    rw [hod]
    simp [Act.put, Act.eval, hS.size, hdn]
  have e2 : (a.put o.dst v').eval p = .pointer (some ⟨(β g).1, j, none⟩) := by
    rw [← hpv, hod]
    cases p with
    | tmp t0 =>
      have hne : t0 ≠ d := fun e => hpd (by rw [e])
      simp [Act.put, Act.eval, Array.getD_eq_getD_getElem?, Ne.symm hne]
    | _ => rfl
  have hrun2 : (execOp (a.put o.dst v').eval st).run X.P w1 = .ok .skip (w1.setRow (β g).1 (splice arrb.toList j v'.cells.toList).toArray) := by
    have := run_storeVar (P := X.P) ok2 k1 (o := j) (u := v') (by rw [k3, hs2]; rfl) (by rw [k3]; exact Nat.succ_le_of_lt k2) (fun c hc => by rw [k3] at hc; simp at hc; subst hc; exact k4)
    simp only [execOp, hst, e1, e2, Instr.storeAt, Instr.sureAddr, Sem.run_bind, Sem.run_pure, Result.andThen_ok, this]
  unfold wpListIn
  simp only [Region.wanted, hgo, if_true]
  refine op_in (fun c hc => by rw [hop] at hc; cases hc) ?_
  refine wp_val hrun1 ?_
  unfold wpListIn
  simp only [Region.wanted, hgs, if_true]
  refine op_in (fun c hc => by rw [hst] at hc; cases hc) ?_
  refine wp_unit hrun2 ?_
  rw [hsd]
  exact hQ _ _ _ _ _ _ hK T2
theorem app_endF {ro : Option Nat} {E : Env} {Q : Exit → Act → World → Prop} {H : Heap} {β : Nat → Nat × Nat} {tm : Nat → SV} {bx : Nat → Option Bx} {a : Act} {w : World} (hS : St E nt H β tm bx a w) {all : Array Oper} {o fa st : Oper} {s x p : Operand} {t t2 t3 e : TypeId} {d d3 jf fo fsz : Nat} {ag : Bool} {ty te ty2 ty3 : TY}
    (hgo : o.guard = none) (hgf : fa.guard = none) (hgs : st.guard = none) (hop : o.op = .call { callee := .builtin .append, args := #[s, x], argTypes := #[t, t] }) (hod : o.dst = some d) (hdn : d < nt) (hfa : fa.op = .fieldAddr t3 p jf) (hfd : fa.dst = some d3) (hdn3 : d3 < nt) (hst : st.op = .store t2 (.tmp d3) (.tmp d)) (hsd : st.dst = none) (hpd : p ≠ .tmp d) (hdd : d ≠ d3)
    (ht : X.T t = some ty) (hsh : ty.sh = .slice e) (hte : X.T e = some te) (ht2 : X.T t2 = some ty2) (hs2 : ty2.size = 1) (hp : 0 < te.size) (hzs : te.zero.cells.length = te.size) (ht3 : X.T t3 = some ty3) (hsh3 : ty3.sh = .struct) (hf3 : ty3.fields[jf]? = some (fo, ag, fsz)) (hfsz : 0 < fsz)
    {g off : Nat} {v : Value} {cs es : List IV} {K : (Nat → SV) → (Nat → Option Bx) → Prop} (hpp : evS tm p = .ptr g off) (hq : AppQ g v cs (off + fo) e te es s x tm bx fun n bx => K (upd (upd tm d (.slN n)) d3 (.ptr g (off + fo))) bx)
    (hQ : ∀ H β tm bx a w, K tm bx → St E nt H β tm bx a w → Q .normal a w) : wpListIn (FW ro) 0 X.P all Q [o, fa, st] a w := by
  obtain ⟨H2, v', w1, arrb, T', n, bx', hr, k1, k2, k3, k4, ⟨ad, cap, k5⟩, hK, k6, S2⟩ := app_core hS ht hsh hte hp hzs hq o.type
  have hvp := ev_ok hS.sim rfl p
  rw [hpp] at hvp
  obtain ⟨_, hpv⟩ := hvp
  obtain ⟨i2, d2, z2, ok2⟩ := tyOf_ok (X.hT t2 ty2 ht2)
  have hrun1 : (execOp a.eval o).run X.P w = .ok (.value v') w1 := exec_append hop rfl rfl hr
  have T2 : St E nt H2 β (upd tm d (.slN n)) bx' (a.put o.dst v') (w1.setRow (β g).1 (splice arrb.toList (off + fo) v'.cells.toList).toArray) := by
    have := St.put (dst := o.dst) (r := .slN n) (v := v') ⟨S2, hS.defers, hS.size⟩ (fun d' hd' => by rw [hod] at hd'; cases hd'; exact hdn) ⟨ad, cap, k5⟩
    rw [hod] at this ⊢
    exact this
  have T3 : St E nt H2 β (upd (upd tm d (.slN n)) d3 (.ptr g (off + fo))) bx' ((a.put o.dst v').put fa.dst (.pointer (some ⟨(β g).1, off + fo, none⟩))) (w1.setRow (β g).1 (splice arrb.toList (off + fo) v'.cells.toList).toArray) := by
    have := St.put (dst := fa.dst) (r := .ptr g (off + fo)) (v := .pointer (some ⟨(β g).1, off + fo, none⟩)) T2 (fun d' hd' => by rw [hfd] at hd'; cases hd'; exact hdn3) ⟨k6, rfl⟩
    rw [hfd] at this ⊢
    exact this
  have e2 : (a.put o.dst v').eval p = .pointer (some ⟨(β g).1, off, none⟩) := by
    rw [← hpv, hod]
    cases p with
    | tmp t0 =>
      have hne : t0 ≠ d := fun e => hpd (by rw [e])
      simp [Act.put, Act.eval, Array.getD_eq_getD_getElem?, Ne.symm hne]
    | _ => rfl
  have hrunF : (execOp (a.put o.dst v').eval fa).run X.P w1 = .ok (.value (.pointer (some ⟨(β g).1, off + fo, none⟩))) w1 := run_fa X.hT hfa ht3 hsh3 hf3 hfsz e2
  have e1 : ((a.put o.dst v').put fa.dst (.pointer (some ⟨(β g).1, off + fo, none⟩))).eval (.tmp d) = v' := by
    rw [hod, hfd]
    simp [Act.put, Act.eval, Array.getD_eq_getD_getElem?, hS.size, hdn, Ne.symm hdd]
  have e3 : ((a.put o.dst v').put fa.dst (.pointer (some ⟨(β g).1, off + fo, none⟩))).eval (.tmp d3) = .pointer (some ⟨(β g).1, off + fo, none⟩) := by
    rw [hod, hfd]
    simp [Act.put, Act.eval, Array.getD_eq_getD_getElem?, hS.size, hdn3]
  have hrun2 : (execOp ((a.put o.dst v').put fa.dst (.pointer (some ⟨(β g).1, off + fo, none⟩))).eval st).run X.P w1 = .ok .skip (w1.setRow (β g).1 (splice arrb.toList (off + fo) v'.cells.toList).toArray) := by
    have := run_storeVar (P := X.P) ok2 k1 (o := off + fo) (u := v') (by rw [k3, hs2]; rfl) (by rw [k3]; exact Nat.succ_le_of_lt k2) (fun c hc => by rw [k3] at hc; simp at hc; subst hc; exact k4)
    simp only [execOp, hst, e1, e3, Instr.storeAt, Instr.sureAddr, Sem.run_bind, Sem.run_pure, Result.andThen_ok, this]
  unfold wpListIn
  simp only [Region.wanted, hgo, if_true]
  refine op_in (fun c hc => by rw [hop] at hc; cases hc) ?_
  refine wp_val hrun1 ?_
  unfold wpListIn
  simp only [Region.wanted, hgf, if_true]
  refine op_in (fun c hc => by rw [hfa] at hc; cases hc) ?_
  refine wp_val hrunF ?_
  unfold wpListIn
  simp only [Region.wanted, hgs, if_true]
  refine op_in (fun c hc => by rw [hst] at hc; cases hc) ?_
  refine wp_unit hrun2 ?_
  rw [hsd]
  exact hQ _ _ _ _ _ _ hK T3
end
end Go.Proofs.Fl
