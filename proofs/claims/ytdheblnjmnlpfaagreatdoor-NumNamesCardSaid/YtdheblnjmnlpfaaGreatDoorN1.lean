/-
  The card of NumNames is proved: the law's function returns true at every argument of its shape; no condition.
-/
import Derived.Test.YtdheblnjmnlpfaaGreatDoorB10
namespace Go.Proofs.Fl
open Go.RowKit Go.Proofs.Dig
attribute [local irreducible] IntKind.wrap PureC MutC MakC IterC
theorem f121_ok {J : Keep} (L : LibI J) {s : List UInt8} (hs : s.length < 2 ^ 31) (w : Int) : C J 121 [.str s, .int .i64 w] (.bool (decide ((parseQ s).2 = w) && decide ((parseQ s).1 = 0))) := by
  refine fn_ok Tryz.func121 rfl rfl rfl ?_
  have c1 := f20_ok L hs
  unfold rePq at c1
  obtain ⟨⟨q, e⟩, hqe⟩ : ∃ p, parseQ s = p := ⟨_, rfl⟩
  rw [hqe] at c1 ⊢
  dsimp only at c1 ⊢
  have c2 := f22_ok J q
  have hsg : cmpI q.num 0 = 0 ↔ q = 0 := by
    rw [← Rat.num_eq_zero]; unfold cmpI; split <;> (try split) <;> omega
  obtain ⟨sg, hsge⟩ : ∃ s, cmpI q.num 0 = s := ⟨_, rfl⟩
  rw [hsge] at c2 hsg
  by_cases h1 : e = w
  · rw [decide_eq_true h1, Bool.true_and]
    by_cases h2 : q = 0
    · rw [decide_eq_true h2]
      have := hsg.2 h2
      repeat (first | (refine W.RS (by kernel_rfl) ?_; conv => whnf) | (refine W.ret ?_; conv => whnf) | (refine ⟨_, c1, ?_⟩; conv => whnf) | (refine ⟨_, c2, ?_⟩; conv => whnf) | (refine ⟨true, decide_eq_true (by omega), ?_⟩; conv => whnf) | (refine ⟨rfl, ?_⟩; conv => whnf) | (refine ⟨_, fun _ => rfl, fun h => absurd h.symm Bool.false_ne_true, ?_⟩; conv => whnf))
      rfl
    · rw [decide_eq_false h2]
      have : ¬ sg = 0 := fun h => h2 (hsg.1 h)
      repeat (first | (refine W.RS (by kernel_rfl) ?_; conv => whnf) | (refine W.ret ?_; conv => whnf) | (refine ⟨_, c1, ?_⟩; conv => whnf) | (refine ⟨_, c2, ?_⟩; conv => whnf) | (refine ⟨true, decide_eq_true (by omega), ?_⟩; conv => whnf) | (refine ⟨false, decide_eq_false (by omega), ?_⟩; conv => whnf) | (refine ⟨rfl, ?_⟩; conv => whnf) | (refine ⟨_, fun _ => rfl, fun h => absurd h.symm Bool.false_ne_true, ?_⟩; conv => whnf))
      rfl
  · rw [decide_eq_false h1, Bool.false_and]
    repeat (first | (refine W.RS (by kernel_rfl) ?_; conv => whnf) | (refine W.ret ?_; conv => whnf) | (refine ⟨_, c1, ?_⟩; conv => whnf) | (refine ⟨false, decide_eq_false (by omega), ?_⟩; conv => whnf) | (refine ⟨rfl, ?_⟩; conv => whnf) | (refine ⟨_, fun h => absurd h Bool.false_ne_true, fun _ => rfl, ?_⟩; conv => whnf))
    rfl
end Go.Proofs.Fl
namespace Go.Proofs.Fl
open Go.RowKit Go.Proofs.Dig
attribute [local irreducible] IntKind.wrap PureC MutC MakC IterC
theorem hvt (v : Bool) : (v == v) = true := by cases v <;> rfl
end Go.Proofs.Fl
namespace Go.Proofs.Fl
open Go.RowKit Go.Proofs.Dig
attribute [local irreducible] IntKind.wrap PureC MutC MakC IterC
def Hold (p : Prop) : Prop := p
attribute [irreducible] Hold
theorem sgn_sign (q : Rat) : cmpR q 0 = q.num.sign := by
  rw [← sign_cmp]
  unfold cmpI
  rcases Int.lt_trichotomy q.num 0 with h | h | h
  · rw [Int.sign_eq_neg_one_of_neg h, if_pos h]
  · rw [h]; rfl
  · rw [Int.sign_eq_one_of_pos h, if_neg (by omega), if_pos h]
end Go.Proofs.Fl
namespace Go.Proofs.Fl
open Go.RowKit Go.Proofs.Dig
attribute [local irreducible] IntKind.wrap PureC MutC MakC IterC
abbrev minI : Int := -9223372036854775808
abbrev maxI : Int := 9223372036854775807
noncomputable def i64R (q : Rat) : IV := if q.den = 1 ∧ ¬ cmpR q (minI : Rat) < 0 ∧ ¬ cmpR q (maxI : Rat) > 0 then .tup [.int .i64 q.num, .bool true] else .tup [.int .i64 0, .bool false]
theorem i64_in {q : Rat} (h : q.den = 1 ∧ ¬ cmpR q (minI : Rat) < 0 ∧ ¬ cmpR q (maxI : Rat) > 0) : minI ≤ q.num ∧ q.num ≤ maxI := by
  obtain ⟨h1, h2, h3⟩ := h
  have e1 := cmpR_ge.1 (Int.not_lt.1 h2)
  rw [intLe, h1] at e1
  have e2 : cmpR q (maxI : Rat) ≤ 0 := by omega
  have e3 := cmpR_le.1 e2
  rw [Rat.le_iff] at e3
  have e4 : q.num * ((1 : Nat) : Int) ≤ maxI * (q.den : Int) := e3
  rw [h1] at e4
  omega
theorem mulS {s : Int} (hs : s = 1 ∨ s = 0 ∨ s = -1) (n : Int) : s * n = n ∨ s * n = 0 ∨ s * n = -n := by
  rcases hs with rfl | rfl | rfl
  · left; omega
  · right; left; omega
  · right; right; omega
theorem sign_mul_abs (z : Int) : z.sign * (z.natAbs : Int) = z := by
  rcases Int.lt_trichotomy z 0 with h | h | h
  · rw [Int.sign_eq_neg_one_of_neg h]; omega
  · subst h; rfl
  · rw [Int.sign_eq_one_of_pos h]; omega
set_option maxHeartbeats 4000000 in
theorem f77_ok (J : Keep) {q : Rat} (hq : qln q < 2 ^ 20) : C J 77 [qr q] (i64R q) := by
  have c1 := f163_ok J ((dg (q.den - 1)).map u32)
  have hz : (((((dg (q.den - 1)).map u32).length : Nat) : Int) == 0) = decide (q.den = 1) := by
    have h1 := @dg_nil_iff (q.den - 1)
    have h2 := den_pos q
    rw [List.length_map]
    by_cases h : q.den = 1
    · rw [decide_eq_true h, h1.2 (by omega)]; rfl
    · rw [decide_eq_false h, beq_eq_false_iff_ne]
      intro e
      have : dg (q.den - 1) = [] := List.length_eq_zero_iff.1 (by omega)
      have := h1.1 this
      omega
  rw [hz] at c1
  have c2 := f61_ok J (n := minI) (by decide) (by decide)
  have c3 := f61_ok J (n := maxI) (by decide) (by decide)
  have lmin : ln (minI.natAbs) ≤ 3 := ln_i64 (by decide)
  have lmax : ln (maxI.natAbs) ≤ 3 := ln_i64 (by decide)
  have l1 := qln_i minI
  have l2 := qln_i maxI
  have c4 := f37_ok (J := J) (a := q) (b := (minI : Rat)) (by omega) (by omega)
  have c5 := f37_ok (J := J) (a := q) (b := (maxI : Rat)) (by omega) (by omega)
  have hin := @i64_in q
  unfold i64R
  obtain ⟨v1, h1⟩ : ∃ v, cmpR q (minI : Rat) = v := ⟨_, rfl⟩
  obtain ⟨v2, h2⟩ : ∃ v, cmpR q (maxI : Rat) = v := ⟨_, rfl⟩
  rw [h1] at c4 hin ⊢
  rw [h2] at c5 hin ⊢
  by_cases hd : q.den = 1
  · rw [decide_eq_true hd] at c1
    by_cases h3 : v1 < 0
    · rw [if_neg (fun h => h.2.1 h3)]
      refine fn_ok Tryz.func77 rfl rfl rfl ?_
      repeat (first | (refine W.RS (by kernel_rfl) ?_; conv => whnf) | (refine W.S ?_) | (refine W.ret ?_; conv => whnf) | (refine W.condT rfl ?_) | (refine ⟨_, c1, ?_⟩; conv => whnf) | (refine ⟨_, c2, ?_⟩; conv => whnf) | (refine ⟨_, c4, ?_⟩; conv => whnf) | (refine ⟨true, decide_eq_true (by omega), ?_⟩; conv => whnf) | (refine ⟨_, rfl, ?_⟩; conv => whnf) | (refine ⟨rfl, ?_⟩; conv => whnf) | (refine ⟨_, fun h => absurd h Bool.false_ne_true, fun _ => rfl, ?_⟩; conv => whnf) | (refine ⟨_, fun _ => rfl, fun h => absurd h.symm Bool.false_ne_true, ?_⟩; conv => whnf))
      rfl
    · by_cases h4 : v2 > 0
      · rw [if_neg (fun h => h.2.2 h4)]
        refine fn_ok Tryz.func77 rfl rfl rfl ?_
        repeat (first | (refine W.RS (by kernel_rfl) ?_; conv => whnf) | (refine W.S ?_) | (refine W.ret ?_; conv => whnf) | (refine W.condT rfl ?_) | (refine ⟨_, c1, ?_⟩; conv => whnf) | (refine ⟨_, c2, ?_⟩; conv => whnf) | (refine ⟨_, c3, ?_⟩; conv => whnf) | (refine ⟨_, c4, ?_⟩; conv => whnf) | (refine ⟨_, c5, ?_⟩; conv => whnf) | (refine ⟨true, decide_eq_true (by omega), ?_⟩; conv => whnf) | (refine ⟨false, decide_eq_false (by omega), ?_⟩; conv => whnf) | (refine ⟨_, rfl, ?_⟩; conv => whnf) | (refine ⟨rfl, ?_⟩; conv => whnf) | (refine ⟨_, fun h => absurd h Bool.false_ne_true, fun _ => rfl, ?_⟩; conv => whnf))
        rfl
      · have hb : -9223372036854775808 ≤ q.num ∧ q.num ≤ 9223372036854775807 := hin ⟨hd, h3, h4⟩
        rw [if_pos ⟨hd, h3, h4⟩]
        have c6 := f149_ok J q.num
        rw [sign_cmp, sgn_sign] at c6
        have hs : q.num.sign = 1 ∨ q.num.sign = 0 ∨ q.num.sign = -1 := by
          rcases Int.lt_trichotomy q.num 0 with h | h | h
          · exact .inr (.inr (Int.sign_eq_neg_one_of_neg h))
          · rw [h]; exact .inr (.inl rfl)
          · exact .inl (Int.sign_eq_one_of_pos h)
        have hsa := sign_mul_abs q.num
        have hok := dg_ok q.num.natAbs
        have hnv := dg_nv q.num.natAbs
        obtain ⟨s, hse⟩ : ∃ s, q.num.sign = s := ⟨_, rfl⟩
        have hll : (dg q.num.natAbs).length < 2 ^ 20 := by unfold qln at hq; show ln _ < _; omega
        rw [hse] at c6 hs hsa
        have la : ((dg q.num.natAbs).map u32).length = (dg q.num.natAbs).length := by simp
        refine fn_ok Tryz.func77 rfl rfl rfl ?_
        obtain ⟨ds, hds⟩ : ∃ l, dg q.num.natAbs = l := ⟨_, rfl⟩
        have hq0 : qr q = .agg [.sl (ds.map u32), .bool (decide (q.num < 0)), .sl ((dg (q.den - 1)).map u32)] := by rw [← hds]
        rw [hds] at hok hnv hll la
        have hzd : zd q.num = .agg [.sl (ds.map u32), .bool (decide (q.num < 0))] := by rw [← hds]
        rw [hq0] at c4 c5 ⊢
        rw [hzd] at c6
        repeat (first | (refine W.RS (by kernel_rfl) ?_; conv => whnf) | (refine W.S ?_) | (refine W.block ?_) | (refine W.skip ?_; conv => whnf) | (refine W.condF rfl ?_) | (refine ⟨_, c1, ?_⟩; conv => whnf) | (refine ⟨_, c2, ?_⟩; conv => whnf) | (refine ⟨_, c3, ?_⟩; conv => whnf) | (refine ⟨_, c4, ?_⟩; conv => whnf) | (refine ⟨_, c5, ?_⟩; conv => whnf) | (refine ⟨rfl, _, w64 (by omega), ?_⟩; conv => whnf) | (refine ⟨false, decide_eq_false (by omega), ?_⟩; conv => whnf) | (refine ⟨_, rfl, ?_⟩; conv => whnf) | (refine ⟨rfl, ?_⟩; conv => whnf) | (refine ⟨_, fun h => absurd h Bool.false_ne_true, fun _ => rfl, ?_⟩; conv => whnf))
        refine W.loop (G := { k : Nat // k ≤ ds.length }) (fun k => mkA [(1, .ptr 0 0), (4, .iv (.int .i64 (s * (hiN ds k.1 : Nat)))), (5, .iv (.int .i64 ((ds.length : Int) - 1 - (k.1 : Nat))))] [(0, .var (.agg [.sl (ds.map u32), .bool (decide (q.num < 0)), .sl ((dg (q.den - 1)).map u32)]))] 90) (fun k => ds.length - k.1) ⟨0, Nat.zero_le _⟩
          (Wk.tab [] ⟨⟨rfl, rfl⟩, ⟨ivEq (by dsimp only; rw [hiN_zero]; omega), rfl⟩, ⟨ivEq (by dsimp only; rw [la]; omega), rfl⟩, trivial⟩ ⟨rfl, trivial⟩ rfl) ?_
        rintro ⟨k, hk⟩
        show W J _ _ (mkA [(1, .ptr 0 0), (4, .iv (.int .i64 (s * (hiN ds k : Nat)))), (5, .iv (.int .i64 ((ds.length : Int) - 1 - (k : Nat))))] [(0, .var (.agg [.sl (ds.map u32), .bool (decide (q.num < 0)), .sl ((dg (q.den - 1)).map u32)]))] 90) _
        by_cases hke : k < ds.length
        · have g1 := hiN_succ hke
          have g2 := hiN_le ds (k + 1)
          have g3 := hok.dg.getD (by decide) (ds.length - 1 - k)
          have g3 : ds.getD (ds.length - 1 - k) 0 < 1000000000 := g3
          have g4 : (hiN ds k : Int) * 1000000000 + (ds.getD (ds.length - 1 - k) 0 : Nat) = (hiN ds (k + 1) : Nat) := by rw [g1]; omega
          rw [hnv] at g2
          have hbd : ∀ h : Nat, h ≤ q.num.natAbs → -9223372036854775808 ≤ s * (h : Int) ∧ s * (h : Int) ≤ 9223372036854775807 := by
            rcases hs with rfl | rfl | rfl <;> intro h hh <;> omega
          have hb1 := hbd _ g2
          have m1 := mulS hs (hiN ds k : Nat)
          have m2 := mulS hs (ds.getD (ds.length - 1 - k) 0 : Nat)
          have m3 := mulS hs (hiN ds (k + 1) : Nat)
          have m4 : s * (hiN ds k : Nat) * 1000000000 + s * (ds.getD (ds.length - 1 - k) 0 : Nat) = s * (hiN ds (k + 1) : Nat) := by
            rw [← g4, Int.mul_add, Int.mul_assoc]
          have m5 : s * (hiN ds k : Nat) = 0 ∨ s * (hiN ds k : Nat) = (hiN ds k : Nat) ∨ s * (hiN ds k : Nat) = -((hiN ds k : Nat) : Int) := by omega
          have g5 := getu (l := ds) (j := ds.length - 1 - k) (by omega)
          obtain ⟨H0, hH0⟩ : ∃ d, hiN ds k = d := ⟨_, rfl⟩
          obtain ⟨H1, hH1⟩ : ∃ d, hiN ds (k + 1) = d := ⟨_, rfl⟩
          obtain ⟨A, hA⟩ : ∃ d : Int, s * (hiN ds k : Nat) = d := ⟨_, rfl⟩
          obtain ⟨Bq, hB⟩ : ∃ d : Int, s * (hiN ds (k + 1) : Nat) = d := ⟨_, rfl⟩
          obtain ⟨D, hD⟩ : ∃ e : Int, s * (ds.getD (ds.length - 1 - k) 0 : Nat) = e := ⟨_, rfl⟩
          rw [hA] at m1 m4 m5
          rw [hB] at m3 m4 hb1
          rw [hD] at m2 m4
          rw [hA]
          have w1 : IntKind.wrap .i64 (A * 1000000000) = A * 1000000000 := w64 (by omega)
          have w2 : IntKind.wrap .i64 (s * ((ds.getD (ds.length - 1 - k) 0 : Nat) : Int)) = D := by rw [hD]; exact w64 (by omega)
          have w3 : IntKind.wrap .i64 (A * 1000000000 + D) = Bq := by rw [m4]; exact w64 (by omega)
          have w4 : IntKind.wrap .i64 ((ds.length : Int) - 1 - (k : Nat) - 1) = (ds.length : Int) - 1 - ((k + 1 : Nat) : Int) := by
            rw [w64 (by omega)]; omega
          clear g1 g2 g4 m1 m2 m3 m4 m5 hbd hb1
          repeat (first | (refine W.RS (by kernel_rfl) ?_; conv => whnf) | (refine W.R (by kernel_rfl) ?_; conv => whnf) | (refine W.S ?_) | (refine W.block ?_) | (refine W.skip ?_; conv => whnf) | (refine W.condT rfl ?_) | (refine ⟨_, c6, ?_⟩; conv => whnf) | (refine ⟨_, w1, ?_⟩; conv => whnf) | (refine ⟨_, w2, ?_⟩; conv => whnf) | (refine ⟨_, w3, ?_⟩; conv => whnf) | (refine ⟨ds.length - 1 - k, _, by omega, g5, rfl, ?_⟩; conv => whnf) | (refine ⟨rfl, _, w64 (by omega), ?_⟩; conv => whnf) | (refine ⟨_, w64 (by omega), ?_⟩; conv => whnf) | (refine ⟨true, decide_eq_true (by omega), ?_⟩; conv => whnf) | (refine ⟨rfl, ?_⟩; conv => whnf))
          exact ⟨⟨k + 1, by omega⟩, Wk.tab [] ⟨⟨rfl, rfl⟩, ⟨ivEq hB.symm, rfl⟩, ⟨ivEq (by dsimp only; omega), rfl⟩, trivial⟩ ⟨rfl, trivial⟩ rfl, by dsimp only; omega⟩
        · have e : k = ds.length := by omega
          subst e
          rw [hiN_all, hnv, hsa]
          repeat (first | (refine W.RS (by kernel_rfl) ?_; conv => whnf) | (refine W.S ?_) | (refine W.ret ?_; conv => whnf) | (refine W.exit ?_; conv => whnf) | (refine W.condF rfl ?_) | (refine ⟨false, decide_eq_false (by omega), ?_⟩; conv => whnf) | (refine ⟨rfl, ?_⟩; conv => whnf))
          rfl
  · rw [decide_eq_false hd] at c1
    rw [if_neg (fun h => hd h.1)]
    refine fn_ok Tryz.func77 rfl rfl rfl ?_
    repeat (first | (refine W.RS (by kernel_rfl) ?_; conv => whnf) | (refine W.S ?_) | (refine W.ret ?_; conv => whnf) | (refine W.condT rfl ?_) | (refine ⟨_, c1, ?_⟩; conv => whnf) | (refine ⟨_, rfl, ?_⟩; conv => whnf) | (refine ⟨rfl, ?_⟩; conv => whnf) | (refine ⟨_, fun _ => rfl, fun h => absurd h.symm Bool.false_ne_true, ?_⟩; conv => whnf))
    rfl
end Go.Proofs.Fl
namespace Go.Proofs.Fl
open Go.RowKit Go.Proofs.Dig
attribute [local irreducible] IntKind.wrap PureC MutC MakC IterC
def smQ2 (q : Rat) : Bool := Nat.blt q.num.natAbs (10 ^ 45) && Nat.blt q.den (10 ^ 45)
theorem smQ2_qln {q : Rat} (h : smQ2 q = true) : qln q ≤ 10 := by
  unfold smQ2 at h
  simp only [Bool.and_eq_true, Nat.blt_eq] at h
  unfold qln
  have e1 := ln_le (n := q.num.natAbs) (k := 5) (Nat.lt_of_lt_of_le h.1 (by decide))
  have e2 := ln_le (n := q.den) (k := 5) (Nat.lt_of_lt_of_le h.2 (by decide))
  omega
theorem is_c2 {J : Keep} (L : LibI J) {q : Rat} {s : List UInt8} {b : Bool} (h : smQ2 q = true) (e : (qtext q == s) = b) : C J 122 [qr q, .str s] (.bool b) := by
  have := f122_ok L (q := q) (s := s) (by have := smQ2_qln h; omega)
  rw [e] at this
  exact this
theorem bad_c {J : Keep} (L : LibI J) {s : List UInt8} {w : Int} (hs : Nat.blt s.length 2147483648 = true) (h : (decide ((parseQ s).2 = w) && decide ((parseQ s).1 = 0)) = true) : C J 121 [.str s, .int .i64 w] (.bool true) := by
  have := f121_ok L (s := s) (by rw [Nat.blt_eq] at hs; omega) w
  rw [h] at this
  exact this
def badL : List (List UInt8) := [[], [45], [48, 49], [49, 46], [46, 53], [43, 49], [49, 101], [49, 101, 43, 50], [49, 47, 50, 101, 49], [49, 46, 53, 47, 50], [49, 47, 45, 50], [32, 49], [49, 101, 48, 49], [45, 45, 49], [49, 69, 50], [48, 120, 49]]
theorem badL_all : (badL.all fun s => Nat.blt s.length 2147483648 && (decide ((parseQ s).2 = 4) && decide ((parseQ s).1 = 0))) = true := by decide +kernel
theorem badL_c {J : Keep} (L : LibI J) {s : List UInt8} (h : s ∈ badL) : C J 121 [.str s, .int .i64 4] (.bool true) := by
  have := List.all_eq_true.1 badL_all s h
  rw [Bool.and_eq_true] at this
  exact bad_c L this.1 this.2
def fct : Nat → Nat
  | 0 => 1
  | n + 1 => fct n * (n + 1)
def fQ (k : Nat) : Rat := ((fct k : Int) : Rat)
theorem fQ_step (k : Nat) : fQ k * (((k + 1 : Nat) : Int) : Rat) = fQ (k + 1) := by
  unfold fQ
  rw [← Rat.intCast_mul]; rfl
theorem fQ_qln {k : Nat} (h : k < 31) : qln (fQ k) ≤ 10 := by
  have hb : (List.range 31).all (fun k => smQ2 (fQ k)) = true := by decide +kernel
  exact smQ2_qln (List.all_eq_true.1 hb k (List.mem_range.2 h))
theorem iQ_qln {k : Nat} (h : k < 31) : qln (((k : Nat) : Int) : Rat) ≤ 10 := by
  have hb : (List.range 31).all (fun k => smQ2 (((k : Nat) : Int) : Rat)) = true := by decide +kernel
  exact smQ2_qln (List.all_eq_true.1 hb k (List.mem_range.2 h))
set_option maxHeartbeats 16000000 in
theorem f17_ok {J : Keep} (L : LibI J) : C J 17 [] (.bool true) := by
  refine fn_ok Tryz.func17 rfl rfl rfl ?_
  repeat (first | (refine W.RS (by kernel_rfl) ?_; conv => whnf) | (refine W.S ?_) | (refine W.block ?_) | (refine ⟨_, castA _, ?_⟩; conv => whnf))
  refine W.loop (G := { k : Nat // k ≤ 16 }) (fun k => mkA [(29, .ref 0 0 16 true), (30, .iv (.int .i64 16)), (31, .iv (.int .i64 (k.1 : Nat)))] [(0, .arr 9 1 (badL.map IV.str) false)] 20) (fun k => 16 - k.1) ⟨0, Nat.zero_le _⟩
    (Wk.tab [(0, 1)] ⟨⟨rfl, rfl⟩, ⟨rfl, rfl⟩, ⟨rfl, rfl⟩, trivial⟩ ⟨rfl, trivial⟩ rfl) ?_
  rintro ⟨k, hk⟩
  show W J _ _ (mkA [(29, .ref 0 0 16 true), (30, .iv (.int .i64 16)), (31, .iv (.int .i64 (k : Nat)))] [(0, .arr 9 1 (badL.map IV.str) false)] 20) _
  by_cases hlt : k < 16
  · obtain ⟨b, hb⟩ : ∃ b, badL[k]? = some b := ⟨badL[k]'hlt, List.getElem?_eq_getElem _⟩
    have hg : (badL.map IV.str)[k]? = some (.str b) := by rw [List.getElem?_map, hb]; rfl
    have hg0 : (badL.map IV.str)[0 + k]? = some (.str b) := by rw [Nat.zero_add]; exact hg
    have c1 := badL_c (J := J) L (List.mem_of_getElem? hb)
    repeat (first | (refine W.RS (by kernel_rfl) ?_; conv => whnf) | (refine W.R (by kernel_rfl) ?_; conv => whnf) | (refine W.S ?_) | (refine W.block ?_) | (refine W.skip ?_; conv => whnf) | (refine W.condF rfl ?_) | (refine W.condT rfl ?_) | (refine ⟨_, c1, ?_⟩; conv => whnf) | (refine ⟨_, hg0, ?_⟩; conv => whnf) | (refine ⟨rfl, _, w64 (by omega), ?_⟩; conv => whnf) | (refine ⟨(rfl : (_ : Nat) = _), _, rfl, by omega, ?_⟩; conv => whnf) | (refine ⟨true, decide_eq_true (by omega), ?_⟩; conv => whnf) | (refine ⟨_, rfl, ?_⟩; conv => whnf) | (refine ⟨rfl, ?_⟩; conv => whnf))
    exact ⟨⟨k + 1, by omega⟩, Wk.tab [] ⟨⟨rfl, rfl⟩, ⟨rfl, rfl⟩, ⟨rfl, rfl⟩, trivial⟩ ⟨rfl, trivial⟩ rfl, by dsimp only; omega⟩
  · have e : k = 16 := by omega
    subst e
    have p1 := bad_c L (s := [49, 47, 48]) (w := 9) (by decide) (by decide +kernel)
    have p2 := bad_c L (s := [49, 101, 49, 48, 48, 49]) (w := 5) (by decide) (by decide +kernel)
    have p3 := bad_c L (s := [49, 101, 45, 57, 57, 57, 57, 57, 57, 57, 57, 57, 57, 57, 57, 57, 57, 57, 57, 57, 57, 57, 57]) (w := 5) (by decide) (by decide +kernel)
    have p4 := of_c L (s := [50, 46, 53, 101, 51]) (q := 2500) (e := 0) (by decide) (by decide +kernel)
    have p5 := is_c2 L (q := 2500) (s := [50, 53, 48, 48]) (b := true) (by decide +kernel) (by decide +kernel)
    have p6 := of_c L (s := [45, 48, 46, 48, 48, 101, 53]) (q := 0) (e := 0) (by decide) (by decide +kernel)
    have p7 := is_c2 L (q := 0) (s := [48]) (b := true) (by decide +kernel) (by decide +kernel)
    have p8 := of_c L (s := [48, 47, 55]) (q := 0) (e := 0) (by decide) (by decide +kernel)
    have p9 := of_c L (s := [49, 46, 50, 53, 101, 45, 49]) (q := 1 / 8) (e := 0) (by decide) (by decide +kernel)
    have p10 := is_c2 L (q := 1 / 8) (s := [49, 47, 56]) (b := true) (by decide +kernel) (by decide +kernel)
    have aw := f19_ok L
    repeat (first | (refine W.wkRS (id := 7) (σ' := mkA [] [] 10) (Wk.tab [] trivial trivial rfl) (by kernel_rfl) ?_; conv => whnf) | (refine W.wkRS (id := 9) (σ' := mkA [] [] 10) (Wk.tab [] trivial trivial rfl) (by kernel_rfl) ?_; conv => whnf) | (refine W.RS (by kernel_rfl) ?_; conv => whnf) | (refine W.S ?_) | (refine W.exit ?_; conv => whnf) | (refine W.skip ?_; conv => whnf) | (refine W.condF rfl ?_) | (refine ⟨_, p1, ?_⟩; conv => whnf) | (refine ⟨_, p2, ?_⟩; conv => whnf) | (refine ⟨_, p3, ?_⟩; conv => whnf) | (refine ⟨_, p4, ?_⟩; conv => whnf) | (refine ⟨_, p5, ?_⟩; conv => whnf) | (refine ⟨_, p6, ?_⟩; conv => whnf) | (refine ⟨_, p7, ?_⟩; conv => whnf) | (refine ⟨_, p8, ?_⟩; conv => whnf) | (refine ⟨_, p9, ?_⟩; conv => whnf) | (refine ⟨_, p10, ?_⟩; conv => whnf) | (refine ⟨_, aw, ?_⟩; conv => whnf) | (refine ⟨false, decide_eq_false (by omega), ?_⟩; conv => whnf) | (refine ⟨_, rfl, ?_⟩; conv => whnf) | (refine ⟨rfl, ?_⟩; conv => whnf) | (refine ⟨_, fun h => absurd h Bool.false_ne_true, fun _ => rfl, ?_⟩; conv => whnf))
    clear p1 p2 p3 p4 p5 p6 p7 p8 p9 p10 aw
    have p1 := of_c L (s := [53, 47, 50]) (q := 5 / 2) (e := 0) (by decide) (by decide +kernel)
    have z1 := smQ2_qln (q := 5 / 2) (by decide +kernel)
    have p2 := f42_ok (base J) (a := 5 / 2) (by omega) 0
    rw [show ((nearI (5 / 2 * (((gk 0 : Nat) : Int) : Rat)) : Int) : Rat) * mkRat 1 (gk 0) = (2 : Rat) by decide +kernel] at p2
    have p3 := is_c2 L (q := 2) (s := [50]) (b := true) (by decide +kernel) (by decide +kernel)
    have p4 := of_c L (s := [45, 55, 47, 50]) (q := -7 / 2) (e := 0) (by decide) (by decide +kernel)
    have z2 := smQ2_qln (q := -7 / 2) (by decide +kernel)
    have p5 := f42_ok (base J) (a := -7 / 2) (by omega) 0
    rw [show ((nearI (-7 / 2 * (((gk 0 : Nat) : Int) : Rat)) : Int) : Rat) * mkRat 1 (gk 0) = (-4 : Rat) by decide +kernel] at p5
    have p6 := is_c2 L (q := -4) (s := [45, 52]) (b := true) (by decide +kernel) (by decide +kernel)
    have p7 := of_c L (s := [45, 49, 48, 48, 47, 55]) (q := -100 / 7) (e := 0) (by decide) (by decide +kernel)
    have z3 := smQ2_qln (q := -100 / 7) (by decide +kernel)
    have p8 := f79_ok L (q := -100 / 7) (by omega)
    rw [show qlen (-100 / 7) = 4 by decide +kernel] at p8
    have p9 := f61_ok J (n := 0) (by omega) (by omega)
    have z4 := smQ2_qln (q := ((0 : Int) : Rat)) (by decide +kernel)
    have p10 := f79_ok L (q := ((0 : Int) : Rat)) (by omega)
    rw [show qlen ((0 : Int) : Rat) = 2 by decide +kernel] at p10
    have p11 := f46_ok (base J) (-3)
    rw [show mkRat 1 (2 ^ intoN (-3) 256) = (1 : Rat) by decide +kernel] at p11
    have p12 := is_c2 L (q := 1) (s := [49]) (b := true) (by decide +kernel) (by decide +kernel)
    have p13 := of_c L (s := [49, 47, 51]) (q := 1 / 3) (e := 0) (by decide) (by decide +kernel)
    have z5 := smQ2_qln (q := 1 / 3) (by decide +kernel)
    have p14 := f40_ok (base J) (q := 1 / 3) (by omega) (-1)
    rw [show (((1 / 3 * (((gk (-1) : Nat) : Int) : Rat)).floor : Rat) * mkRat 1 (gk (-1))) = (0 : Rat) by decide +kernel] at p14
    have p15 := is_c2 L (q := 0) (s := [48]) (b := true) (by decide +kernel) (by decide +kernel)
    have p16 := f61_ok J (n := 2) (by omega) (by omega)
    have z6 := smQ2_qln (q := ((2 : Int) : Rat)) (by decide +kernel)
    have p17 := f51_ok (J := J) (a := ((2 : Int) : Rat)) (by omega) (-1)
    rw [show ((2 : Int) : Rat) ^ (intoN (-1) 1000) = (1 : Rat) by decide +kernel] at p17
    have p18 := f51_ok (J := J) (a := ((0 : Int) : Rat)) (by omega) 0
    rw [show ((0 : Int) : Rat) ^ (intoN 0 1000) = (1 : Rat) by decide +kernel] at p18
    clear z1 z2 z3 z4 z5 z6
    repeat (first | (refine W.wkRS (id := 11) (σ' := mkA [] [] 10) (Wk.tab [] trivial trivial rfl) (by kernel_rfl) ?_; conv => whnf) | (refine W.skip ?_; conv => whnf) | (refine W.condF rfl ?_) | (refine ⟨_, p1, ?_⟩; conv => whnf) | (refine ⟨_, p2, ?_⟩; conv => whnf) | (refine ⟨_, p3, ?_⟩; conv => whnf) | (refine ⟨_, p4, ?_⟩; conv => whnf) | (refine ⟨_, p5, ?_⟩; conv => whnf) | (refine ⟨_, p6, ?_⟩; conv => whnf) | (refine ⟨_, p7, ?_⟩; conv => whnf) | (refine ⟨_, p8, ?_⟩; conv => whnf) | (refine ⟨_, p9, ?_⟩; conv => whnf) | (refine ⟨_, p10, ?_⟩; conv => whnf) | (refine ⟨_, p11, ?_⟩; conv => whnf) | (refine ⟨_, p12, ?_⟩; conv => whnf) | (refine ⟨_, p13, ?_⟩; conv => whnf) | (refine ⟨_, p14, ?_⟩; conv => whnf) | (refine ⟨_, p15, ?_⟩; conv => whnf) | (refine ⟨_, p16, ?_⟩; conv => whnf) | (refine ⟨_, p17, ?_⟩; conv => whnf) | (refine ⟨_, p18, ?_⟩; conv => whnf) | (refine ⟨false, bne_eq_false_iff_eq.2 (by omega), ?_⟩; conv => whnf) | (refine ⟨_, rfl, ?_⟩; conv => whnf) | (refine ⟨rfl, ?_⟩; conv => whnf) | (refine ⟨_, fun h => absurd h Bool.false_ne_true, fun _ => rfl, ?_⟩; conv => whnf))
    clear p1 p2 p3 p4 p5 p6 p7 p8 p9 p10 p11 p12 p13 p14 p15 p16 p17 p18
    have p1 := f61_ok J (n := -9223372036854775808) (by omega) (by omega)
    have p2 := f61_ok J (n := 9223372036854775807) (by omega) (by omega)
    have p3 := f61_ok J (n := 1) (by omega) (by omega)
    have z1 := smQ2_qln (q := ((-9223372036854775808 : Int) : Rat)) (by decide +kernel)
    have z2 := smQ2_qln (q := ((9223372036854775807 : Int) : Rat)) (by decide +kernel)
    have z3 := smQ2_qln (q := ((1 : Int) : Rat)) (by decide +kernel)
    have z4 := smQ2_qln (q := (9223372036854775808 : Rat)) (by decide +kernel)
    have p4 := f77_ok J (q := ((-9223372036854775808 : Int) : Rat)) (by omega)
    rw [show i64R ((-9223372036854775808 : Int) : Rat) = .tup [.int .i64 (-9223372036854775808), .bool true] by unfold i64R; rw [if_pos (by decide +kernel)]; rfl] at p4
    have p5 := f77_ok J (q := ((9223372036854775807 : Int) : Rat)) (by omega)
    rw [show i64R ((9223372036854775807 : Int) : Rat) = .tup [.int .i64 9223372036854775807, .bool true] by unfold i64R; rw [if_pos (by decide +kernel)]; rfl] at p5
    have p6 := f48_ok (base J) (a := ((9223372036854775807 : Int) : Rat)) (b := ((1 : Int) : Rat)) (by omega) (by omega)
    rw [show ((9223372036854775807 : Int) : Rat) + ((1 : Int) : Rat) = (9223372036854775808 : Rat) by decide +kernel] at p6
    have p7 := f77_ok J (q := (9223372036854775808 : Rat)) (by omega)
    rw [show i64R (9223372036854775808 : Rat) = .tup [.int .i64 0, .bool false] by unfold i64R; rw [if_neg (by decide +kernel)]] at p7
    have p8 := f66_ok J ((-9223372036854775808 : Int) : Rat)
    rw [show -((-9223372036854775808 : Int) : Rat) = (9223372036854775808 : Rat) by decide +kernel] at p8
    have p9 := is_c2 L (q := 9223372036854775808) (s := [57, 50, 50, 51, 51, 55, 50, 48, 51, 54, 56, 53, 52, 55, 55, 53, 56, 48, 56]) (b := true) (by decide +kernel) (by decide +kernel)
    clear z1 z2 z3 z4
    repeat (first | (refine W.wkRS (id := 14) (σ' := mkA [(3, .iv (.int .i64 (-9223372036854775808))), (4, .iv (.bool true)), (5, .iv (.int .i64 9223372036854775807)), (6, .iv (.bool true)), (8, .iv (.bool false))] [] 60) (Wk.tab [] ⟨⟨rfl, rfl⟩, ⟨rfl, rfl⟩, ⟨rfl, rfl⟩, ⟨rfl, rfl⟩, ⟨rfl, rfl⟩, trivial⟩ trivial rfl) (by kernel_rfl) ?_; conv => whnf) | (refine W.wkRS (id := 16) (σ' := mkA [] [] 10) (Wk.tab [] trivial trivial rfl) (by kernel_rfl) ?_; conv => whnf) | (refine W.RS (by kernel_rfl) ?_; conv => whnf) | (refine W.S ?_) | (refine W.block ?_) | (refine W.skip ?_; conv => whnf) | (refine W.condF rfl ?_) | (refine ⟨_, p1, ?_⟩; conv => whnf) | (refine ⟨_, p2, ?_⟩; conv => whnf) | (refine ⟨_, p3, ?_⟩; conv => whnf) | (refine ⟨_, p4, ?_⟩; conv => whnf) | (refine ⟨_, p5, ?_⟩; conv => whnf) | (refine ⟨_, p6, ?_⟩; conv => whnf) | (refine ⟨_, p7, ?_⟩; conv => whnf) | (refine ⟨_, p8, ?_⟩; conv => whnf) | (refine ⟨_, p9, ?_⟩; conv => whnf) | (refine ⟨false, bne_eq_false_iff_eq.2 (by omega), ?_⟩; conv => whnf) | (refine ⟨_, rfl, ?_⟩; conv => whnf) | (refine ⟨rfl, ?_⟩; conv => whnf) | (refine ⟨_, fun h => absurd h Bool.false_ne_true, fun _ => rfl, ?_⟩; conv => whnf))
    clear p1 p2 p4 p5 p6 p7 p8 p9
    skip
    refine W.loop (G := { k : Nat // k ≤ 30 }) (fun k => mkA [(9, .ptr 0 0), (10, .iv (.int .i64 (k.1 + 1 : Nat)))] [(0, .var (qr (fQ k.1)))] 20) (fun k => 30 - k.1) ⟨0, Nat.zero_le _⟩
      (Wk.tab [(0, 11)] ⟨⟨rfl, rfl⟩, ⟨rfl, rfl⟩, trivial⟩ ⟨varQ (by decide +kernel), trivial⟩ rfl) ?_
    rintro ⟨k, hk⟩
    show W J _ _ (mkA [(9, .ptr 0 0), (10, .iv (.int .i64 (k + 1 : Nat)))] [(0, .var (qr (fQ k)))] 20) _
    by_cases hlt : k < 30
    · have q1 := fQ_qln (k := k) (by omega)
      have q2 := iQ_qln (k := k + 1) (by omega)
      have c1 := f61_ok J (n := ((k + 1 : Nat) : Int)) (by omega) (by omega)
      have c2 := f49_ok (base J) (a := fQ k) (b := (((k + 1 : Nat) : Int) : Rat)) (by omega) (by omega)
      rw [fQ_step] at c2
      clear q1 q2 p3
      repeat (first | (refine W.RS (by kernel_rfl) ?_; conv => whnf) | (refine W.R (by kernel_rfl) ?_; conv => whnf) | (refine W.S ?_) | (refine W.block ?_) | (refine W.skip ?_; conv => whnf) | (refine W.condT rfl ?_) | (refine ⟨_, c1, ?_⟩; conv => whnf) | (refine ⟨_, c2, ?_⟩; conv => whnf) | (refine ⟨rfl, _, w64 (by omega), ?_⟩; conv => whnf) | (refine ⟨true, decide_eq_true (by omega), ?_⟩; conv => whnf) | (refine ⟨rfl, ?_⟩; conv => whnf))
      exact ⟨⟨k + 1, by omega⟩, Wk.tab [] ⟨⟨rfl, rfl⟩, ⟨rfl, rfl⟩, trivial⟩ ⟨rfl, trivial⟩ rfl, by dsimp only; omega⟩
    · have e : k = 30 := by omega
      subst e
      have p1 := of_c L (s := [50, 54, 53, 50, 53, 50, 56, 53, 57, 56, 49, 50, 49, 57, 49, 48, 53, 56, 54, 51, 54, 51, 48, 56, 52, 56, 48, 48, 48, 48, 48, 48, 49]) (q := 265252859812191058636308480000001) (e := 0) (by decide) (by decide +kernel)
      have z1 := smQ2_qln (q := (265252859812191058636308480000000 : Rat)) (by decide +kernel)
      have z2 := smQ2_qln (q := (265252859812191058636308480000001 : Rat)) (by decide +kernel)
      have z3 := smQ2_qln (q := (265252859812191058636308480000000 / 265252859812191058636308480000001 : Rat)) (by decide +kernel)
      have p2 := f52_ok (base J) (a := 265252859812191058636308480000000) (b := 265252859812191058636308480000001) (by omega) (by omega) (by decide +kernel)
      have p3 := is_c2 L (q := 265252859812191058636308480000000) (s := [50, 54, 53, 50, 53, 50, 56, 53, 57, 56, 49, 50, 49, 57, 49, 48, 53, 56, 54, 51, 54, 51, 48, 56, 52, 56, 48, 48, 48, 48, 48, 48, 48]) (b := true) (by decide +kernel) (by decide +kernel)
      have p4 := f49_ok (base J) (a := 265252859812191058636308480000000 / 265252859812191058636308480000001) (b := 265252859812191058636308480000001) (by omega) (by omega)
      rw [show (265252859812191058636308480000000 / 265252859812191058636308480000001 : Rat) * 265252859812191058636308480000001 = 265252859812191058636308480000000 by decide +kernel] at p4
      clear z1 z2 z3
      repeat (first | (refine W.wkRS (id := 21) (σ' := mkA [(9, .ptr 0 0)] [(0, .var (qr (265252859812191058636308480000000 : Rat)))] 40) (Wk.tab [] ⟨⟨rfl, rfl⟩, trivial⟩ ⟨varQ (by decide +kernel), trivial⟩ rfl) (by kernel_rfl) ?_; conv => whnf) | (refine W.wkRS (id := 24) (σ' := mkA [] [] 10) (Wk.tab [] trivial trivial rfl) (by kernel_rfl) ?_; conv => whnf) | (refine W.RS (by kernel_rfl) ?_; conv => whnf) | (refine W.S ?_) | (refine W.exit ?_; conv => whnf) | (refine W.skip ?_; conv => whnf) | (refine W.condF rfl ?_) | (refine ⟨_, p1, ?_⟩; conv => whnf) | (refine ⟨_, p2, ?_⟩; conv => whnf) | (refine ⟨_, p3, ?_⟩; conv => whnf) | (refine ⟨_, p4, ?_⟩; conv => whnf) | (refine ⟨false, decide_eq_false (by omega), ?_⟩; conv => whnf) | (refine ⟨false, bne_eq_false_iff_eq.2 (by omega), ?_⟩; conv => whnf) | (refine ⟨_, rfl, ?_⟩; conv => whnf) | (refine ⟨rfl, ?_⟩; conv => whnf) | (refine ⟨_, fun h => absurd h Bool.false_ne_true, fun _ => rfl, ?_⟩; conv => whnf))
      clear p1 p2 p3 p4
      have p1 := span_c L (s := [49]) (t := [50]) (p := 1) (q := 2) (e := 0) (f := 0) (by decide) (by decide) (by decide +kernel) (by decide +kernel)
      have p2 := span_c L (s := [50]) (t := [52]) (p := 2) (q := 4) (e := 0) (f := 0) (by decide) (by decide) (by decide +kernel) (by decide +kernel)
      have p3 := span_c L (s := [48]) (t := [52]) (p := 0) (q := 4) (e := 0) (f := 0) (by decide) (by decide) (by decide +kernel) (by decide +kernel)
      have p4 := span_c L (s := [50]) (t := [49]) (p := 2) (q := 1) (e := 0) (f := 0) (by decide) (by decide) (by decide +kernel) (by decide +kernel)
      have p5 := span_c L (s := [49]) (t := [52]) (p := 1) (q := 4) (e := 0) (f := 0) (by decide) (by decide) (by decide +kernel) (by decide +kernel)
      have p6 := span_c L (s := [45, 49]) (t := [50]) (p := -1) (q := 2) (e := 0) (f := 0) (by decide) (by decide) (by decide +kernel) (by decide +kernel)
      have z0 := smQ2_qln (q := 1) (by decide +kernel)
      have z1 := smQ2_qln (q := 2) (by decide +kernel)
      have z2 := smQ2_qln (q := 4) (by decide +kernel)
      have z3 := smQ2_qln (q := 0) (by decide +kernel)
      have z4 := smQ2_qln (q := -1) (by decide +kernel)
      have z5 := smQ2_qln (q := (1 / 4 : Rat)) (by decide +kernel)
      have p7 := f115_ok (base J) (a := 1) (b := 2) (c := 2) (d := 4) (by omega) (by omega) (by omega) (by omega)
      rw [show divR 1 2 2 4 = .tup [sd (1 / 4) 1, .int .i64 0] by unfold divR; rw [if_neg (by decide +kernel), if_neg (by decide +kernel), show minL (divE 1 2 2 4) = 1 / 4 by decide +kernel, show maxL (divE 1 2 2 4) = 1 by decide +kernel]] at p7
      have p8 := f115_ok (base J) (a := 1) (b := 2) (c := 0) (d := 4) (by omega) (by omega) (by omega) (by omega)
      rw [show divR 1 2 0 4 = .tup [sd 0 0, .int .i64 9] by unfold divR; rw [if_neg (by decide +kernel), if_pos (by decide +kernel)]] at p8
      have p9 := f115_ok (base J) (a := 2) (b := 1) (c := 1) (d := 4) (by omega) (by omega) (by omega) (by omega)
      rw [show divR 2 1 1 4 = .tup [sd 0 0, .int .i64 2] by unfold divR; rw [if_pos (by decide +kernel)]] at p9
      have p10 := f113_ok L (a := 1 / 4) (b := 1) (by omega) (by omega)
      rw [show [91] ++ qtext (1 / 4) ++ [32] ++ qtext 1 ++ [93] = ([91, 49, 47, 52, 32, 49, 93] : List UInt8) by decide +kernel] at p10
      have p11 := f119_ok (J := J) (a := -1) (b := 2) (by omega) (by omega) 2
      rw [show powS (-1) 2 (intoN 2 1000) = (0, 4) by unfold powS; rw [if_pos (by decide +kernel), show maxL [(-1 : Rat) ^ (intoN 2 1000), (2 : Rat) ^ (intoN 2 1000)] = 4 by decide +kernel]] at p11
      have p12 := f113_ok L (a := 0) (b := 4) (by omega) (by omega)
      rw [show [91] ++ qtext 0 ++ [32] ++ qtext 4 ++ [93] = ([91, 48, 32, 52, 93] : List UInt8) by decide +kernel] at p12
      clear z0 z1 z2 z3 z4 z5
      repeat (first | (refine W.wkRS (id := 27) (σ' := mkA [(13, .ptr 0 0), (14, .iv (.int .i64 0)), (16, .iv (.int .i64 9)), (18, .iv (.int .i64 2))] [(0, .var (sd (1 / 4) 1))] 80) (Wk.tab [(0, 16)] ⟨⟨rfl, rfl⟩, ⟨rfl, rfl⟩, ⟨rfl, rfl⟩, ⟨rfl, rfl⟩, trivial⟩ ⟨rfl, trivial⟩ rfl) (by kernel_rfl) ?_; conv => whnf) | (refine W.wkRS (id := 29) (σ' := mkA [] [] 10) (Wk.tab [] trivial trivial rfl) (by kernel_rfl) ?_; conv => whnf) | (refine W.RS (by kernel_rfl) ?_; conv => whnf) | (refine W.S ?_) | (refine W.skip ?_; conv => whnf) | (refine W.condF rfl ?_) | (refine ⟨_, p1, ?_⟩; conv => whnf) | (refine ⟨_, p2, ?_⟩; conv => whnf) | (refine ⟨_, p3, ?_⟩; conv => whnf) | (refine ⟨_, p4, ?_⟩; conv => whnf) | (refine ⟨_, p5, ?_⟩; conv => whnf) | (refine ⟨_, p6, ?_⟩; conv => whnf) | (refine ⟨_, p7, ?_⟩; conv => whnf) | (refine ⟨_, p8, ?_⟩; conv => whnf) | (refine ⟨_, p9, ?_⟩; conv => whnf) | (refine ⟨_, p10, ?_⟩; conv => whnf) | (refine ⟨_, p11, ?_⟩; conv => whnf) | (refine ⟨_, p12, ?_⟩; conv => whnf) | (refine ⟨false, bne_eq_false_iff_eq.2 (by omega), ?_⟩; conv => whnf) | (refine ⟨_, rfl, ?_⟩; conv => whnf) | (refine ⟨rfl, ?_⟩; conv => whnf) | (refine ⟨_, fun h => absurd h Bool.false_ne_true, fun _ => rfl, ?_⟩; conv => whnf))
      clear p1 p2 p3 p4 p5 p6 p7 p8 p9 p10 p11 p12
      have s0 := span_c L (s := [45, 49, 47, 52]) (t := [49, 47, 52]) (p := -1 / 4) (q := 1 / 4) (e := 0) (f := 0) (by decide) (by decide) (by decide +kernel) (by decide +kernel)
      have za0 := smQ2_qln (q := (-1 / 4 : Rat)) (by decide +kernel)
      have zb0 := smQ2_qln (q := (1 / 4 : Rat)) (by decide +kernel)
      have g0 := f32_ok L (a := -1 / 4) (b := 1 / 4) (by omega) (by omega) 0
      rw [show digR (-1 / 4) (1 / 4) (intoN 0 100) = .tup [.str [48], .bool true] by unfold digR; rw [if_pos (by decide +kernel), show digT (intoN 0 100) (nearI ((-1 / 4) * scaleQ (intoN 0 100))) = [48] by decide +kernel]] at g0
      have s1 := span_c L (s := [53, 47, 52]) (t := [53, 47, 52]) (p := 5 / 4) (q := 5 / 4) (e := 0) (f := 0) (by decide) (by decide) (by decide +kernel) (by decide +kernel)
      have za1 := smQ2_qln (q := (5 / 4 : Rat)) (by decide +kernel)
      have zb1 := smQ2_qln (q := (5 / 4 : Rat)) (by decide +kernel)
      have g1 := f32_ok L (a := 5 / 4) (b := 5 / 4) (by omega) (by omega) 1
      rw [show digR (5 / 4) (5 / 4) (intoN 1 100) = .tup [.str [49, 46, 50], .bool true] by unfold digR; rw [if_pos (by decide +kernel), show digT (intoN 1 100) (nearI ((5 / 4) * scaleQ (intoN 1 100))) = [49, 46, 50] by decide +kernel]] at g1
      have s2 := span_c L (s := [51, 49, 52, 52, 47, 49, 48, 48, 48]) (t := [51, 49, 52, 54, 47, 49, 48, 48, 48]) (p := 393 / 125) (q := 1573 / 500) (e := 0) (f := 0) (by decide) (by decide) (by decide +kernel) (by decide +kernel)
      have za2 := smQ2_qln (q := (393 / 125 : Rat)) (by decide +kernel)
      have zb2 := smQ2_qln (q := (1573 / 500 : Rat)) (by decide +kernel)
      have g2 := f32_ok L (a := 393 / 125) (b := 1573 / 500) (by omega) (by omega) 2
      rw [show digR (393 / 125) (1573 / 500) (intoN 2 100) = .tup [.str [], .bool false] by unfold digR; rw [if_neg (by decide +kernel)]] at g2
      have s3 := span_c L (s := [45, 49, 47, 49, 48, 48, 48]) (t := [48]) (p := -1 / 1000) (q := 0) (e := 0) (f := 0) (by decide) (by decide) (by decide +kernel) (by decide +kernel)
      have za3 := smQ2_qln (q := (-1 / 1000 : Rat)) (by decide +kernel)
      have zb3 := smQ2_qln (q := (0 : Rat)) (by decide +kernel)
      have g3 := f32_ok L (a := -1 / 1000) (b := 0) (by omega) (by omega) 2
      rw [show digR (-1 / 1000) (0) (intoN 2 100) = .tup [.str [48, 46, 48, 48], .bool true] by unfold digR; rw [if_pos (by decide +kernel), show digT (intoN 2 100) (nearI ((-1 / 1000) * scaleQ (intoN 2 100))) = [48, 46, 48, 48] by decide +kernel]] at g3
      have s4 := span_c L (s := [45, 49, 47, 53, 48]) (t := [45, 49, 47, 54, 48]) (p := -1 / 50) (q := -1 / 60) (e := 0) (f := 0) (by decide) (by decide) (by decide +kernel) (by decide +kernel)
      have za4 := smQ2_qln (q := (-1 / 50 : Rat)) (by decide +kernel)
      have zb4 := smQ2_qln (q := (-1 / 60 : Rat)) (by decide +kernel)
      have g4 := f32_ok L (a := -1 / 50) (b := -1 / 60) (by omega) (by omega) 2
      rw [show digR (-1 / 50) (-1 / 60) (intoN 2 100) = .tup [.str [45, 48, 46, 48, 50], .bool true] by unfold digR; rw [if_pos (by decide +kernel), show digT (intoN 2 100) (nearI ((-1 / 50) * scaleQ (intoN 2 100))) = [45, 48, 46, 48, 50] by decide +kernel]] at g4
      clear za0 zb0 za1 zb1 za2 zb2 za3 zb3 za4 zb4
      repeat (first | (refine W.wkRS (id := 34) (σ' := mkA [(19, .iv (.str [48])), (20, .iv (.bool true)), (21, .iv (.str [49, 46, 50])), (22, .iv (.bool true)), (23, .iv (.str [])), (24, .iv (.bool false)), (25, .iv (.str [48, 46, 48, 48])), (26, .iv (.bool true)), (27, .iv (.str [45, 48, 46, 48, 50])), (28, .iv (.bool true))] [] 80) (Wk.tab [] ⟨⟨rfl, rfl⟩, ⟨rfl, rfl⟩, ⟨rfl, rfl⟩, ⟨rfl, rfl⟩, ⟨rfl, rfl⟩, ⟨rfl, rfl⟩, ⟨rfl, rfl⟩, ⟨rfl, rfl⟩, ⟨rfl, rfl⟩, ⟨rfl, rfl⟩, trivial⟩ trivial rfl) (by kernel_rfl) ?_; conv => whnf) | (refine W.RS (by kernel_rfl) ?_; conv => whnf) | (refine W.ret ?_; conv => whnf) | (refine ⟨_, s0, ?_⟩; conv => whnf) | (refine ⟨_, g0, ?_⟩; conv => whnf) | (refine ⟨_, s1, ?_⟩; conv => whnf) | (refine ⟨_, g1, ?_⟩; conv => whnf) | (refine ⟨_, s2, ?_⟩; conv => whnf) | (refine ⟨_, g2, ?_⟩; conv => whnf) | (refine ⟨_, s3, ?_⟩; conv => whnf) | (refine ⟨_, g3, ?_⟩; conv => whnf) | (refine ⟨_, s4, ?_⟩; conv => whnf) | (refine ⟨_, g4, ?_⟩; conv => whnf) | (refine ⟨_, rfl, ?_⟩; conv => whnf) | (refine ⟨_, fun _ => rfl, fun h => absurd h.symm Bool.false_ne_true, ?_⟩; conv => whnf))
      rfl
end Go.Proofs.Fl
