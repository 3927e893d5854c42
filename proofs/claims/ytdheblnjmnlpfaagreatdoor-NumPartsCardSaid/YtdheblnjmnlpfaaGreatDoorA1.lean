/-
  The card of NumParts is proved: the law's function returns true at every argument of its shape; no condition.
-/
import Derived.Test.YtdheblnjmnlpfaaGreatDoorB10
namespace Go.Proofs.Fl
open Go.RowKit Go.Proofs.Dig
attribute [local irreducible] IntKind.wrap PureC MutC MakC IterC
theorem hvv (v : Bool) : (!(v == v)) = false := by cases v <;> rfl
theorem hvt (v : Bool) : (v == v) = true := by cases v <;> rfl
end Go.Proofs.Fl
namespace Go.Proofs.Fl
open Go.RowKit Go.Proofs.Dig
attribute [local irreducible] IntKind.wrap PureC MutC MakC IterC
def Hold (p : Prop) : Prop := p
attribute [irreducible] Hold
theorem sgn_sign (q : Rat) : cmpR q 0 = q.num.sign := by
  rw [← sign_cmp]
  unfold cmpI
  rcases Int.lt_trichotomy q.num 0 with h | h | h
  · rw [Int.sign_eq_neg_one_of_neg h, if_pos h]
  · rw [h]; rfl
  · rw [Int.sign_eq_one_of_pos h, if_neg (by omega), if_pos h]
end Go.Proofs.Fl
namespace Go.Proofs.Fl
open Go.RowKit Go.Proofs.Dig
attribute [local irreducible] IntKind.wrap PureC MutC MakC IterC
abbrev minI : Int := -9223372036854775808
abbrev maxI : Int := 9223372036854775807
noncomputable def i64R (q : Rat) : IV := if q.den = 1 ∧ ¬ cmpR q (minI : Rat) < 0 ∧ ¬ cmpR q (maxI : Rat) > 0 then .tup [.int .i64 q.num, .bool true] else .tup [.int .i64 0, .bool false]
theorem i64_in {q : Rat} (h : q.den = 1 ∧ ¬ cmpR q (minI : Rat) < 0 ∧ ¬ cmpR q (maxI : Rat) > 0) : minI ≤ q.num ∧ q.num ≤ maxI := by
  obtain ⟨h1, h2, h3⟩ := h
  have e1 := cmpR_ge.1 (Int.not_lt.1 h2)
  rw [intLe, h1] at e1
  have e2 : cmpR q (maxI : Rat) ≤ 0 := by omega
  have e3 := cmpR_le.1 e2
  rw [Rat.le_iff] at e3
  have e4 : q.num * ((1 : Nat) : Int) ≤ maxI * (q.den : Int) := e3
  rw [h1] at e4
  omega
theorem mulS {s : Int} (hs : s = 1 ∨ s = 0 ∨ s = -1) (n : Int) : s * n = n ∨ s * n = 0 ∨ s * n = -n := by
  rcases hs with rfl | rfl | rfl
  · left; omega
  · right; left; omega
  · right; right; omega
theorem sign_mul_abs (z : Int) : z.sign * (z.natAbs : Int) = z := by
  rcases Int.lt_trichotomy z 0 with h | h | h
  · rw [Int.sign_eq_neg_one_of_neg h]; omega
  · subst h; rfl
  · rw [Int.sign_eq_one_of_pos h]; omega
set_option maxHeartbeats 4000000 in
theorem f77_ok (J : Keep) {q : Rat} (hq : qln q < 2 ^ 20) : C J 77 [qr q] (i64R q) := by
  have c1 := f163_ok J ((dg (q.den - 1)).map u32)
  have hz : (((((dg (q.den - 1)).map u32).length : Nat) : Int) == 0) = decide (q.den = 1) := by
    have h1 := @dg_nil_iff (q.den - 1)
    have h2 := den_pos q
    rw [List.length_map]
    by_cases h : q.den = 1
    · rw [decide_eq_true h, h1.2 (by omega)]; rfl
    · rw [decide_eq_false h, beq_eq_false_iff_ne]
      intro e
      have : dg (q.den - 1) = [] := List.length_eq_zero_iff.1 (by omega)
      have := h1.1 this
      omega
  rw [hz] at c1
  have c2 := f61_ok J (n := minI) (by decide) (by decide)
  have c3 := f61_ok J (n := maxI) (by decide) (by decide)
  have lmin : ln (minI.natAbs) ≤ 3 := ln_i64 (by decide)
  have lmax : ln (maxI.natAbs) ≤ 3 := ln_i64 (by decide)
  have l1 := qln_i minI
  have l2 := qln_i maxI
  have c4 := f37_ok (J := J) (a := q) (b := (minI : Rat)) (by omega) (by omega)
  have c5 := f37_ok (J := J) (a := q) (b := (maxI : Rat)) (by omega) (by omega)
  have hin := @i64_in q
  unfold i64R
  obtain ⟨v1, h1⟩ : ∃ v, cmpR q (minI : Rat) = v := ⟨_, rfl⟩
  obtain ⟨v2, h2⟩ : ∃ v, cmpR q (maxI : Rat) = v := ⟨_, rfl⟩
  rw [h1] at c4 hin ⊢
  rw [h2] at c5 hin ⊢
  by_cases hd : q.den = 1
  · rw [decide_eq_true hd] at c1
    by_cases h3 : v1 < 0
    · rw [if_neg (fun h => h.2.1 h3)]
      refine fn_ok Tryz.func77 rfl rfl rfl ?_
      repeat (first | (refine W.RS (by kernel_rfl) ?_; conv => whnf) | (refine W.S ?_) | (refine W.ret ?_; conv => whnf) | (refine W.condT rfl ?_) | (refine ⟨_, c1, ?_⟩; conv => whnf) | (refine ⟨_, c2, ?_⟩; conv => whnf) | (refine ⟨_, c4, ?_⟩; conv => whnf) | (refine ⟨true, decide_eq_true (by omega), ?_⟩; conv => whnf) | (refine ⟨_, rfl, ?_⟩; conv => whnf) | (refine ⟨rfl, ?_⟩; conv => whnf) | (refine ⟨_, fun h => absurd h Bool.false_ne_true, fun _ => rfl, ?_⟩; conv => whnf) | (refine ⟨_, fun _ => rfl, fun h => absurd h.symm Bool.false_ne_true, ?_⟩; conv => whnf))
      rfl
    · by_cases h4 : v2 > 0
      · rw [if_neg (fun h => h.2.2 h4)]
        refine fn_ok Tryz.func77 rfl rfl rfl ?_
        repeat (first | (refine W.RS (by kernel_rfl) ?_; conv => whnf) | (refine W.S ?_) | (refine W.ret ?_; conv => whnf) | (refine W.condT rfl ?_) | (refine ⟨_, c1, ?_⟩; conv => whnf) | (refine ⟨_, c2, ?_⟩; conv => whnf) | (refine ⟨_, c3, ?_⟩; conv => whnf) | (refine ⟨_, c4, ?_⟩; conv => whnf) | (refine ⟨_, c5, ?_⟩; conv => whnf) | (refine ⟨true, decide_eq_true (by omega), ?_⟩; conv => whnf) | (refine ⟨false, decide_eq_false (by omega), ?_⟩; conv => whnf) | (refine ⟨_, rfl, ?_⟩; conv => whnf) | (refine ⟨rfl, ?_⟩; conv => whnf) | (refine ⟨_, fun h => absurd h Bool.false_ne_true, fun _ => rfl, ?_⟩; conv => whnf))
        rfl
      · have hb : -9223372036854775808 ≤ q.num ∧ q.num ≤ 9223372036854775807 := hin ⟨hd, h3, h4⟩
        rw [if_pos ⟨hd, h3, h4⟩]
        have c6 := f149_ok J q.num
        rw [sign_cmp, sgn_sign] at c6
        have hs : q.num.sign = 1 ∨ q.num.sign = 0 ∨ q.num.sign = -1 := by
          rcases Int.lt_trichotomy q.num 0 with h | h | h
          · exact .inr (.inr (Int.sign_eq_neg_one_of_neg h))
          · rw [h]; exact .inr (.inl rfl)
          · exact .inl (Int.sign_eq_one_of_pos h)
        have hsa := sign_mul_abs q.num
        have hok := dg_ok q.num.natAbs
        have hnv := dg_nv q.num.natAbs
        obtain ⟨s, hse⟩ : ∃ s, q.num.sign = s := ⟨_, rfl⟩
        have hll : (dg q.num.natAbs).length < 2 ^ 20 := by unfold qln at hq; show ln _ < _; omega
        rw [hse] at c6 hs hsa
        have la : ((dg q.num.natAbs).map u32).length = (dg q.num.natAbs).length := by simp
        refine fn_ok Tryz.func77 rfl rfl rfl ?_
        obtain ⟨ds, hds⟩ : ∃ l, dg q.num.natAbs = l := ⟨_, rfl⟩
        have hq0 : qr q = .agg [.sl (ds.map u32), .bool (decide (q.num < 0)), .sl ((dg (q.den - 1)).map u32)] := by rw [← hds]
        rw [hds] at hok hnv hll la
        have hzd : zd q.num = .agg [.sl (ds.map u32), .bool (decide (q.num < 0))] := by rw [← hds]
        rw [hq0] at c4 c5 ⊢
        rw [hzd] at c6
        repeat (first | (refine W.RS (by kernel_rfl) ?_; conv => whnf) | (refine W.S ?_) | (refine W.block ?_) | (refine W.skip ?_; conv => whnf) | (refine W.condF rfl ?_) | (refine ⟨_, c1, ?_⟩; conv => whnf) | (refine ⟨_, c2, ?_⟩; conv => whnf) | (refine ⟨_, c3, ?_⟩; conv => whnf) | (refine ⟨_, c4, ?_⟩; conv => whnf) | (refine ⟨_, c5, ?_⟩; conv => whnf) | (refine ⟨rfl, _, w64 (by omega), ?_⟩; conv => whnf) | (refine ⟨false, decide_eq_false (by omega), ?_⟩; conv => whnf) | (refine ⟨_, rfl, ?_⟩; conv => whnf) | (refine ⟨rfl, ?_⟩; conv => whnf) | (refine ⟨_, fun h => absurd h Bool.false_ne_true, fun _ => rfl, ?_⟩; conv => whnf))
        refine W.loop (G := { k : Nat // k ≤ ds.length }) (fun k => mkA [(1, .ptr 0 0), (4, .iv (.int .i64 (s * (hiN ds k.1 : Nat)))), (5, .iv (.int .i64 ((ds.length : Int) - 1 - (k.1 : Nat))))] [(0, .var (.agg [.sl (ds.map u32), .bool (decide (q.num < 0)), .sl ((dg (q.den - 1)).map u32)]))] 90) (fun k => ds.length - k.1) ⟨0, Nat.zero_le _⟩
          (Wk.tab [] ⟨⟨rfl, rfl⟩, ⟨ivEq (by dsimp only; rw [hiN_zero]; omega), rfl⟩, ⟨ivEq (by dsimp only; rw [la]; omega), rfl⟩, trivial⟩ ⟨rfl, trivial⟩ rfl) ?_
        rintro ⟨k, hk⟩
        show W J _ _ (mkA [(1, .ptr 0 0), (4, .iv (.int .i64 (s * (hiN ds k : Nat)))), (5, .iv (.int .i64 ((ds.length : Int) - 1 - (k : Nat))))] [(0, .var (.agg [.sl (ds.map u32), .bool (decide (q.num < 0)), .sl ((dg (q.den - 1)).map u32)]))] 90) _
        by_cases hke : k < ds.length
        · have g1 := hiN_succ hke
          have g2 := hiN_le ds (k + 1)
          have g3 := hok.dg.getD (by decide) (ds.length - 1 - k)
          have g3 : ds.getD (ds.length - 1 - k) 0 < 1000000000 := g3
          have g4 : (hiN ds k : Int) * 1000000000 + (ds.getD (ds.length - 1 - k) 0 : Nat) = (hiN ds (k + 1) : Nat) := by rw [g1]; omega
          rw [hnv] at g2
          have hbd : ∀ h : Nat, h ≤ q.num.natAbs → -9223372036854775808 ≤ s * (h : Int) ∧ s * (h : Int) ≤ 9223372036854775807 := by
            rcases hs with rfl | rfl | rfl <;> intro h hh <;> omega
          have hb1 := hbd _ g2
          have m1 := mulS hs (hiN ds k : Nat)
          have m2 := mulS hs (ds.getD (ds.length - 1 - k) 0 : Nat)
          have m3 := mulS hs (hiN ds (k + 1) : Nat)
          have m4 : s * (hiN ds k : Nat) * 1000000000 + s * (ds.getD (ds.length - 1 - k) 0 : Nat) = s * (hiN ds (k + 1) : Nat) := by
            rw [← g4, Int.mul_add, Int.mul_assoc]
          have m5 : s * (hiN ds k : Nat) = 0 ∨ s * (hiN ds k : Nat) = (hiN ds k : Nat) ∨ s * (hiN ds k : Nat) = -((hiN ds k : Nat) : Int) := by omega
          have g5 := getu (l := ds) (j := ds.length - 1 - k) (by omega)
          obtain ⟨H0, hH0⟩ : ∃ d, hiN ds k = d := ⟨_, rfl⟩
          obtain ⟨H1, hH1⟩ : ∃ d, hiN ds (k + 1) = d := ⟨_, rfl⟩
          obtain ⟨A, hA⟩ : ∃ d : Int, s * (hiN ds k : Nat) = d := ⟨_, rfl⟩
          obtain ⟨Bq, hB⟩ : ∃ d : Int, s * (hiN ds (k + 1) : Nat) = d := ⟨_, rfl⟩
          obtain ⟨D, hD⟩ : ∃ e : Int, s * (ds.getD (ds.length - 1 - k) 0 : Nat) = e := ⟨_, rfl⟩
          rw [hA] at m1 m4 m5
          rw [hB] at m3 m4 hb1
          rw [hD] at m2 m4
          rw [hA]
          have w1 : IntKind.wrap .i64 (A * 1000000000) = A * 1000000000 := w64 (by omega)
          have w2 : IntKind.wrap .i64 (s * ((ds.getD (ds.length - 1 - k) 0 : Nat) : Int)) = D := by rw [hD]; exact w64 (by omega)
          have w3 : IntKind.wrap .i64 (A * 1000000000 + D) = Bq := by rw [m4]; exact w64 (by omega)
          have w4 : IntKind.wrap .i64 ((ds.length : Int) - 1 - (k : Nat) - 1) = (ds.length : Int) - 1 - ((k + 1 : Nat) : Int) := by
            rw [w64 (by omega)]; omega
          clear g1 g2 g4 m1 m2 m3 m4 m5 hbd hb1
          repeat (first | (refine W.RS (by kernel_rfl) ?_; conv => whnf) | (refine W.R (by kernel_rfl) ?_; conv => whnf) | (refine W.S ?_) | (refine W.block ?_) | (refine W.skip ?_; conv => whnf) | (refine W.condT rfl ?_) | (refine ⟨_, c6, ?_⟩; conv => whnf) | (refine ⟨_, w1, ?_⟩; conv => whnf) | (refine ⟨_, w2, ?_⟩; conv => whnf) | (refine ⟨_, w3, ?_⟩; conv => whnf) | (refine ⟨ds.length - 1 - k, _, by omega, g5, rfl, ?_⟩; conv => whnf) | (refine ⟨rfl, _, w64 (by omega), ?_⟩; conv => whnf) | (refine ⟨_, w64 (by omega), ?_⟩; conv => whnf) | (refine ⟨true, decide_eq_true (by omega), ?_⟩; conv => whnf) | (refine ⟨rfl, ?_⟩; conv => whnf))
          exact ⟨⟨k + 1, by omega⟩, Wk.tab [] ⟨⟨rfl, rfl⟩, ⟨ivEq hB.symm, rfl⟩, ⟨ivEq (by dsimp only; omega), rfl⟩, trivial⟩ ⟨rfl, trivial⟩ rfl, by dsimp only; omega⟩
        · have e : k = ds.length := by omega
          subst e
          rw [hiN_all, hnv, hsa]
          repeat (first | (refine W.RS (by kernel_rfl) ?_; conv => whnf) | (refine W.S ?_) | (refine W.ret ?_; conv => whnf) | (refine W.exit ?_; conv => whnf) | (refine W.condF rfl ?_) | (refine ⟨false, decide_eq_false (by omega), ?_⟩; conv => whnf) | (refine ⟨rfl, ?_⟩; conv => whnf))
          rfl
  · rw [decide_eq_false hd] at c1
    rw [if_neg (fun h => hd h.1)]
    refine fn_ok Tryz.func77 rfl rfl rfl ?_
    repeat (first | (refine W.RS (by kernel_rfl) ?_; conv => whnf) | (refine W.S ?_) | (refine W.ret ?_; conv => whnf) | (refine W.condT rfl ?_) | (refine ⟨_, c1, ?_⟩; conv => whnf) | (refine ⟨_, rfl, ?_⟩; conv => whnf) | (refine ⟨rfl, ?_⟩; conv => whnf) | (refine ⟨_, fun _ => rfl, fun h => absurd h.symm Bool.false_ne_true, ?_⟩; conv => whnf))
    rfl
end Go.Proofs.Fl
namespace Go.Proofs.Fl
open Go.RowKit Go.Proofs.Dig
attribute [local irreducible] IntKind.wrap PureC MutC MakC IterC
theorem dec_one {n : Nat} : (decN n == [49]) = decide (n = 1) := by
  by_cases h : n = 1
  · subst h; rw [decN_small (by decide)]; rfl
  · rw [decide_eq_false h, beq_eq_false_iff_ne]
    intro e
    have := dv_decN n
    rw [e] at this
    exact h this.symm
set_option maxHeartbeats 4000000 in
theorem f78_ok (J : Keep) {q : Rat} (hq : rl q < 2 ^ 20) : C J 78 [rr q] (i64R q) := by
  have c2 := f62_ok J (z := minI) (by decide) (by decide)
  have c3 := f62_ok J (z := maxI) (by decide) (by decide)
  have lmin : lh (minI.natAbs) ≤ 5 := lh_le (by decide)
  have lmax : lh (maxI.natAbs) ≤ 5 := lh_le (by decide)
  have l1 := rl_int minI
  have l2 := rl_int maxI
  have c4 := f27_ok J (DOk.rr q) (DOk.rr (minI : Rat)) (by omega) (by omega)
  have c5 := f27_ok J (DOk.rr q) (DOk.rr (maxI : Rat)) (by omega) (by omega)
  have c6 := f153_ok J (DOk.rr q)
  have c7 := f161_ok J (z := (q.den : Int)) (by rw [Int.natAbs_natCast]; unfold rl at hq; omega)
  have e7 : ztext (q.den : Int) = decN q.den := by
    unfold ztext
    rw [if_neg (by omega), Int.natAbs_natCast]; rfl
  rw [e7] at c7
  have ed := @dec_one q.den
  have hin := @i64_in q
  unfold i64R
  obtain ⟨v1, h1⟩ : ∃ v, cmpR q (minI : Rat) = v := ⟨_, rfl⟩
  obtain ⟨v2, h2⟩ : ∃ v, cmpR q (maxI : Rat) = v := ⟨_, rfl⟩
  obtain ⟨td, h0⟩ : ∃ v, decN q.den = v := ⟨_, rfl⟩
  rw [h1] at c4 hin ⊢
  rw [h2] at c5 hin ⊢
  rw [h0] at c7 ed
  by_cases h3 : v1 < 0
  · rw [if_neg (fun h => h.2.1 h3)]
    refine fn_ok Tryz.func78 rfl rfl rfl ?_
    repeat (first | (refine W.RS (by kernel_rfl) ?_; conv => whnf) | (refine W.S ?_) | (refine W.ret ?_; conv => whnf) | (refine W.condT rfl ?_) | (refine ⟨_, c2, ?_⟩; conv => whnf) | (refine ⟨_, c4, ?_⟩; conv => whnf) | (refine ⟨true, decide_eq_true (by omega), ?_⟩; conv => whnf) | (refine ⟨rfl, ?_⟩; conv => whnf) | (refine ⟨_, fun _ => rfl, fun h => absurd h.symm Bool.false_ne_true, ?_⟩; conv => whnf))
    rfl
  · by_cases h4 : v2 > 0
    · rw [if_neg (fun h => h.2.2 h4)]
      refine fn_ok Tryz.func78 rfl rfl rfl ?_
      repeat (first | (refine W.RS (by kernel_rfl) ?_; conv => whnf) | (refine W.S ?_) | (refine W.ret ?_; conv => whnf) | (refine W.condT rfl ?_) | (refine ⟨_, c2, ?_⟩; conv => whnf) | (refine ⟨_, c3, ?_⟩; conv => whnf) | (refine ⟨_, c4, ?_⟩; conv => whnf) | (refine ⟨_, c5, ?_⟩; conv => whnf) | (refine ⟨true, decide_eq_true (by omega), ?_⟩; conv => whnf) | (refine ⟨false, decide_eq_false (by omega), ?_⟩; conv => whnf) | (refine ⟨rfl, ?_⟩; conv => whnf) | (refine ⟨_, fun h => absurd h Bool.false_ne_true, fun _ => rfl, ?_⟩; conv => whnf) | (refine ⟨_, fun _ => rfl, fun h => absurd h.symm Bool.false_ne_true, ?_⟩; conv => whnf))
      rfl
    · by_cases hd : q.den = 1
      · have hb : -9223372036854775808 ≤ q.num ∧ q.num ≤ 9223372036854775807 := hin ⟨hd, h3, h4⟩
        rw [decide_eq_true hd] at ed
        have en : (!(td == [49])) = false := by rw [ed]; rfl
        rw [if_pos ⟨hd, h3, h4⟩]
        have hs : q.num.sign = 1 ∨ q.num.sign = 0 ∨ q.num.sign = -1 := by
          rcases Int.lt_trichotomy q.num 0 with h | h | h
          · exact .inr (.inr (Int.sign_eq_neg_one_of_neg h))
          · rw [h]; exact .inr (.inl rfl)
          · exact .inl (Int.sign_eq_one_of_pos h)
        have hsa := sign_mul_abs q.num
        have hok := dh_ok q.num.natAbs
        have hnv := dh_hv q.num.natAbs
        have hll : (dh q.num.natAbs).length < 2 ^ 20 := by unfold rl at hq; show lh _ < _; omega
        refine fn_ok Tryz.func78 rfl rfl rfl ?_
        obtain ⟨ds, hds⟩ : ∃ l, dh q.num.natAbs = l := ⟨_, rfl⟩
        obtain ⟨s, hse⟩ : ∃ s, q.num.sign = s := ⟨_, rfl⟩
        have hq0 : rqd q (.int .i64 1) (.sl ((dh q.den).map d64)) = .agg [.int .i64 s, .sl (ds.map d64), .int .i64 1, .sl ((dh q.den).map d64)] := by rw [← hds, ← hse]
        rw [hds] at hok hnv hll
        rw [hse] at hs hsa
        have la : (ds.map d64).length = ds.length := by simp
        rw [hq0] at c4 c5 c6
        rw [show rr q = _ from hq0]
        repeat (first | (refine W.RS (by kernel_rfl) ?_; conv => whnf) | (refine W.S ?_) | (refine W.block ?_) | (refine W.skip ?_; conv => whnf) | (refine W.condF rfl ?_) | (refine ⟨_, c2, ?_⟩; conv => whnf) | (refine ⟨_, c3, ?_⟩; conv => whnf) | (refine ⟨_, c4, ?_⟩; conv => whnf) | (refine ⟨_, c5, ?_⟩; conv => whnf) | (refine ⟨_, c6, ?_⟩; conv => whnf) | (refine ⟨_, c7, ?_⟩; conv => whnf) | (refine ⟨_, en, ?_⟩; conv => whnf) | (refine ⟨false, decide_eq_false (by omega), ?_⟩; conv => whnf) | (refine ⟨rfl, ?_⟩; conv => whnf) | (refine ⟨_, fun h => absurd h Bool.false_ne_true, fun _ => rfl, ?_⟩; conv => whnf))
        refine W.loop (G := { k : Nat // k ≤ ds.length }) (fun k => mkA [(1, .ptr 0 0), (4, .iv (.int .i64 (s * (hv (ds.take k.1) : Nat)))), (5, .iv (.int .i64 (k.1 : Nat)))] [(0, .var (.agg [.int .i64 s, .sl (ds.map d64), .int .i64 1, .sl ((dh q.den).map d64)]))] 90) (fun k => ds.length - k.1) ⟨0, Nat.zero_le _⟩
          (Wk.tab [] ⟨⟨rfl, rfl⟩, ⟨ivEq (by dsimp only; rw [List.take_zero, show hv [] = 0 from rfl]; omega), rfl⟩, ⟨rfl, rfl⟩, trivial⟩ ⟨rfl, trivial⟩ rfl) ?_
        rintro ⟨k, hk⟩
        show W J _ _ (mkA [(1, .ptr 0 0), (4, .iv (.int .i64 (s * (hv (ds.take k) : Nat)))), (5, .iv (.int .i64 (k : Nat)))] [(0, .var (.agg [.int .i64 s, .sl (ds.map d64), .int .i64 1, .sl ((dh q.den).map d64)]))] 90) _
        by_cases hke : k < ds.length
        · have g1 := take_hv hke
          have g2 : hv (ds.take (k + 1)) ≤ hv ds := by
            have h := @hv_split (ds.take (k + 1)) (ds.drop (k + 2)) (ds.getD (k + 1) 0)
            by_cases h5 : k + 1 < ds.length
            · have e : ds = ds.take (k + 1) ++ ds.getD (k + 1) 0 :: ds.drop (k + 2) := by
                rw [List.getD_eq_getElem?_getD, List.getElem?_eq_getElem h5]; simp
              rw [← e] at h
              have p1 : 0 < B15 ^ (ds.drop (k + 2)).length := Nat.pow_pos (by decide)
              have p2 := Nat.mul_le_mul_right (ds.getD (k + 1) 0 + B15 * hv (ds.take (k + 1))) (Nat.succ_le_of_lt p1)
              have p3 : B15 * hv (ds.take (k + 1)) = 32768 * hv (ds.take (k + 1)) := rfl
              omega
            · rw [List.take_of_length_le (by omega)]; exact Nat.le_refl _
          have g3 : ds.getD k 0 < 32768 := by
            have := hok.dg (ds.getD k 0) (by rw [List.mem_reverse, List.getD_eq_getElem?_getD, List.getElem?_eq_getElem hke]; simp)
            exact this
          rw [hnv] at g2
          have g4 : (hv (ds.take k) : Int) * 32768 + (ds.getD k 0 : Nat) = (hv (ds.take (k + 1)) : Nat) := by rw [g1]; omega
          have hbd : ∀ h : Nat, h ≤ q.num.natAbs → -9223372036854775808 ≤ s * (h : Int) ∧ s * (h : Int) ≤ 9223372036854775807 := by
            rcases hs with rfl | rfl | rfl <;> intro h hh <;> omega
          have hb1 := hbd _ g2
          have m1 := mulS hs (hv (ds.take k) : Nat)
          have m2 := mulS hs (ds.getD k 0 : Nat)
          have m4 : s * (hv (ds.take k) : Nat) * 32768 + s * (ds.getD k 0 : Nat) = s * (hv (ds.take (k + 1)) : Nat) := by
            rw [← g4, Int.mul_add, Int.mul_assoc]
          have g5 := getd hke
          obtain ⟨A, hA⟩ : ∃ d : Int, s * (hv (ds.take k) : Nat) = d := ⟨_, rfl⟩
          obtain ⟨Bq, hB⟩ : ∃ d : Int, s * (hv (ds.take (k + 1)) : Nat) = d := ⟨_, rfl⟩
          obtain ⟨D, hD⟩ : ∃ e : Int, s * (ds.getD k 0 : Nat) = e := ⟨_, rfl⟩
          rw [hA] at m1 m4
          rw [hB] at m4 hb1
          rw [hD] at m2 m4
          rw [hA]
          have w1 : IntKind.wrap .i64 (A * 32768) = A * 32768 := w64 (by omega)
          have w2 : IntKind.wrap .i64 (s * ((ds.getD k 0 : Nat) : Int)) = D := by rw [hD]; exact w64 (by omega)
          have w3 : IntKind.wrap .i64 (A * 32768 + D) = Bq := by rw [m4]; exact w64 (by omega)
          clear g1 g2 g4 m1 m2 m4 hbd hb1
          repeat (first | (refine W.RS (by kernel_rfl) ?_; conv => whnf) | (refine W.R (by kernel_rfl) ?_; conv => whnf) | (refine W.S ?_) | (refine W.block ?_) | (refine W.skip ?_; conv => whnf) | (refine W.condT rfl ?_) | (refine ⟨_, w1, ?_⟩; conv => whnf) | (refine ⟨_, w2, ?_⟩; conv => whnf) | (refine ⟨_, w3, ?_⟩; conv => whnf) | (refine ⟨k, _, rfl, g5, rfl, ?_⟩; conv => whnf) | (refine ⟨rfl, _, w64 (by omega), ?_⟩; conv => whnf) | (refine ⟨true, decide_eq_true (by omega), ?_⟩; conv => whnf) | (refine ⟨_, rfl, ?_⟩; conv => whnf) | (refine ⟨rfl, ?_⟩; conv => whnf))
          exact ⟨⟨k + 1, by omega⟩, Wk.tab [] ⟨⟨rfl, rfl⟩, ⟨ivEq hB.symm, rfl⟩, ⟨rfl, rfl⟩, trivial⟩ ⟨rfl, trivial⟩ rfl, by dsimp only; omega⟩
        · have e : k = ds.length := by omega
          subst e
          rw [List.take_length, hnv, hsa]
          repeat (first | (refine W.RS (by kernel_rfl) ?_; conv => whnf) | (refine W.S ?_) | (refine W.ret ?_; conv => whnf) | (refine W.exit ?_; conv => whnf) | (refine W.condF rfl ?_) | (refine ⟨false, decide_eq_false (by omega), ?_⟩; conv => whnf) | (refine ⟨_, rfl, ?_⟩; conv => whnf) | (refine ⟨rfl, ?_⟩; conv => whnf))
          rfl
      · rw [decide_eq_false hd] at ed
        have en : (!(td == [49])) = true := by rw [ed]; rfl
        rw [if_neg (fun h => hd h.1)]
        refine fn_ok Tryz.func78 rfl rfl rfl ?_
        repeat (first | (refine W.RS (by kernel_rfl) ?_; conv => whnf) | (refine W.S ?_) | (refine W.ret ?_; conv => whnf) | (refine W.condT rfl ?_) | (refine ⟨_, c2, ?_⟩; conv => whnf) | (refine ⟨_, c3, ?_⟩; conv => whnf) | (refine ⟨_, c4, ?_⟩; conv => whnf) | (refine ⟨_, c5, ?_⟩; conv => whnf) | (refine ⟨_, c6, ?_⟩; conv => whnf) | (refine ⟨_, c7, ?_⟩; conv => whnf) | (refine ⟨_, en, ?_⟩; conv => whnf) | (refine ⟨false, decide_eq_false (by omega), ?_⟩; conv => whnf) | (refine ⟨rfl, ?_⟩; conv => whnf) | (refine ⟨_, fun h => absurd h Bool.false_ne_true, fun _ => rfl, ?_⟩; conv => whnf))
        rfl
theorem i64_form (q : Rat) : ∃ n b, i64R q = .tup [.int .i64 n, .bool b] := by
  unfold i64R
  split
  · exact ⟨_, _, rfl⟩
  · exact ⟨_, _, rfl⟩
theorem rl_parts (q : Rat) : rl ((q.num : Int) : Rat) ≤ rl q + 1 ∧ rl (((q.den : Int)) : Rat) ≤ rl q + 1 := by
  have h1 := rl_int q.num
  have h2 := rl_int (q.den : Int)
  rw [Int.natAbs_natCast] at h2
  have e : rl q = lh q.num.natAbs + lh q.den := rfl
  omega
set_option maxHeartbeats 8000000 in
theorem f14_ok {J : Keep} (L : LibI J) {x : Num3} (hx : x.ok) : C J 14 [x.iv] (.bool true) := by
  have cx := bothC J hx
  have ra := bothL hx
  obtain ⟨q, ha⟩ : ∃ a, x.q = a := ⟨_, rfl⟩
  rw [ha] at cx ra
  have qa := qln_rl q
  have aw := f19_ok L
  have c1 := f77_ok J (q := q) (by omega)
  have c2 := f78_ok J (q := q) (by omega)
  obtain ⟨n, b, hnb⟩ := i64_form q
  rw [hnb] at c1 c2
  obtain ⟨p1, p2⟩ := rl_parts q
  have c3 := f79_ok L (q := q) (by omega)
  have c4 := f80_ok J (DOk.rr q) (by omega)
  have c5 := f81_ok J q
  have c6 := f83_ok (d1 := .int .i64 1) (d2 := .sl ((dh q.den).map d64)) (a := q) J
  have c7 := f82_ok J q.num
  have c8 := f23_t L (p := (q.num : Rat)) (by omega)
  have c9 := f84_ok J (q := q) (by omega)
  have c10 := f85_ok J (DOk.rr q)
  have c11 := f82_ok J (q.den : Int)
  have c12 := f23_t L (p := ((q.den : Int) : Rat)) (by omega)
  have c13 := f86_ok (J := J) (q := q) (by omega)
  have c14 := f87_ok J (DOk.rr q) (by omega)
  have c15 := f82_ok J q.floor
  have f1 := rl_floor (q := q)
  have f2 : lh q.num.natAbs ≤ rl q := by unfold rl; omega
  have c16 := f23_t L (p := (q.floor : Rat)) (by omega)
  have c17 := f88_ok (J := J) (q := q) (by omega)
  have c18 := f89_ok J (DOk.rr q) (by omega)
  have c19 := f82_ok J (-((-q).floor))
  rw [Rat.intCast_neg] at c19
  have f3 := rl_floor (q := -q)
  have f4 : lh (-q).num.natAbs ≤ rl (-q) := by unfold rl; omega
  rw [rl_neg] at f4
  have c20 := f23_t L (p := (-(((-q).floor : Int) : Rat))) (by rw [rl_neg]; omega)
  refine fn_ok Tryz.func14 rfl rfl rfl ?_
  clear f1 f2 f3 f4 p1 p2 qa ra ha hnb
  repeat (first | (refine W.RS (by kernel_rfl) ?_; conv => whnf) | (refine W.S ?_) | (refine W.ret ?_; conv => whnf) | (refine W.skip ?_; conv => whnf) | (refine W.condF rfl ?_) | (refine ⟨_, hvv _, ?_⟩; conv => whnf) | (refine ⟨_, cx, ?_⟩; conv => whnf) | (refine ⟨_, c1, ?_⟩; conv => whnf) | (refine ⟨_, c2, ?_⟩; conv => whnf) | (refine ⟨_, c3, ?_⟩; conv => whnf) | (refine ⟨_, c4, ?_⟩; conv => whnf) | (refine ⟨_, c5, ?_⟩; conv => whnf) | (refine ⟨_, c6, ?_⟩; conv => whnf) | (refine ⟨_, c7, ?_⟩; conv => whnf) | (refine ⟨_, c8, ?_⟩; conv => whnf) | (refine ⟨_, c9, ?_⟩; conv => whnf) | (refine ⟨_, c10, ?_⟩; conv => whnf) | (refine ⟨_, c11, ?_⟩; conv => whnf) | (refine ⟨_, c12, ?_⟩; conv => whnf) | (refine ⟨_, c13, ?_⟩; conv => whnf) | (refine ⟨_, c14, ?_⟩; conv => whnf) | (refine ⟨_, c15, ?_⟩; conv => whnf) | (refine ⟨_, c16, ?_⟩; conv => whnf) | (refine ⟨_, c17, ?_⟩; conv => whnf) | (refine ⟨_, c18, ?_⟩; conv => whnf) | (refine ⟨_, c19, ?_⟩; conv => whnf) | (refine ⟨_, c20, ?_⟩; conv => whnf) | (refine ⟨_, aw, ?_⟩; conv => whnf) | (refine ⟨false, bne_eq_false_iff_eq.2 (by omega), ?_⟩; conv => whnf) | (refine ⟨_, rfl, ?_⟩; conv => whnf) | (refine ⟨rfl, ?_⟩; conv => whnf) | (refine ⟨_, fun h => absurd h Bool.false_ne_true, fun _ => rfl, ?_⟩; conv => whnf) | (refine ⟨_, fun _ => rfl, fun h => absurd h.symm Bool.false_ne_true, ?_⟩; conv => whnf))
  rfl
end Go.Proofs.Fl
