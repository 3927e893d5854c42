/-
  The card of NumReads is proved: the law's function returns true at every argument of its shape; no condition.
-/
import Derived.Test.YtdheblnjmnlpfaaGreatDoorB10
import Derived.Deep.Slices
import Derived.ChangeMaps5
namespace Go.Proofs.Fl
open Go.RowKit Go.Proofs.Dig
attribute [local irreducible] IntKind.wrap PureC MutC MakC IterC
theorem zh0 : zh 0 = .agg [.int .i64 0, .sl []] := by
  show IV.agg [.int .i64 0, .sl ((dh 0).map d64)] = _
  rw [dh_zero]; rfl
end Go.Proofs.Fl
namespace Go.Proofs.Fl
theorem wrapU8 {a : Int} (h : 0 ≤ a ∧ a ≤ 255) : Go.IntKind.wrap .u8 a = a := by
  show (let m := a % (256 : Int); if false && decide (m ≥ (128 : Int)) then m - (256 : Int) else m) = a
  simp; omega
open Go.RowKit Go.Proofs.Dig
attribute [local irreducible] IntKind.wrap PureC MutC MakC IterC
theorem lh_dv {s : List UInt8} (h : ∀ c ∈ s, 48 ≤ c.toNat ∧ c.toNat ≤ 57) : lh (dv s) ≤ s.length := lh_le (Nat.lt_of_lt_of_le (dv_lt h) (Nat.pow_le_pow_left (by decide) _))
theorem f142_ok (J : Keep) {s : List UInt8} (h : ∀ c ∈ s, 48 ≤ c.toNat ∧ c.toNat ≤ 57) (hl : s.length < 2 ^ 30) : C J 142 [.str s] (zh (dv s : Nat)) := by
  refine fn_ok Tryz.func142 rfl rfl rfl ?_
  repeat (first | (refine W.RS (by kernel_rfl) ?_; conv => whnf) | (refine W.S ?_) | (refine W.block ?_))
  refine W.loop (G := { i : Nat // i ≤ s.length }) (fun i => mkA [(0, .iv (.str s)), (2, .ptr 0 0), (3, .ptr 1 0), (4, .iv (.int .i64 (i.1 : Nat)))] [(0, .var (.agg [.int .i64 0, .sl []])), (1, .var (zh (dv (s.take i.1) : Nat)))] 20) (fun i => s.length - i.1) ⟨0, Nat.zero_le _⟩
    (Wk.tab [] ⟨⟨rfl, rfl⟩, ⟨rfl, rfl⟩, ⟨rfl, rfl⟩, ⟨rfl, rfl⟩, trivial⟩ ⟨rfl, ?_, trivial⟩ rfl) ?_
  · show some (Bx.var _) = some (Bx.var (zh 0))
    rw [zh0]; rfl
  rintro ⟨i, hi⟩
  show W J _ _ (mkA [(0, .iv (.str s)), (2, .ptr 0 0), (3, .ptr 1 0), (4, .iv (.int .i64 (i : Nat)))] [(0, .var (.agg [.int .i64 0, .sl []])), (1, .var (zh (dv (s.take i) : Nat)))] 20) _
  by_cases h2 : i < s.length
  · have hg : s[i]? = some s[i] := by simp [h2]
    have hc := h s[i] (List.getElem_mem h2)
    have e1 : dv (s.take (i + 1)) = dv (s.take i) * 10 + (s[i].toNat - 48) := by
      rw [List.take_succ_eq_append_getElem h2, dv_snoc]
    have hd := lh_dv (s := s.take i) (fun c hc => h c (List.mem_of_mem_take hc))
    have hdl : (s.take i).length ≤ s.length := by rw [List.length_take]; omega
    have l10 : lh 10 ≤ 1 := lh_le (by decide)
    have l10' := lh_mul (dv (s.take i)) 10
    obtain ⟨c, hce⟩ : ∃ c, s[i] = c := ⟨_, rfl⟩
    rw [hce] at hg hc e1
    obtain ⟨v, hve⟩ : ∃ c, dv (s.take i) = c := ⟨_, rfl⟩
    rw [hve] at e1 hd l10'
    rw [hve]
    have lc : lh (c.toNat - 48) ≤ 1 := lh_le (by rw [Nat.pow_one]; simp only [B15]; omega)
    have c1 := f139_ok J (z := 10) (by omega) (by omega)
    have c2 := f146_ok J (x := (v : Int)) (y := 10) (by rw [Int.natAbs_natCast]; omega) (by show lh 10 < _; omega)
    have hw : IntKind.wrap .u8 ((c.toNat : Int) - 48) = ((c.toNat - 48 : Nat) : Int) := by rw [wrapU8 (by omega)]; omega
    have hw2 : IntKind.wrap .i64 ((c.toNat - 48 : Nat) : Int) = ((c.toNat - 48 : Nat) : Int) := w64 (by omega)
    have c3 := f139_ok J (z := ((c.toNat - 48 : Nat) : Int)) (by omega) (by omega)
    have c4 := f174_ok J (x := (v : Int) * 10) (y := ((c.toNat - 48 : Nat) : Int)) (by rw [show (v : Int) * 10 = ((v * 10 : Nat) : Int) from rfl, Int.natAbs_natCast]; omega) (by rw [Int.natAbs_natCast]; omega)
    repeat (first | (refine W.RS (by kernel_rfl) ?_; conv => whnf) | (refine W.R (by kernel_rfl) ?_; conv => whnf) | (refine W.S ?_) | (refine W.block ?_) | (refine W.skip ?_; conv => whnf) | (refine W.condT rfl ?_) | (refine ⟨_, c1, ?_⟩; conv => whnf) | (refine ⟨_, c2, ?_⟩; conv => whnf) | (refine ⟨i, c, rfl, hg, ?_⟩; conv => whnf) | (refine ⟨rfl, _, hw, ?_⟩; conv => whnf) | (refine ⟨_, hw2, ?_⟩; conv => whnf) | (refine ⟨_, c3, ?_⟩; conv => whnf) | (refine ⟨_, c4, ?_⟩; conv => whnf) | (refine ⟨rfl, _, w64 (by omega), ?_⟩; conv => whnf) | (refine ⟨true, decide_eq_true (by omega), ?_⟩; conv => whnf) | (refine ⟨_, rfl, ?_⟩; conv => whnf) | (refine ⟨rfl, ?_⟩; conv => whnf))
    exact ⟨⟨i + 1, by omega⟩, Wk.tab [] ⟨⟨rfl, rfl⟩, ⟨rfl, rfl⟩, ⟨rfl, rfl⟩, ⟨rfl, rfl⟩, trivial⟩ ⟨rfl, varZ (by dsimp only; rw [e1]; omega), trivial⟩ rfl, by dsimp only; omega⟩
  · have e : i = s.length := by omega
    subst e
    repeat (first | (refine W.RS (by kernel_rfl) ?_; conv => whnf) | (refine W.S ?_) | (refine W.ret ?_; conv => whnf) | (refine W.exit ?_; conv => whnf) | (refine W.condF rfl ?_) | (refine ⟨false, decide_eq_false (by omega), ?_⟩; conv => whnf) | (refine ⟨_, rfl, ?_⟩; conv => whnf) | (refine ⟨rfl, ?_⟩; conv => whnf))
    rw [List.take_length]; rfl
end Go.Proofs.Fl
namespace Go.Proofs.Fl
open Go.RowKit Go.Proofs.Dig
attribute [local irreducible] IntKind.wrap PureC MutC MakC IterC
theorem pre_other {c x : UInt8} {u : List UInt8} (h : c ≠ x) : Lib.hasPrefix (c :: u) [x] = false ∧ Lib.trimPrefix (c :: u) [x] = c :: u := by
  have e : Lib.hasPrefix (c :: u) [x] = false := by
    show ((x == c) && List.isPrefixOf [] u) = false
    rw [beq_eq_false_iff_ne.2 h.symm]; rfl
  exact ⟨e, by unfold Lib.trimPrefix; rw [e]; rfl⟩
theorem f138_ok (J : Keep) (s : List UInt8) : C J 138 [.str s] (.tup [.str (Lib.trimPrefix s [45]), .bool (Lib.hasPrefix s [45])]) := by
  refine fn_ok Tryz.func138 rfl rfl rfl ?_
  cases s with
  | nil =>
    repeat (first | (refine W.RS (by kernel_rfl) ?_; conv => whnf) | (refine W.S ?_) | (refine W.ret ?_; conv => whnf) | (refine W.skip ?_; conv => whnf) | (refine W.condF rfl ?_) | (refine ⟨_, rfl, ?_⟩; conv => whnf) | (refine ⟨_, fun h => absurd h Bool.false_ne_true, fun _ => rfl, ?_⟩; conv => whnf))
    rfl
  | cons c s =>
    by_cases h : c = 45
    · subst h
      rw [pre_at.1, pre_at.2]
      have e : List.drop 1 (List.take (45 :: s).length (45 :: s)) = s := by rw [List.take_length]; rfl
      repeat (first | (refine W.RS (by kernel_rfl) ?_; conv => whnf) | (refine W.S ?_) | (refine W.ret ?_; conv => whnf) | (refine W.condT rfl ?_) | (refine ⟨0, 45, rfl, rfl, ?_⟩; conv => whnf) | (refine ⟨Nat.le_add_left _ _, Nat.le_refl _, ?_⟩; conv => whnf) | (refine ⟨_, castA _, ?_⟩; conv => whnf) | (refine ⟨true, decide_eq_true (by omega), ?_⟩; conv => whnf) | (refine ⟨_, rfl, ?_⟩; conv => whnf) | (refine ⟨rfl, ?_⟩; conv => whnf) | (refine ⟨_, fun _ => rfl, fun h => absurd h.symm Bool.false_ne_true, ?_⟩; conv => whnf))
      show IV.tup [IV.str (List.drop 1 (List.take (45 :: s).length (45 :: s))), IV.bool true] = _
      rw [e]
    · have hct : (c.toNat : Int) ≠ 45 := fun e => h (UInt8.toNat_inj.1 (Int.ofNat.inj e))
      rw [(pre_other h).1, (pre_other h).2]
      repeat (first | (refine W.RS (by kernel_rfl) ?_; conv => whnf) | (refine W.S ?_) | (refine W.ret ?_; conv => whnf) | (refine W.skip ?_; conv => whnf) | (refine W.condF rfl ?_) | (refine ⟨0, c, rfl, rfl, ?_⟩; conv => whnf) | (refine ⟨false, decide_eq_false (by omega), ?_⟩; conv => whnf) | (refine ⟨_, rfl, ?_⟩; conv => whnf) | (refine ⟨rfl, ?_⟩; conv => whnf) | (refine ⟨_, fun _ => rfl, fun h => absurd h.symm Bool.false_ne_true, ?_⟩; conv => whnf))
      rfl
theorem f143_ok (J : Keep) {s : List UInt8} (hs : s.length < 2 ^ 60) : C J 143 [.str s] (.bool (digs s)) := by
  refine fn_ok Tryz.func143 rfl rfl rfl ?_
  repeat (first | (refine W.RS (by kernel_rfl) ?_; conv => whnf) | (refine W.S ?_) | (refine W.block ?_))
  refine W.loop (G := { k : Nat // k ≤ s.length ∧ (s.take k).all digB = true }) (fun k => mkA [(0, .iv (.str s)), (3, .iv (.int .i64 (k.1 : Nat)))] [] 20) (fun k => s.length - k.1) ⟨0, Nat.zero_le _, rfl⟩
    (Wk.tab [] ⟨⟨rfl, rfl⟩, ⟨rfl, rfl⟩, trivial⟩ trivial rfl) ?_
  rintro ⟨k, hk, ha⟩
  show W J _ _ (mkA [(0, .iv (.str s)), (3, .iv (.int .i64 (k : Nat)))] [] 20) _
  by_cases h : k < s.length
  · have hg : s[k]? = some s[k] := by simp [h]
    have ht : s.take (k + 1) = s.take k ++ [s[k]] := List.take_succ_eq_append_getElem h
    have hm : s[k] ∈ s := List.getElem_mem h
    obtain ⟨c, hc⟩ : ∃ c, s[k] = c := ⟨_, rfl⟩
    rw [hc] at hg ht hm
    by_cases h1 : c.toNat < 48
    · have e : digs s = false := by
        rw [Bool.eq_false_iff]; intro hd
        have := all_dig (digs_all hd) c hm
        omega
      rw [e]
      repeat (first | (refine W.RS (by kernel_rfl) ?_; conv => whnf) | (refine W.S ?_) | (refine W.block ?_) | (refine W.ret ?_; conv => whnf) | (refine W.skip ?_; conv => whnf) | (refine W.condT rfl ?_) | (refine ⟨k, c, rfl, hg, ?_⟩; conv => whnf) | (refine ⟨true, decide_eq_true (by omega), ?_⟩; conv => whnf) | (refine ⟨_, rfl, ?_⟩; conv => whnf) | (refine ⟨rfl, ?_⟩; conv => whnf) | (refine ⟨_, fun _ => rfl, fun h => absurd h.symm Bool.false_ne_true, ?_⟩; conv => whnf))
      rfl
    · by_cases h2 : 57 < c.toNat
      · have e : digs s = false := by
          rw [Bool.eq_false_iff]; intro hd
          have := all_dig (digs_all hd) c hm
          omega
        rw [e]
        repeat (first | (refine W.RS (by kernel_rfl) ?_; conv => whnf) | (refine W.S ?_) | (refine W.block ?_) | (refine W.ret ?_; conv => whnf) | (refine W.skip ?_; conv => whnf) | (refine W.condT rfl ?_) | (refine ⟨k, c, rfl, hg, ?_⟩; conv => whnf) | (refine ⟨true, decide_eq_true (by omega), ?_⟩; conv => whnf) | (refine ⟨false, decide_eq_false (by omega), ?_⟩; conv => whnf) | (refine ⟨_, rfl, ?_⟩; conv => whnf) | (refine ⟨rfl, ?_⟩; conv => whnf) | (refine ⟨_, fun h => absurd h Bool.false_ne_true, fun _ => rfl, ?_⟩; conv => whnf))
        rfl
      · have hb : digB c = true := digB_iff.2 ⟨by omega, by omega⟩
        repeat (first | (refine W.RS (by kernel_rfl) ?_; conv => whnf) | (refine W.R (by kernel_rfl) ?_; conv => whnf) | (refine W.S ?_) | (refine W.block ?_) | (refine W.skip ?_; conv => whnf) | (refine W.condF rfl ?_) | (refine W.condT rfl ?_) | (refine ⟨k, c, rfl, hg, ?_⟩; conv => whnf) | (refine ⟨rfl, _, w64 (by omega), ?_⟩; conv => whnf) | (refine ⟨true, decide_eq_true (by omega), ?_⟩; conv => whnf) | (refine ⟨false, decide_eq_false (by omega), ?_⟩; conv => whnf) | (refine ⟨_, rfl, ?_⟩; conv => whnf) | (refine ⟨rfl, ?_⟩; conv => whnf) | (refine ⟨_, fun h => absurd h Bool.false_ne_true, fun _ => rfl, ?_⟩; conv => whnf))
        exact ⟨⟨k + 1, by omega, by rw [ht, List.all_append, ha]; simp [hb]⟩, Wk.tab [] ⟨⟨rfl, rfl⟩, ⟨rfl, rfl⟩, trivial⟩ trivial rfl, by dsimp only; omega⟩
  · have e : k = s.length := by omega
    subst e
    rw [List.take_length] at ha
    unfold digs
    rw [ha, Bool.and_true]
    have e : (!(s == ([] : List UInt8))) = !s.isEmpty := by cases s <;> rfl
    repeat (first | (refine W.RS (by kernel_rfl) ?_; conv => whnf) | (refine W.S ?_) | (refine W.ret ?_; conv => whnf) | (refine W.exit ?_; conv => whnf) | (refine W.condF rfl ?_) | (refine ⟨_, e, ?_⟩; conv => whnf) | (refine ⟨false, decide_eq_false (by omega), ?_⟩; conv => whnf) | (refine ⟨_, rfl, ?_⟩; conv => whnf) | (refine ⟨rfl, ?_⟩; conv => whnf))
    rfl
theorem f141_ok (J : Keep) {s : List UInt8} (hs : s.length < 2 ^ 60) : C J 141 [.str s] (.bool (intS s)) := by
  refine fn_ok Tryz.func141 rfl rfl rfl ?_
  have c1 := f143_ok J hs
  unfold intS
  cases hd : digs s with
  | false =>
    rw [hd] at c1
    repeat (first | (refine W.RS (by kernel_rfl) ?_; conv => whnf) | (refine W.ret ?_; conv => whnf) | (refine ⟨_, c1, ?_⟩; conv => whnf) | (refine ⟨_, fun h => absurd h Bool.false_ne_true, fun _ => rfl, ?_⟩; conv => whnf))
    rfl
  | true =>
    rw [hd] at c1
    rw [Bool.true_and]
    cases s with
    | nil => cases hd
    | cons c s =>
      by_cases h2 : c = 48
      · subst h2
        cases s with
        | nil =>
          repeat (first | (refine W.RS (by kernel_rfl) ?_; conv => whnf) | (refine W.ret ?_; conv => whnf) | (refine ⟨_, c1, ?_⟩; conv => whnf) | (refine ⟨_, rfl, ?_⟩; conv => whnf) | (refine ⟨_, fun _ => rfl, fun h => absurd h.symm Bool.false_ne_true, ?_⟩; conv => whnf))
          rfl
        | cons x s =>
          rw [decide_eq_false (by simp), decide_eq_false (by simp)]
          have e : ((48 :: x :: s : List UInt8) == [48]) = false := by simp
          repeat (first | (refine W.RS (by kernel_rfl) ?_; conv => whnf) | (refine W.ret ?_; conv => whnf) | (refine ⟨_, c1, ?_⟩; conv => whnf) | (refine ⟨_, e, ?_⟩; conv => whnf) | (refine ⟨0, 48, rfl, rfl, ?_⟩; conv => whnf) | (refine ⟨_, castA _, ?_⟩; conv => whnf) | (refine ⟨rfl, ?_⟩; conv => whnf) | (refine ⟨_, fun h => absurd h Bool.false_ne_true, fun _ => rfl, ?_⟩; conv => whnf) | (refine ⟨_, fun _ => rfl, fun h => absurd h.symm Bool.false_ne_true, ?_⟩; conv => whnf))
          rfl
      · have hct : (c.toNat : Int) ≠ 48 := fun e => h2 (UInt8.toNat_inj.1 (Int.ofNat.inj e))
        have e : ((c :: s : List UInt8) == [48]) = false := by
          rw [beq_eq_false_iff_ne]; intro e; injection e with e1 _; exact h2 e1
        have e2 : (decide ((c :: s).length = 1) || decide ((c :: s).head? ≠ some 48)) = true := by
          rw [Bool.or_eq_true]; right; simpa using h2
        rw [e2]
        repeat (first | (refine W.RS (by kernel_rfl) ?_; conv => whnf) | (refine W.ret ?_; conv => whnf) | (refine ⟨_, c1, ?_⟩; conv => whnf) | (refine ⟨_, e, ?_⟩; conv => whnf) | (refine ⟨0, c, rfl, rfl, ?_⟩; conv => whnf) | (refine ⟨true, bne_iff_ne.2 (by omega), ?_⟩; conv => whnf) | (refine ⟨_, rfl, ?_⟩; conv => whnf) | (refine ⟨rfl, ?_⟩; conv => whnf) | (refine ⟨_, fun h => absurd h Bool.false_ne_true, fun _ => rfl, ?_⟩; conv => whnf) | (refine ⟨_, fun _ => rfl, fun h => absurd h.symm Bool.false_ne_true, ?_⟩; conv => whnf))
        rfl
theorem f140_ok (J : Keep) {s : List UInt8} (hs : s.length < 2 ^ 60) (b : UInt8) : C J 140 [.str s, .int .u8 (b.toNat : Int)] (.tup [.str (Lib.cut s [b]).1, .str (Lib.cut s [b]).2.1, .bool (Lib.cut s [b]).2.2]) := by
  refine fn_ok Tryz.func140 rfl rfl rfl ?_
  repeat (first | (refine W.RS (by kernel_rfl) ?_; conv => whnf) | (refine W.S ?_) | (refine W.block ?_))
  refine W.loop (G := { k : Nat // k ≤ s.length ∧ ¬ b ∈ s.take k }) (fun k => mkA [(0, .iv (.str s)), (1, .iv (.int .u8 (b.toNat : Int))), (7, .iv (.int .i64 (k.1 : Nat)))] [] 20) (fun k => s.length - k.1) ⟨0, Nat.zero_le _, by simp⟩
    (Wk.tab [] ⟨⟨rfl, rfl⟩, ⟨rfl, rfl⟩, ⟨rfl, rfl⟩, trivial⟩ trivial rfl) ?_
  rintro ⟨k, hk, ha⟩
  show W J _ _ (mkA [(0, .iv (.str s)), (1, .iv (.int .u8 (b.toNat : Int))), (7, .iv (.int .i64 (k : Nat)))] [] 20) _
  by_cases h : k < s.length
  · have hg : s[k]? = some s[k] := by simp [h]
    have ht : s.take (k + 1) = s.take k ++ [s[k]] := List.take_succ_eq_append_getElem h
    have hsp : s = s.take k ++ s[k] :: s.drop (k + 1) := by rw [List.getElem_cons_drop, List.take_append_drop]
    obtain ⟨c, hc⟩ : ∃ c, s[k] = c := ⟨_, rfl⟩
    rw [hc] at hg ht hsp
    by_cases h1 : c = b
    · subst h1
      have hcut : Lib.cut s [c] = (s.take k, s.drop (k + 1), true) := by
        have := cut_at (x := c) (u := s.take k) (v := s.drop (k + 1)) ha
        rwa [← hsp] at this
      rw [hcut]
      dsimp only
      repeat (first | (refine W.RS (by kernel_rfl) ?_; conv => whnf) | (refine W.S ?_) | (refine W.block ?_) | (refine W.ret ?_; conv => whnf) | (refine W.skip ?_; conv => whnf) | (refine W.condT rfl ?_) | (refine ⟨k, c, rfl, hg, ?_⟩; conv => whnf) | (refine ⟨k, by omega, by omega, by omega, ?_⟩; conv => whnf) | (refine ⟨k + 1, by omega, by omega, by omega, ?_⟩; conv => whnf) | (refine ⟨rfl, _, w64 (by omega), ?_⟩; conv => whnf) | (refine ⟨true, decide_eq_true (by omega), ?_⟩; conv => whnf) | (refine ⟨_, rfl, ?_⟩; conv => whnf) | (refine ⟨rfl, ?_⟩; conv => whnf))
      show IV.tup [IV.str (List.drop 0 (List.take k s)), IV.str (List.drop (k + 1) (List.take s.length s)), IV.bool true] = _
      rw [List.take_length]; rfl
    · have hct : (c.toNat : Int) ≠ (b.toNat : Int) := fun e => h1 (UInt8.toNat_inj.1 (Int.ofNat.inj e))
      repeat (first | (refine W.RS (by kernel_rfl) ?_; conv => whnf) | (refine W.R (by kernel_rfl) ?_; conv => whnf) | (refine W.S ?_) | (refine W.block ?_) | (refine W.skip ?_; conv => whnf) | (refine W.condF rfl ?_) | (refine W.condT rfl ?_) | (refine ⟨k, c, rfl, hg, ?_⟩; conv => whnf) | (refine ⟨rfl, _, w64 (by omega), ?_⟩; conv => whnf) | (refine ⟨true, decide_eq_true (by omega), ?_⟩; conv => whnf) | (refine ⟨false, decide_eq_false (by omega), ?_⟩; conv => whnf) | (refine ⟨_, rfl, ?_⟩; conv => whnf) | (refine ⟨rfl, ?_⟩; conv => whnf))
      exact ⟨⟨k + 1, by omega, by rw [ht, List.mem_append]; rintro (h2 | h2); exact ha h2; exact h1 (List.mem_singleton.1 h2).symm⟩, Wk.tab [] ⟨⟨rfl, rfl⟩, ⟨rfl, rfl⟩, ⟨rfl, rfl⟩, trivial⟩ trivial rfl, by dsimp only; omega⟩
  · have e : k = s.length := by omega
    subst e
    rw [List.take_length] at ha
    rw [cut_none ha]
    dsimp only
    repeat (first | (refine W.RS (by kernel_rfl) ?_; conv => whnf) | (refine W.S ?_) | (refine W.ret ?_; conv => whnf) | (refine W.exit ?_; conv => whnf) | (refine W.condF rfl ?_) | (refine ⟨false, decide_eq_false (by omega), ?_⟩; conv => whnf) | (refine ⟨_, rfl, ?_⟩; conv => whnf) | (refine ⟨rfl, ?_⟩; conv => whnf))
    rfl
end Go.Proofs.Fl
namespace Go.Proofs.Fl
open Go.RowKit Go.Proofs.Dig
attribute [local irreducible] IntKind.wrap PureC MutC MakC IterC
theorem hvt (v : Bool) : (v == v) = true := by cases v <;> rfl
end Go.Proofs.Fl
namespace Go.Proofs.Fl
open Go.RowKit Go.Proofs.Dig
attribute [local irreducible] IntKind.wrap PureC MutC MakC IterC
def Hold (p : Prop) : Prop := p
theorem W.joinH {J : Keep} {nt : Nat} {σ : AS} {K : Exit → AS → Prop} {G : Type} (inv : G → AS) {x y : Code} (h1 : Hold (W J nt x σ (joinK inv K))) (h2 : ∀ g, W J nt y (inv g) K) : W J nt (.seq x y) σ K := W.join inv (by unfold Hold at h1; exact h1) h2
attribute [irreducible] Hold
end Go.Proofs.Fl
namespace Go.Proofs.Fl
open Go.RowKit Go.Proofs.Dig
attribute [local irreducible] IntKind.wrap PureC MutC MakC IterC
noncomputable def refP (p : Rat × Int) : IV := .tup [rx (if p.2 = 0 then some p.1 else none), .int .i64 (if p.2 = 0 then 0 else if p.2 = 4 then 1 else if p.2 = 5 then 2 else 3)]
theorem refP_0 (q : Rat) : refP (q, 0) = .tup [rr q, .int .i64 0] := rfl
theorem refP_4 : refP (0, 4) = .tup [.agg [.int .i64 0, .sl [], .int .i64 0, .sl []], .int .i64 1] := by show IV.tup [rx none, _] = _; rw [rx_none]; rfl
theorem refP_5 : refP (0, 5) = .tup [.agg [.int .i64 0, .sl [], .int .i64 0, .sl []], .int .i64 2] := by show IV.tup [rx none, _] = _; rw [rx_none]; rfl
theorem refP_9 : refP (0, 9) = .tup [.agg [.int .i64 0, .sl [], .int .i64 0, .sl []], .int .i64 3] := by show IV.tup [rx none, _] = _; rw [rx_none]; rfl
theorem svN (m : Bool) (n : Nat) : (sv m n).natAbs = n := by unfold sv; split <;> omega
theorem f21_slash (J : Keep) {s t a b : List UInt8} {m : Bool} (c1 : C J 138 [.str s] (.tup [.str t, .bool m])) (c2 : C J 140 [.str t, .int .u8 47] (.tup [.str a, .str b, .bool true])) (la : a.length ≤ 1000) (lb : b.length ≤ 1000) :
    C J 21 [.str s] (refP (if (!intS a || !intS b) then (0, 4) else if b = [48] then (0, 9) else (mkRat (sv m (dv a)) (dv b), 0))) := by
  refine fn_ok Tryz.func21 rfl rfl rfl ?_
  have k1 := f139_ok J (z := 1) (by omega) (by omega)
  have c3 := f141_ok J (s := a) (by omega)
  have c4 := f141_ok J (s := b) (by omega)
  cases hA : intS a with
  | false =>
    rw [hA] at c3
    rw [if_pos (by simp), refP_4]
    repeat (first | (refine W.RS (by kernel_rfl) ?_; conv => whnf) | (refine W.S ?_) | (refine W.ret ?_; conv => whnf) | (refine W.condT rfl ?_) | (refine ⟨_, c1, ?_⟩; conv => whnf) | (refine ⟨_, c2, ?_⟩; conv => whnf) | (refine ⟨_, c3, ?_⟩; conv => whnf) | (refine ⟨_, k1, ?_⟩; conv => whnf) | (refine ⟨_, rfl, ?_⟩; conv => whnf) | (refine ⟨_, fun _ => rfl, fun h => absurd h.symm Bool.false_ne_true, ?_⟩; conv => whnf))
    rfl
  | true =>
    rw [hA] at c3
    cases hB : intS b with
    | false =>
      rw [hB] at c4
      rw [if_pos (by simp), refP_4]
      repeat (first | (refine W.RS (by kernel_rfl) ?_; conv => whnf) | (refine W.S ?_) | (refine W.ret ?_; conv => whnf) | (refine W.condT rfl ?_) | (refine ⟨_, c1, ?_⟩; conv => whnf) | (refine ⟨_, c2, ?_⟩; conv => whnf) | (refine ⟨_, c3, ?_⟩; conv => whnf) | (refine ⟨_, c4, ?_⟩; conv => whnf) | (refine ⟨_, k1, ?_⟩; conv => whnf) | (refine ⟨_, rfl, ?_⟩; conv => whnf) | (refine ⟨_, fun h => absurd h Bool.false_ne_true, fun _ => rfl, ?_⟩; conv => whnf))
      rfl
    | true =>
      rw [hB] at c4
      rw [if_neg (by simp)]
      have da := all_dig (intS_all hA)
      have db := all_dig (intS_all hB)
      have c5 := f142_ok J (s := a) da (by omega)
      have c6 := f142_ok J (s := b) db (by omega)
      have la' := lh_dv da
      have lb' := lh_dv db
      by_cases h0 : b = [48]
      · rw [if_pos h0, refP_9]
        have hd0 : dv b = 0 := by rw [h0]; rfl
        rw [hd0] at c6
        have hz : (((0 : Nat) : Int).sign == 0) = true := by decide
        clear hA hB da db la' lb' hd0 h0
        repeat (first | (refine W.RS (by kernel_rfl) ?_; conv => whnf) | (refine W.S ?_) | (refine W.ret ?_; conv => whnf) | (refine W.skip ?_; conv => whnf) | (refine W.condF rfl ?_) | (refine W.condT rfl ?_) | (refine ⟨_, c1, ?_⟩; conv => whnf) | (refine ⟨_, c2, ?_⟩; conv => whnf) | (refine ⟨_, c3, ?_⟩; conv => whnf) | (refine ⟨_, c4, ?_⟩; conv => whnf) | (refine ⟨_, c5, ?_⟩; conv => whnf) | (refine ⟨_, c6, ?_⟩; conv => whnf) | (refine ⟨_, k1, ?_⟩; conv => whnf) | (refine ⟨_, hz, ?_⟩; conv => whnf) | (refine ⟨_, rfl, ?_⟩; conv => whnf) | (refine ⟨rfl, ?_⟩; conv => whnf) | (refine ⟨_, fun h => absurd h Bool.false_ne_true, fun _ => rfl, ?_⟩; conv => whnf))
        rfl
      · rw [if_neg h0, refP_0]
        have hp := intS_pos hB h0
        obtain ⟨A, hAe⟩ : ∃ n, dv a = n := ⟨_, rfl⟩
        obtain ⟨D, hDe⟩ : ∃ n, dv b = n := ⟨_, rfl⟩
        rw [hAe] at c5 la' ⊢
        rw [hDe] at c6 lb' hp ⊢
        have hz : ((D : Int).sign == 0) = false := by
          rw [beq_eq_false_iff_ne]; intro e; rw [Int.sign_eq_zero_iff_zero] at e; omega
        have c7 := f147_ok J (A : Int)
        have c8 := f148_at J (z := sv m A) (d := D) hp (by rw [svN]; omega) (by omega) (.inl ⟨rfl, rfl⟩)
        clear hA hB da db la' lb' h0 hAe hDe
        cases m with
        | true =>
          change C J 148 [zh (-(A : Int)), _] (rr (mkRat (-(A : Int)) D)) at c8
          repeat (first | (refine W.wkRS (id := 28) (σ' := mkA [(2, .ptr 0 0), (4, .iv (.bool true)), (5, .ptr 1 0), (6, .ptr 2 0)] [(0, .var (.agg [.int .i64 0, .sl [], .int .i64 0, .sl []])), (1, .var (zh (A : Int))), (2, .var (zh (D : Int)))] 60) (Wk.tab [(1, 11), (2, 12)] ⟨⟨rfl, rfl⟩, ⟨rfl, rfl⟩, ⟨rfl, rfl⟩, ⟨rfl, rfl⟩, trivial⟩ ⟨rfl, rfl, rfl, trivial⟩ rfl) (by kernel_rfl) ?_; conv => whnf) | (refine W.RS (by kernel_rfl) ?_; conv => whnf) | (refine W.R (by kernel_rfl) ?_; conv => whnf) | (refine W.S ?_) | (refine W.ret ?_; conv => whnf) | (refine W.skip ?_; conv => whnf) | (refine W.condF rfl ?_) | (refine W.condT rfl ?_) | (refine ⟨_, c1, ?_⟩; conv => whnf) | (refine ⟨_, c2, ?_⟩; conv => whnf) | (refine ⟨_, c3, ?_⟩; conv => whnf) | (refine ⟨_, c4, ?_⟩; conv => whnf) | (refine ⟨_, c5, ?_⟩; conv => whnf) | (refine ⟨_, c6, ?_⟩; conv => whnf) | (refine ⟨_, c7, ?_⟩; conv => whnf) | (refine ⟨_, c8, ?_⟩; conv => whnf) | (refine ⟨_, k1, ?_⟩; conv => whnf) | (refine ⟨_, hz, ?_⟩; conv => whnf) | (refine ⟨_, rfl, ?_⟩; conv => whnf) | (refine ⟨rfl, ?_⟩; conv => whnf) | (refine ⟨_, fun h => absurd h Bool.false_ne_true, fun _ => rfl, ?_⟩; conv => whnf))
          rfl
        | false =>
          change C J 148 [zh (A : Int), _] (rr (mkRat (A : Int) D)) at c8
          repeat (first | (refine W.wkRS (id := 28) (σ' := mkA [(2, .ptr 0 0), (4, .iv (.bool false)), (5, .ptr 1 0), (6, .ptr 2 0)] [(0, .var (.agg [.int .i64 0, .sl [], .int .i64 0, .sl []])), (1, .var (zh (A : Int))), (2, .var (zh (D : Int)))] 60) (Wk.tab [(1, 11), (2, 12)] ⟨⟨rfl, rfl⟩, ⟨rfl, rfl⟩, ⟨rfl, rfl⟩, ⟨rfl, rfl⟩, trivial⟩ ⟨rfl, rfl, rfl, trivial⟩ rfl) (by kernel_rfl) ?_; conv => whnf) | (refine W.RS (by kernel_rfl) ?_; conv => whnf) | (refine W.S ?_) | (refine W.ret ?_; conv => whnf) | (refine W.skip ?_; conv => whnf) | (refine W.condF rfl ?_) | (refine W.condT rfl ?_) | (refine ⟨_, c1, ?_⟩; conv => whnf) | (refine ⟨_, c2, ?_⟩; conv => whnf) | (refine ⟨_, c3, ?_⟩; conv => whnf) | (refine ⟨_, c4, ?_⟩; conv => whnf) | (refine ⟨_, c5, ?_⟩; conv => whnf) | (refine ⟨_, c6, ?_⟩; conv => whnf) | (refine ⟨_, c8, ?_⟩; conv => whnf) | (refine ⟨_, k1, ?_⟩; conv => whnf) | (refine ⟨_, hz, ?_⟩; conv => whnf) | (refine ⟨_, rfl, ?_⟩; conv => whnf) | (refine ⟨rfl, ?_⟩; conv => whnf) | (refine ⟨_, fun h => absurd h Bool.false_ne_true, fun _ => rfl, ?_⟩; conv => whnf))
          rfl
theorem intS_big {s : List UInt8} (h : intS s = true) (hl : 4 < s.length) : 1000 < dv s := by
  have hd := all_dig (intS_all h)
  cases s with
  | nil => simp at hl
  | cons c s =>
    have hl2 : 4 ≤ s.length := by simpa using Nat.lt_succ_iff.1 hl
    rw [dv_cons]
    have hc := hd c (by simp)
    have h48 : c.toNat ≠ 48 := fun e => by
      have ec : c = 48 := UInt8.toNat_inj.1 e
      subst ec
      simp only [intS, Bool.and_eq_true, Bool.or_eq_true, decide_eq_true_eq] at h
      rcases h.2 with h1 | h1
      · simp at h1; simp [h1] at hl
      · simp at h1
    have h1 : 10 ^ 4 ≤ 10 ^ s.length := Nat.pow_le_pow_right (by decide) hl2
    have h2 : 1 * 10 ^ s.length ≤ (c.toNat - 48) * 10 ^ s.length := Nat.mul_le_mul_right _ (by omega)
    omega
theorem pow10 (n r : Nat) : ((n * 10 ^ r : Nat) : Int) * 10 = ((n * 10 ^ (r + 1) : Nat) : Int) := by
  rw [Nat.pow_succ, ← Nat.mul_assoc, Int.natCast_mul (n * 10 ^ r)]; rfl
theorem pow10' (r : Nat) : ((10 ^ r : Nat) : Int) * 10 = ((10 ^ (r + 1) : Nat) : Int) := by
  have h := pow10 1 r
  rwa [Nat.one_mul, Nat.one_mul] at h
theorem slE {x y : Int} (h : x = y) : SV.iv (.int .i64 x) = SV.iv (.int .i64 y) := by rw [h]
theorem lh_ten {n r : Nat} (hn : lh n ≤ 2000) (hr : r ≤ 2000) : lh (n * 10 ^ r) ≤ 4010 := by
  have h1 := lh_mul n (10 ^ r)
  have h2 := lh_pow 10 r
  have h3 : lh 10 ≤ 1 := lh_le (by decide)
  have h4 := Nat.mul_le_mul hr h3
  omega
set_option maxHeartbeats 16000000 in
theorem f21_dec (J : Keep) {s t d1 d2 fa fr ex a' b' : List UInt8} {m d3 f3 dn : Bool} (c1 : C J 138 [.str s] (.tup [.str t, .bool m])) (c2 : C J 140 [.str t, .int .u8 47] (.tup [.str a', .str b', .bool false]))
    (c5 : C J 140 [.str t, .int .u8 101] (.tup [.str d1, .str d2, .bool d3])) (c6 : C J 140 [.str d1, .int .u8 46] (.tup [.str fa, .str fr, .bool f3])) (c7 : C J 138 [.str d2] (.tup [.str ex, .bool dn]))
    (la : fa.length ≤ 1000) (lf : fr.length ≤ 1000) (le : ex.length ≤ 1000) (k3 : d3 = false → ex = []) (k4 : f3 = false → fr = []) :
    C J 21 [.str s] (refP (if (!intS fa || ((f3 && !digs fr) || (d3 && !intS ex))) then (0, 4) else if dv ex > 1000 then (0, 5) else
      (mkRat (sv m (dv (fa ++ fr) * 10 ^ ((if dn then -(dv ex : Int) else (dv ex : Int)) - fr.length).toNat)) (10 ^ (-((if dn then -(dv ex : Int) else (dv ex : Int)) - fr.length)).toNat), 0))) := by
  refine fn_ok Tryz.func21 rfl rfl rfl ?_
  have k1 := f139_ok J (z := 1) (by omega) (by omega)
  have c8 := f141_ok J (s := fa) (by omega)
  have c9 := f143_ok J (s := fr) (by omega)
  have c10 := f141_ok J (s := ex) (by omega)
  cases hA : intS fa with
  | false =>
    rw [hA] at c8
    rw [if_pos (by simp), refP_4]
    repeat (first | (refine W.wkRS (id := 13) (σ' := mkA [(2, .ptr 0 0), (4, .iv (.bool m)), (5, .ptr 1 0), (6, .ptr 2 0), (11, .iv (.str ex)), (12, .iv (.bool d3)), (13, .iv (.str fa)), (14, .iv (.str fr)), (15, .iv (.bool f3)), (16, .iv (.bool dn))] [(0, .var (.agg [.int .i64 0, .sl [], .int .i64 0, .sl []])), (1, .var (.agg [.int .i64 0, .sl []])), (2, .var (zh 1))] 60) (Wk.tab [(1, 11), (2, 12)] ⟨⟨rfl, rfl⟩, ⟨rfl, rfl⟩, ⟨rfl, rfl⟩, ⟨rfl, rfl⟩, ⟨rfl, rfl⟩, ⟨rfl, rfl⟩, ⟨rfl, rfl⟩, ⟨rfl, rfl⟩, ⟨rfl, rfl⟩, ⟨rfl, rfl⟩, trivial⟩ ⟨rfl, rfl, rfl, trivial⟩ rfl) (by kernel_rfl) ?_; conv => whnf) | (refine W.RS (by kernel_rfl) ?_; conv => whnf) | (refine W.S ?_) | (refine W.ret ?_; conv => whnf) | (refine W.condF rfl ?_) | (refine W.condT rfl ?_) | (refine ⟨_, c1, ?_⟩; conv => whnf) | (refine ⟨_, c2, ?_⟩; conv => whnf) | (refine ⟨_, c5, ?_⟩; conv => whnf) | (refine ⟨_, c6, ?_⟩; conv => whnf) | (refine ⟨_, c7, ?_⟩; conv => whnf) | (refine ⟨_, c8, ?_⟩; conv => whnf) | (refine ⟨_, k1, ?_⟩; conv => whnf) | (refine ⟨_, rfl, ?_⟩; conv => whnf) | (refine ⟨_, fun _ => rfl, fun h => absurd h.symm Bool.false_ne_true, ?_⟩; conv => whnf))
    rfl
  | true =>
    rw [hA] at c8
    cases hF : (f3 && !digs fr) with
    | true =>
      rw [if_pos (by simp)]
      rw [Bool.and_eq_true, Bool.not_eq_true'] at hF
      rw [hF.2] at c9
      obtain ⟨rfl, _⟩ := hF
      rw [refP_4]
      repeat (first | (refine W.wkRS (id := 13) (σ' := mkA [(2, .ptr 0 0), (4, .iv (.bool m)), (5, .ptr 1 0), (6, .ptr 2 0), (11, .iv (.str ex)), (12, .iv (.bool d3)), (13, .iv (.str fa)), (14, .iv (.str fr)), (15, .iv (.bool true)), (16, .iv (.bool dn))] [(0, .var (.agg [.int .i64 0, .sl [], .int .i64 0, .sl []])), (1, .var (.agg [.int .i64 0, .sl []])), (2, .var (zh 1))] 60) (Wk.tab [(1, 11), (2, 12)] ⟨⟨rfl, rfl⟩, ⟨rfl, rfl⟩, ⟨rfl, rfl⟩, ⟨rfl, rfl⟩, ⟨rfl, rfl⟩, ⟨rfl, rfl⟩, ⟨rfl, rfl⟩, ⟨rfl, rfl⟩, ⟨rfl, rfl⟩, ⟨rfl, rfl⟩, trivial⟩ ⟨rfl, rfl, rfl, trivial⟩ rfl) (by kernel_rfl) ?_; conv => whnf) | (refine W.RS (by kernel_rfl) ?_; conv => whnf) | (refine W.S ?_) | (refine W.ret ?_; conv => whnf) | (refine W.condF rfl ?_) | (refine W.condT rfl ?_) | (refine ⟨_, c1, ?_⟩; conv => whnf) | (refine ⟨_, c2, ?_⟩; conv => whnf) | (refine ⟨_, c5, ?_⟩; conv => whnf) | (refine ⟨_, c6, ?_⟩; conv => whnf) | (refine ⟨_, c7, ?_⟩; conv => whnf) | (refine ⟨_, c8, ?_⟩; conv => whnf) | (refine ⟨_, c9, ?_⟩; conv => whnf) | (refine ⟨_, k1, ?_⟩; conv => whnf) | (refine ⟨_, rfl, ?_⟩; conv => whnf) | (refine ⟨_, fun h => absurd h Bool.false_ne_true, fun _ => rfl, ?_⟩; conv => whnf) | (refine ⟨_, fun _ => rfl, fun h => absurd h.symm Bool.false_ne_true, ?_⟩; conv => whnf))
      rfl
    | false =>
      have hfr : fr.all digB = true := by
        cases f3 with
        | false => rw [k4 rfl]; rfl
        | true => exact digs_all (by simpa using hF)
      have hF9 : f3 = true → digs fr = true := fun h => by subst h; simpa using hF
      cases hE : (d3 && !intS ex) with
      | true =>
        rw [if_pos (by simp)]
        rw [Bool.and_eq_true, Bool.not_eq_true'] at hE
        rw [hE.2] at c10
        obtain ⟨rfl, _⟩ := hE
        rw [refP_4]
        cases f3 with
        | true =>
          rw [hF9 rfl] at c9
          repeat (first | (refine W.wkRS (id := 13) (σ' := mkA [(2, .ptr 0 0), (4, .iv (.bool m)), (5, .ptr 1 0), (6, .ptr 2 0), (11, .iv (.str ex)), (12, .iv (.bool true)), (13, .iv (.str fa)), (14, .iv (.str fr)), (15, .iv (.bool true)), (16, .iv (.bool dn))] [(0, .var (.agg [.int .i64 0, .sl [], .int .i64 0, .sl []])), (1, .var (.agg [.int .i64 0, .sl []])), (2, .var (zh 1))] 60) (Wk.tab [(1, 11), (2, 12)] ⟨⟨rfl, rfl⟩, ⟨rfl, rfl⟩, ⟨rfl, rfl⟩, ⟨rfl, rfl⟩, ⟨rfl, rfl⟩, ⟨rfl, rfl⟩, ⟨rfl, rfl⟩, ⟨rfl, rfl⟩, ⟨rfl, rfl⟩, ⟨rfl, rfl⟩, trivial⟩ ⟨rfl, rfl, rfl, trivial⟩ rfl) (by kernel_rfl) ?_; conv => whnf) | (refine W.RS (by kernel_rfl) ?_; conv => whnf) | (refine W.S ?_) | (refine W.ret ?_; conv => whnf) | (refine W.condF rfl ?_) | (refine W.condT rfl ?_) | (refine ⟨_, c1, ?_⟩; conv => whnf) | (refine ⟨_, c2, ?_⟩; conv => whnf) | (refine ⟨_, c5, ?_⟩; conv => whnf) | (refine ⟨_, c6, ?_⟩; conv => whnf) | (refine ⟨_, c7, ?_⟩; conv => whnf) | (refine ⟨_, c8, ?_⟩; conv => whnf) | (refine ⟨_, c9, ?_⟩; conv => whnf) | (refine ⟨_, c10, ?_⟩; conv => whnf) | (refine ⟨_, k1, ?_⟩; conv => whnf) | (refine ⟨_, rfl, ?_⟩; conv => whnf) | (refine ⟨_, fun h => absurd h Bool.false_ne_true, fun _ => rfl, ?_⟩; conv => whnf) | (refine ⟨_, fun _ => rfl, fun h => absurd h.symm Bool.false_ne_true, ?_⟩; conv => whnf))
          rfl
        | false =>
          repeat (first | (refine W.wkRS (id := 13) (σ' := mkA [(2, .ptr 0 0), (4, .iv (.bool m)), (5, .ptr 1 0), (6, .ptr 2 0), (11, .iv (.str ex)), (12, .iv (.bool true)), (13, .iv (.str fa)), (14, .iv (.str fr)), (15, .iv (.bool false)), (16, .iv (.bool dn))] [(0, .var (.agg [.int .i64 0, .sl [], .int .i64 0, .sl []])), (1, .var (.agg [.int .i64 0, .sl []])), (2, .var (zh 1))] 60) (Wk.tab [(1, 11), (2, 12)] ⟨⟨rfl, rfl⟩, ⟨rfl, rfl⟩, ⟨rfl, rfl⟩, ⟨rfl, rfl⟩, ⟨rfl, rfl⟩, ⟨rfl, rfl⟩, ⟨rfl, rfl⟩, ⟨rfl, rfl⟩, ⟨rfl, rfl⟩, ⟨rfl, rfl⟩, trivial⟩ ⟨rfl, rfl, rfl, trivial⟩ rfl) (by kernel_rfl) ?_; conv => whnf) | (refine W.RS (by kernel_rfl) ?_; conv => whnf) | (refine W.S ?_) | (refine W.ret ?_; conv => whnf) | (refine W.condF rfl ?_) | (refine W.condT rfl ?_) | (refine ⟨_, c1, ?_⟩; conv => whnf) | (refine ⟨_, c2, ?_⟩; conv => whnf) | (refine ⟨_, c5, ?_⟩; conv => whnf) | (refine ⟨_, c6, ?_⟩; conv => whnf) | (refine ⟨_, c7, ?_⟩; conv => whnf) | (refine ⟨_, c8, ?_⟩; conv => whnf) | (refine ⟨_, c10, ?_⟩; conv => whnf) | (refine ⟨_, k1, ?_⟩; conv => whnf) | (refine ⟨true, beq_iff_eq.2 (by omega), ?_⟩; conv => whnf) | (refine ⟨_, rfl, ?_⟩; conv => whnf) | (refine ⟨_, fun h => absurd h Bool.false_ne_true, fun _ => rfl, ?_⟩; conv => whnf) | (refine ⟨_, fun _ => rfl, fun h => absurd h.symm Bool.false_ne_true, ?_⟩; conv => whnf))
          rfl
      | false =>
        rw [if_neg (by simp)]
        have hE10 : d3 = true → intS ex = true := fun h => by subst h; simpa using hE
        have hex : ex.all digB = true := by
          cases d3 with
          | false => rw [k3 rfl]; rfl
          | true => exact intS_all (hE10 rfl)
        have hbig : 4 < ex.length → 1000 < dv ex := fun h => by
          cases d3 with
          | false => rw [k3 rfl] at h; simp at h
          | true => exact intS_big (hE10 rfl) h
        have c11 := f142_ok J (s := ex) (all_dig hex) (by omega)
        have c12 := f139_ok J (z := 1000) (by omega) (by omega)
        have l11 := lh_dv (all_dig hex)
        have l12 : lh (1000 : Int).natAbs ≤ 1 := lh_le (by decide)
        have c13 := f144_ok J (x := ((dv ex : Nat) : Int)) (y := 1000) (by rw [Int.natAbs_natCast]; omega) (by omega)
        have hsg : 0 < (((dv ex : Nat) : Int) - 1000).sign ↔ 1000 < dv ex := by rw [Int.sign_pos_iff]; omega
        obtain ⟨E, hEe⟩ : ∃ n, dv ex = n := ⟨_, rfl⟩
        rw [hEe] at c11 c13 hsg hbig ⊢
        obtain ⟨v, hv⟩ : ∃ v, ((E : Int) - 1000).sign = v := ⟨_, rfl⟩
        rw [hv] at c13 hsg
        have hcat : (fa ++ fr).length ≤ 2000 := by rw [List.length_append]; omega
        have hcat2 : fa.length + fr.length ≤ 9223372036854775807 := by omega
        have hall : (fa ++ fr).all digB = true := by rw [List.all_append, hfr, intS_all hA]; rfl
        have c14 := f142_ok J (s := fa ++ fr) (all_dig hall) (by omega)
        have l14 := lh_dv (all_dig hall)
        obtain ⟨N0, hN0⟩ : ∃ n, dv (fa ++ fr) = n := ⟨_, rfl⟩
        rw [hN0] at c14 l14 ⊢
        have k10 := f139_ok J (z := 10) (by omega) (by omega)
        have l10 : lh (10 : Int).natAbs ≤ 1 := lh_le (by decide)
        by_cases hb : E > 1000
        · rw [if_pos hb, refP_5]
          have hs := hsg.2 hb
          clear hsg hv hA hF hE hex hall hN0 hEe k3 k4 hfr hbig l11 l12 l14 hcat hcat2 c14
          repeat (first | (refine W.joinH (x := .seq (.region 13 _ _) _) (G := Unit) (fun _ => mkA [(2, .ptr 0 0), (4, .iv (.bool m)), (5, .ptr 1 0), (6, .ptr 2 0), (11, .iv (.str ex)), (13, .iv (.str fa)), (14, .iv (.str fr)), (16, .iv (.bool dn))] [(0, .var (.agg [.int .i64 0, .sl [], .int .i64 0, .sl []])), (1, .var (.agg [.int .i64 0, .sl []])), (2, .var (zh 1))] 100) ?_ (fun _ => ?_)) | (refine W.RS (by kernel_rfl) ?_; conv => whnf) | (refine W.S ?_) | (refine W.condF rfl ?_) | (refine ⟨_, c1, ?_⟩; conv => whnf) | (refine ⟨_, c2, ?_⟩; conv => whnf) | (refine ⟨_, c5, ?_⟩; conv => whnf) | (refine ⟨_, c6, ?_⟩; conv => whnf) | (refine ⟨_, c7, ?_⟩; conv => whnf) | (refine ⟨_, k1, ?_⟩; conv => whnf))
          · unfold Hold
            refine W.weak (σ' := mkA [(2, .ptr 0 0), (4, .iv (.bool m)), (5, .ptr 1 0), (6, .ptr 2 0), (11, .iv (.str ex)), (12, .iv (.bool d3)), (13, .iv (.str fa)), (14, .iv (.str fr)), (15, .iv (.bool f3)), (16, .iv (.bool dn))] [(0, .var (.agg [.int .i64 0, .sl [], .int .i64 0, .sl []])), (1, .var (.agg [.int .i64 0, .sl []])), (2, .var (zh 1))] 60) (Wk.tab [(1, 11), (2, 12)] ⟨⟨rfl, rfl⟩, ⟨rfl, rfl⟩, ⟨rfl, rfl⟩, ⟨rfl, rfl⟩, ⟨rfl, rfl⟩, ⟨rfl, rfl⟩, ⟨rfl, rfl⟩, ⟨rfl, rfl⟩, ⟨rfl, rfl⟩, ⟨rfl, rfl⟩, trivial⟩ ⟨rfl, rfl, rfl, trivial⟩ rfl) ?_
            cases f3 with
            | true =>
              rw [hF9 rfl] at c9
              cases d3 with
              | true =>
                rw [hE10 rfl] at c10
                repeat (first | (refine W.RS (by kernel_rfl) ?_; conv => whnf) | (refine W.skip ?_; conv => whnf) | (refine W.condF rfl ?_) | (refine ⟨_, c8, ?_⟩; conv => whnf) | (refine ⟨_, c9, ?_⟩; conv => whnf) | (refine ⟨_, c10, ?_⟩; conv => whnf) | (refine ⟨_, rfl, ?_⟩; conv => whnf) | (refine ⟨_, fun h => absurd h Bool.false_ne_true, fun _ => rfl, ?_⟩; conv => whnf) | (refine ⟨_, fun _ => rfl, fun h => absurd h.symm Bool.false_ne_true, ?_⟩; conv => whnf))
                exact ⟨(), Wk.tab [] ⟨⟨rfl, rfl⟩, ⟨rfl, rfl⟩, ⟨rfl, rfl⟩, ⟨rfl, rfl⟩, ⟨rfl, rfl⟩, ⟨rfl, rfl⟩, ⟨rfl, rfl⟩, ⟨rfl, rfl⟩, trivial⟩ ⟨rfl, rfl, rfl, trivial⟩ rfl⟩
              | false =>
                repeat (first | (refine W.RS (by kernel_rfl) ?_; conv => whnf) | (refine W.skip ?_; conv => whnf) | (refine W.condF rfl ?_) | (refine ⟨_, c8, ?_⟩; conv => whnf) | (refine ⟨_, c9, ?_⟩; conv => whnf) | (refine ⟨_, rfl, ?_⟩; conv => whnf) | (refine ⟨_, fun h => absurd h Bool.false_ne_true, fun _ => rfl, ?_⟩; conv => whnf) | (refine ⟨_, fun _ => rfl, fun h => absurd h.symm Bool.false_ne_true, ?_⟩; conv => whnf))
                exact ⟨(), Wk.tab [] ⟨⟨rfl, rfl⟩, ⟨rfl, rfl⟩, ⟨rfl, rfl⟩, ⟨rfl, rfl⟩, ⟨rfl, rfl⟩, ⟨rfl, rfl⟩, ⟨rfl, rfl⟩, ⟨rfl, rfl⟩, trivial⟩ ⟨rfl, rfl, rfl, trivial⟩ rfl⟩
            | false =>
              cases d3 with
              | true =>
                rw [hE10 rfl] at c10
                repeat (first | (refine W.RS (by kernel_rfl) ?_; conv => whnf) | (refine W.skip ?_; conv => whnf) | (refine W.condF rfl ?_) | (refine ⟨_, c8, ?_⟩; conv => whnf) | (refine ⟨_, c10, ?_⟩; conv => whnf) | (refine ⟨_, rfl, ?_⟩; conv => whnf) | (refine ⟨_, fun h => absurd h Bool.false_ne_true, fun _ => rfl, ?_⟩; conv => whnf) | (refine ⟨_, fun _ => rfl, fun h => absurd h.symm Bool.false_ne_true, ?_⟩; conv => whnf))
                exact ⟨(), Wk.tab [] ⟨⟨rfl, rfl⟩, ⟨rfl, rfl⟩, ⟨rfl, rfl⟩, ⟨rfl, rfl⟩, ⟨rfl, rfl⟩, ⟨rfl, rfl⟩, ⟨rfl, rfl⟩, ⟨rfl, rfl⟩, trivial⟩ ⟨rfl, rfl, rfl, trivial⟩ rfl⟩
              | false =>
                repeat (first | (refine W.RS (by kernel_rfl) ?_; conv => whnf) | (refine W.skip ?_; conv => whnf) | (refine W.condF rfl ?_) | (refine ⟨_, c8, ?_⟩; conv => whnf) | (refine ⟨_, rfl, ?_⟩; conv => whnf) | (refine ⟨_, fun h => absurd h Bool.false_ne_true, fun _ => rfl, ?_⟩; conv => whnf))
                exact ⟨(), Wk.tab [] ⟨⟨rfl, rfl⟩, ⟨rfl, rfl⟩, ⟨rfl, rfl⟩, ⟨rfl, rfl⟩, ⟨rfl, rfl⟩, ⟨rfl, rfl⟩, ⟨rfl, rfl⟩, ⟨rfl, rfl⟩, trivial⟩ ⟨rfl, rfl, rfl, trivial⟩ rfl⟩
          · show W J _ _ (mkA [(2, .ptr 0 0), (4, .iv (.bool m)), (5, .ptr 1 0), (6, .ptr 2 0), (11, .iv (.str ex)), (13, .iv (.str fa)), (14, .iv (.str fr)), (16, .iv (.bool dn))] [(0, .var (.agg [.int .i64 0, .sl [], .int .i64 0, .sl []])), (1, .var (.agg [.int .i64 0, .sl []])), (2, .var (zh 1))] 100) _
            by_cases h4 : ex.length > 4
            · repeat (first | (refine W.RS (by kernel_rfl) ?_; conv => whnf) | (refine W.S ?_) | (refine W.ret ?_; conv => whnf) | (refine W.condT rfl ?_) | (refine ⟨true, decide_eq_true (by omega), ?_⟩; conv => whnf) | (refine ⟨_, rfl, ?_⟩; conv => whnf) | (refine ⟨rfl, ?_⟩; conv => whnf) | (refine ⟨_, fun _ => rfl, fun h => absurd h.symm Bool.false_ne_true, ?_⟩; conv => whnf))
              rfl
            · repeat (first | (refine W.RS (by kernel_rfl) ?_; conv => whnf) | (refine W.S ?_) | (refine W.ret ?_; conv => whnf) | (refine W.condT rfl ?_) | (refine ⟨_, c11, ?_⟩; conv => whnf) | (refine ⟨_, c12, ?_⟩; conv => whnf) | (refine ⟨_, c13, ?_⟩; conv => whnf) | (refine ⟨true, decide_eq_true (by omega), ?_⟩; conv => whnf) | (refine ⟨false, decide_eq_false (by omega), ?_⟩; conv => whnf) | (refine ⟨_, rfl, ?_⟩; conv => whnf) | (refine ⟨rfl, ?_⟩; conv => whnf) | (refine ⟨_, fun h => absurd h Bool.false_ne_true, fun _ => rfl, ?_⟩; conv => whnf))
              rfl
        · rw [if_neg hb, refP_0]
          have hs : ¬ v > 0 := fun h => hb (hsg.1 h)
          have h4 : ¬ ex.length > 4 := fun h => hb (hbig h)
          have c15 := f145_dh J (n := E) (by have := lh_le (n := E) (k := 1) (by rw [Nat.pow_one]; simp only [B15]; omega); omega)
          obtain ⟨Q, hQ⟩ : ∃ Q : Int, (if dn = true then -(E : Int) else (E : Int)) = Q := ⟨_, rfl⟩
          rw [hQ]
          have hQr : -1000 ≤ Q ∧ Q ≤ 1000 := by rw [← hQ]; cases dn <;> simp <;> omega
          have hQ1 : dn = true → -(E : Int) = Q := fun h => by rw [← hQ, h]; rfl
          have hQ2 : dn = false → (E : Int) = Q := fun h => by rw [← hQ, h]; rfl
          obtain ⟨P, hP⟩ : ∃ P : Int, Q - fr.length = P := ⟨_, rfl⟩
          rw [hP]
          have hPr : -2000 ≤ P ∧ P ≤ 1000 := by omega
          obtain ⟨NN, hNN⟩ : ∃ n, N0 * 10 ^ P.toNat = n := ⟨_, rfl⟩
          obtain ⟨DD, hDD⟩ : ∃ n, 10 ^ (-P).toNat = n := ⟨_, rfl⟩
          have lN := lh_ten (n := N0) (r := P.toNat) (by omega) (by omega)
          have lD := lh_ten (n := 1) (r := (-P).toNat) (by have := lh_one; omega) (by omega)
          have pD : 0 < DD := by rw [← hDD]; exact Nat.pow_pos (by decide)
          rw [Nat.one_mul, hDD] at lD
          rw [hNN] at lN
          rw [hNN, hDD]
          have c16 := f147_ok J (NN : Int)
          have c17 := f148_at J (z := sv m NN) (d := DD) pD (by rw [svN]; omega) (by omega) (.inl ⟨rfl, rfl⟩)
          clear hsg hv hA hF hE hex hall hN0 hEe k3 k4 hfr hbig l11 l12 hQ lN lD
          repeat (first | (refine W.joinH (x := .seq (.region 13 _ _) _) (G := Unit) (fun _ => mkA [(2, .ptr 0 0), (4, .iv (.bool m)), (5, .ptr 1 0), (6, .ptr 2 0), (11, .iv (.str ex)), (13, .iv (.str fa)), (14, .iv (.str fr)), (16, .iv (.bool dn))] [(0, .var (.agg [.int .i64 0, .sl [], .int .i64 0, .sl []])), (1, .var (.agg [.int .i64 0, .sl []])), (2, .var (zh 1))] 100) ?_ (fun _ => ?_)) | (refine W.RS (by kernel_rfl) ?_; conv => whnf) | (refine W.S ?_) | (refine W.condF rfl ?_) | (refine ⟨_, c1, ?_⟩; conv => whnf) | (refine ⟨_, c2, ?_⟩; conv => whnf) | (refine ⟨_, c5, ?_⟩; conv => whnf) | (refine ⟨_, c6, ?_⟩; conv => whnf) | (refine ⟨_, c7, ?_⟩; conv => whnf) | (refine ⟨_, k1, ?_⟩; conv => whnf))
          · unfold Hold
            refine W.weak (σ' := mkA [(2, .ptr 0 0), (4, .iv (.bool m)), (5, .ptr 1 0), (6, .ptr 2 0), (11, .iv (.str ex)), (12, .iv (.bool d3)), (13, .iv (.str fa)), (14, .iv (.str fr)), (15, .iv (.bool f3)), (16, .iv (.bool dn))] [(0, .var (.agg [.int .i64 0, .sl [], .int .i64 0, .sl []])), (1, .var (.agg [.int .i64 0, .sl []])), (2, .var (zh 1))] 60) (Wk.tab [(1, 11), (2, 12)] ⟨⟨rfl, rfl⟩, ⟨rfl, rfl⟩, ⟨rfl, rfl⟩, ⟨rfl, rfl⟩, ⟨rfl, rfl⟩, ⟨rfl, rfl⟩, ⟨rfl, rfl⟩, ⟨rfl, rfl⟩, ⟨rfl, rfl⟩, ⟨rfl, rfl⟩, trivial⟩ ⟨rfl, rfl, rfl, trivial⟩ rfl) ?_
            cases f3 with
            | true =>
              rw [hF9 rfl] at c9
              cases d3 with
              | true =>
                rw [hE10 rfl] at c10
                repeat (first | (refine W.RS (by kernel_rfl) ?_; conv => whnf) | (refine W.skip ?_; conv => whnf) | (refine W.condF rfl ?_) | (refine ⟨_, c8, ?_⟩; conv => whnf) | (refine ⟨_, c9, ?_⟩; conv => whnf) | (refine ⟨_, c10, ?_⟩; conv => whnf) | (refine ⟨_, rfl, ?_⟩; conv => whnf) | (refine ⟨_, fun h => absurd h Bool.false_ne_true, fun _ => rfl, ?_⟩; conv => whnf) | (refine ⟨_, fun _ => rfl, fun h => absurd h.symm Bool.false_ne_true, ?_⟩; conv => whnf))
                exact ⟨(), Wk.tab [] ⟨⟨rfl, rfl⟩, ⟨rfl, rfl⟩, ⟨rfl, rfl⟩, ⟨rfl, rfl⟩, ⟨rfl, rfl⟩, ⟨rfl, rfl⟩, ⟨rfl, rfl⟩, ⟨rfl, rfl⟩, trivial⟩ ⟨rfl, rfl, rfl, trivial⟩ rfl⟩
              | false =>
                repeat (first | (refine W.RS (by kernel_rfl) ?_; conv => whnf) | (refine W.skip ?_; conv => whnf) | (refine W.condF rfl ?_) | (refine ⟨_, c8, ?_⟩; conv => whnf) | (refine ⟨_, c9, ?_⟩; conv => whnf) | (refine ⟨_, rfl, ?_⟩; conv => whnf) | (refine ⟨_, fun h => absurd h Bool.false_ne_true, fun _ => rfl, ?_⟩; conv => whnf) | (refine ⟨_, fun _ => rfl, fun h => absurd h.symm Bool.false_ne_true, ?_⟩; conv => whnf))
                exact ⟨(), Wk.tab [] ⟨⟨rfl, rfl⟩, ⟨rfl, rfl⟩, ⟨rfl, rfl⟩, ⟨rfl, rfl⟩, ⟨rfl, rfl⟩, ⟨rfl, rfl⟩, ⟨rfl, rfl⟩, ⟨rfl, rfl⟩, trivial⟩ ⟨rfl, rfl, rfl, trivial⟩ rfl⟩
            | false =>
              cases d3 with
              | true =>
                rw [hE10 rfl] at c10
                repeat (first | (refine W.RS (by kernel_rfl) ?_; conv => whnf) | (refine W.skip ?_; conv => whnf) | (refine W.condF rfl ?_) | (refine ⟨_, c8, ?_⟩; conv => whnf) | (refine ⟨_, c10, ?_⟩; conv => whnf) | (refine ⟨_, rfl, ?_⟩; conv => whnf) | (refine ⟨_, fun h => absurd h Bool.false_ne_true, fun _ => rfl, ?_⟩; conv => whnf) | (refine ⟨_, fun _ => rfl, fun h => absurd h.symm Bool.false_ne_true, ?_⟩; conv => whnf))
                exact ⟨(), Wk.tab [] ⟨⟨rfl, rfl⟩, ⟨rfl, rfl⟩, ⟨rfl, rfl⟩, ⟨rfl, rfl⟩, ⟨rfl, rfl⟩, ⟨rfl, rfl⟩, ⟨rfl, rfl⟩, ⟨rfl, rfl⟩, trivial⟩ ⟨rfl, rfl, rfl, trivial⟩ rfl⟩
              | false =>
                repeat (first | (refine W.RS (by kernel_rfl) ?_; conv => whnf) | (refine W.skip ?_; conv => whnf) | (refine W.condF rfl ?_) | (refine ⟨_, c8, ?_⟩; conv => whnf) | (refine ⟨_, rfl, ?_⟩; conv => whnf) | (refine ⟨_, fun h => absurd h Bool.false_ne_true, fun _ => rfl, ?_⟩; conv => whnf))
                exact ⟨(), Wk.tab [] ⟨⟨rfl, rfl⟩, ⟨rfl, rfl⟩, ⟨rfl, rfl⟩, ⟨rfl, rfl⟩, ⟨rfl, rfl⟩, ⟨rfl, rfl⟩, ⟨rfl, rfl⟩, ⟨rfl, rfl⟩, trivial⟩ ⟨rfl, rfl, rfl, trivial⟩ rfl⟩
          · show W J _ _ (mkA [(2, .ptr 0 0), (4, .iv (.bool m)), (5, .ptr 1 0), (6, .ptr 2 0), (11, .iv (.str ex)), (13, .iv (.str fa)), (14, .iv (.str fr)), (16, .iv (.bool dn))] [(0, .var (.agg [.int .i64 0, .sl [], .int .i64 0, .sl []])), (1, .var (.agg [.int .i64 0, .sl []])), (2, .var (zh 1))] 100) _
            clear c1 c2 c5 c6 c7 c8 c9 c10 hF9 hE10
            repeat (first | (refine W.joinH (x := .seq (.region 18 _ _) _) (G := Unit) (fun _ => mkA [(2, .ptr 0 0), (4, .iv (.bool m)), (5, .ptr 1 0), (6, .ptr 2 0), (13, .iv (.str fa)), (14, .iv (.str fr)), (17, .iv (.int .i64 Q))] [(0, .var (.agg [.int .i64 0, .sl [], .int .i64 0, .sl []])), (1, .var (.agg [.int .i64 0, .sl []])), (2, .var (zh 1))] 200) ?_ (fun _ => ?_)) | (refine W.RS (by kernel_rfl) ?_; conv => whnf) | (refine W.S ?_) | (refine W.skip ?_; conv => whnf) | (refine W.condF rfl ?_) | (refine ⟨_, c11, ?_⟩; conv => whnf) | (refine ⟨_, c12, ?_⟩; conv => whnf) | (refine ⟨_, c13, ?_⟩; conv => whnf) | (refine ⟨_, c15, ?_⟩; conv => whnf) | (refine ⟨false, decide_eq_false (by omega), ?_⟩; conv => whnf) | (refine ⟨_, rfl, ?_⟩; conv => whnf) | (refine ⟨rfl, ?_⟩; conv => whnf) | (refine ⟨_, fun h => absurd h Bool.false_ne_true, fun _ => rfl, ?_⟩; conv => whnf))
            · unfold Hold
              refine W.weak (σ' := mkA [(2, .ptr 0 0), (4, .iv (.bool m)), (5, .ptr 1 0), (6, .ptr 2 0), (13, .iv (.str fa)), (14, .iv (.str fr)), (16, .iv (.bool dn)), (17, .iv (.int .i64 (E : Nat)))] [(0, .var (.agg [.int .i64 0, .sl [], .int .i64 0, .sl []])), (1, .var (.agg [.int .i64 0, .sl []])), (2, .var (zh 1))] 150) (Wk.tab [] ⟨⟨rfl, rfl⟩, ⟨rfl, rfl⟩, ⟨rfl, rfl⟩, ⟨rfl, rfl⟩, ⟨rfl, rfl⟩, ⟨rfl, rfl⟩, ⟨rfl, rfl⟩, ⟨rfl, rfl⟩, trivial⟩ ⟨rfl, rfl, rfl, trivial⟩ rfl) ?_
              cases dn with
              | true =>
                have hQ1 := hQ1 rfl
                repeat (first | (refine W.RS (by kernel_rfl) ?_; conv => whnf) | (refine W.R (by kernel_rfl) ?_; conv => whnf) | (refine W.condT rfl ?_) | (refine ⟨_, w64 (by omega), ?_⟩; conv => whnf))
                exact ⟨(), Wk.tab [] ⟨⟨rfl, rfl⟩, ⟨rfl, rfl⟩, ⟨rfl, rfl⟩, ⟨rfl, rfl⟩, ⟨rfl, rfl⟩, ⟨rfl, rfl⟩, ⟨slE (by omega), rfl⟩, trivial⟩ ⟨rfl, rfl, rfl, trivial⟩ rfl⟩
              | false =>
                have hQ2 := hQ2 rfl
                repeat (first | (refine W.RS (by kernel_rfl) ?_; conv => whnf) | (refine W.skip ?_; conv => whnf) | (refine W.condF rfl ?_))
                exact ⟨(), Wk.tab [] ⟨⟨rfl, rfl⟩, ⟨rfl, rfl⟩, ⟨rfl, rfl⟩, ⟨rfl, rfl⟩, ⟨rfl, rfl⟩, ⟨rfl, rfl⟩, ⟨slE (by omega), rfl⟩, trivial⟩ ⟨rfl, rfl, rfl, trivial⟩ rfl⟩
            · show W J _ _ (mkA [(2, .ptr 0 0), (4, .iv (.bool m)), (5, .ptr 1 0), (6, .ptr 2 0), (13, .iv (.str fa)), (14, .iv (.str fr)), (17, .iv (.int .i64 Q))] [(0, .var (.agg [.int .i64 0, .sl [], .int .i64 0, .sl []])), (1, .var (.agg [.int .i64 0, .sl []])), (2, .var (zh 1))] 200) _
              clear c11 c12 c13 c15 hs h4 hQ1 hQ2
              repeat (first | (refine W.RS (by kernel_rfl) ?_; conv => whnf) | (refine W.S ?_) | (refine W.block ?_) | (refine ⟨_, c14, ?_⟩; conv => whnf) | (refine ⟨hcat2, ?_⟩; conv => whnf) | (refine ⟨rfl, _, w64 (by omega), ?_⟩; conv => whnf) | (refine ⟨_, rfl, ?_⟩; conv => whnf))
              refine W.loop (G := { r : Nat // r ≤ P.toNat }) (fun r => mkA [(2, .ptr 0 0), (4, .iv (.bool m)), (5, .ptr 1 0), (6, .ptr 2 0), (17, .iv (.int .i64 (P - (r.1 : Nat))))] [(0, .var (.agg [.int .i64 0, .sl [], .int .i64 0, .sl []])), (1, .var (zh ((N0 * 10 ^ r.1 : Nat) : Int))), (2, .var (zh 1))] 300) (fun r => P.toNat - r.1) ⟨0, Nat.zero_le _⟩
                (Wk.tab [] ⟨⟨rfl, rfl⟩, ⟨rfl, rfl⟩, ⟨rfl, rfl⟩, ⟨rfl, rfl⟩, ⟨slE (by dsimp only; omega), rfl⟩, trivial⟩ ⟨rfl, varZ (by simp), rfl, trivial⟩ rfl) ?_
              rintro ⟨r, hr⟩
              show W J _ _ (mkA [(2, .ptr 0 0), (4, .iv (.bool m)), (5, .ptr 1 0), (6, .ptr 2 0), (17, .iv (.int .i64 (P - (r : Nat))))] [(0, .var (.agg [.int .i64 0, .sl [], .int .i64 0, .sl []])), (1, .var (zh ((N0 * 10 ^ r : Nat) : Int))), (2, .var (zh 1))] 300) _
              by_cases hlt : r < P.toNat
              · have l1 := lh_ten (n := N0) (r := r) (by omega) (by omega)
                have c18 := f146_ok J (x := ((N0 * 10 ^ r : Nat) : Int)) (y := 10) (by rw [Int.natAbs_natCast]; omega) (by omega)
                rw [pow10] at c18
                clear c14 c16 c17 l1 l14 hNN hDD
                repeat (first | (refine W.RS (by kernel_rfl) ?_; conv => whnf) | (refine W.R (by kernel_rfl) ?_; conv => whnf) | (refine W.S ?_) | (refine W.block ?_) | (refine W.skip ?_; conv => whnf) | (refine W.condT rfl ?_) | (refine ⟨_, c18, ?_⟩; conv => whnf) | (refine ⟨_, k10, ?_⟩; conv => whnf) | (refine ⟨rfl, _, w64 (by omega), ?_⟩; conv => whnf) | (refine ⟨true, decide_eq_true (by omega), ?_⟩; conv => whnf) | (refine ⟨rfl, ?_⟩; conv => whnf))
                exact ⟨⟨r + 1, by omega⟩, Wk.tab [] ⟨⟨rfl, rfl⟩, ⟨rfl, rfl⟩, ⟨rfl, rfl⟩, ⟨rfl, rfl⟩, ⟨slE (by dsimp only; omega), rfl⟩, trivial⟩ ⟨rfl, rfl, rfl, trivial⟩ rfl, by dsimp only; omega⟩
              · have e : r = P.toNat := by omega
                subst e
                rw [hNN]
                clear c14 l14 hlt hNN
                repeat (first | (refine W.RS (by kernel_rfl) ?_; conv => whnf) | (refine W.S ?_) | (refine W.block ?_) | (refine W.exit ?_; conv => whnf) | (refine W.condF rfl ?_) | (refine ⟨false, decide_eq_false (by omega), ?_⟩; conv => whnf) | (refine ⟨rfl, ?_⟩; conv => whnf))
                refine W.loop (G := { r : Nat // r ≤ (-P).toNat }) (fun r => mkA [(2, .ptr 0 0), (4, .iv (.bool m)), (5, .ptr 1 0), (6, .ptr 2 0), (17, .iv (.int .i64 (P - (P.toNat : Nat) + (r.1 : Nat))))] [(0, .var (.agg [.int .i64 0, .sl [], .int .i64 0, .sl []])), (1, .var (zh (NN : Int))), (2, .var (zh ((10 ^ r.1 : Nat) : Int)))] 400) (fun r => (-P).toNat - r.1) ⟨0, Nat.zero_le _⟩
                  (Wk.tab [] ⟨⟨rfl, rfl⟩, ⟨rfl, rfl⟩, ⟨rfl, rfl⟩, ⟨rfl, rfl⟩, ⟨slE (by dsimp only; omega), rfl⟩, trivial⟩ ⟨rfl, rfl, varZ (by simp), trivial⟩ rfl) ?_
                rintro ⟨r, hr⟩
                show W J _ _ (mkA [(2, .ptr 0 0), (4, .iv (.bool m)), (5, .ptr 1 0), (6, .ptr 2 0), (17, .iv (.int .i64 (P - (P.toNat : Nat) + (r : Nat))))] [(0, .var (.agg [.int .i64 0, .sl [], .int .i64 0, .sl []])), (1, .var (zh (NN : Int))), (2, .var (zh ((10 ^ r : Nat) : Int)))] 400) _
                by_cases hlt : r < (-P).toNat
                · have l1 := lh_ten (n := 1) (r := r) (by have := lh_one; omega) (by omega)
                  rw [Nat.one_mul] at l1
                  have c18 := f146_ok J (x := ((10 ^ r : Nat) : Int)) (y := 10) (by rw [Int.natAbs_natCast]; omega) (by omega)
                  rw [pow10'] at c18
                  clear c16 c17 l1 hDD
                  repeat (first | (refine W.RS (by kernel_rfl) ?_; conv => whnf) | (refine W.R (by kernel_rfl) ?_; conv => whnf) | (refine W.S ?_) | (refine W.block ?_) | (refine W.skip ?_; conv => whnf) | (refine W.condT rfl ?_) | (refine ⟨_, c18, ?_⟩; conv => whnf) | (refine ⟨_, k10, ?_⟩; conv => whnf) | (refine ⟨rfl, _, w64 (by omega), ?_⟩; conv => whnf) | (refine ⟨true, decide_eq_true (by omega), ?_⟩; conv => whnf) | (refine ⟨rfl, ?_⟩; conv => whnf))
                  exact ⟨⟨r + 1, by omega⟩, Wk.tab [] ⟨⟨rfl, rfl⟩, ⟨rfl, rfl⟩, ⟨rfl, rfl⟩, ⟨rfl, rfl⟩, ⟨slE (by dsimp only; omega), rfl⟩, trivial⟩ ⟨rfl, rfl, rfl, trivial⟩ rfl, by dsimp only; omega⟩
                · have e : r = (-P).toNat := by omega
                  subst e
                  rw [hDD]
                  clear hlt hDD
                  cases m with
                  | true =>
                    change C J 148 [zh (-(NN : Int)), _] (rr (mkRat (-(NN : Int)) DD)) at c17
                    repeat (first | (refine W.RS (by kernel_rfl) ?_; conv => whnf) | (refine W.R (by kernel_rfl) ?_; conv => whnf) | (refine W.S ?_) | (refine W.ret ?_; conv => whnf) | (refine W.exit ?_; conv => whnf) | (refine W.condF rfl ?_) | (refine W.condT rfl ?_) | (refine ⟨_, c16, ?_⟩; conv => whnf) | (refine ⟨_, c17, ?_⟩; conv => whnf) | (refine ⟨false, decide_eq_false (by omega), ?_⟩; conv => whnf) | (refine ⟨rfl, ?_⟩; conv => whnf))
                    rfl
                  | false =>
                    change C J 148 [zh (NN : Int), _] (rr (mkRat (NN : Int) DD)) at c17
                    repeat (first | (refine W.RS (by kernel_rfl) ?_; conv => whnf) | (refine W.S ?_) | (refine W.ret ?_; conv => whnf) | (refine W.exit ?_; conv => whnf) | (refine W.skip ?_; conv => whnf) | (refine W.condF rfl ?_) | (refine ⟨_, c17, ?_⟩; conv => whnf) | (refine ⟨false, decide_eq_false (by omega), ?_⟩; conv => whnf) | (refine ⟨rfl, ?_⟩; conv => whnf))
                    rfl
theorem parse_e (s : List UInt8) : (parseQ s).2 = 0 ∨ (parseQ s).1 = 0 ∧ ((parseQ s).2 = 4 ∨ (parseQ s).2 = 5 ∨ (parseQ s).2 = 9) := by
  unfold parseQ
  dsimp only
  split
  · exact .inr ⟨rfl, .inr (.inl rfl)⟩
  · split
    · split
      · exact .inr ⟨rfl, .inl rfl⟩
      · split
        · exact .inr ⟨rfl, .inr (.inr rfl)⟩
        · exact .inl rfl
    · split
      · exact .inr ⟨rfl, .inl rfl⟩
      · split
        · exact .inr ⟨rfl, .inr (.inl rfl)⟩
        · exact .inl rfl
theorem f21_ok (J : Keep) {s : List UInt8} (hs : s.length ≤ 1000) : C J 21 [.str s] (refP (parseQ s)) := by
  have c1 := f138_ok J s
  have lt := trimP_len s [45]
  unfold parseQ
  rw [if_neg (by omega)]
  obtain ⟨m, hm⟩ : ∃ m, Lib.hasPrefix s [45] = m := ⟨_, rfl⟩
  obtain ⟨t, ht⟩ : ∃ t, Lib.trimPrefix s [45] = t := ⟨_, rfl⟩
  rw [hm, ht] at c1
  rw [ht] at lt
  rw [hm, ht]
  have c2 := f140_ok J (s := t) (by omega) 47
  obtain ⟨l1, l2, _⟩ := cut_len t [47]
  obtain ⟨⟨a, b, is⟩, hc⟩ : ∃ c, Lib.cut t [47] = c := ⟨_, rfl⟩
  rw [hc] at c2 l1 l2 ⊢
  dsimp only at c2 l1 l2 ⊢
  cases is with
  | true =>
    rw [if_pos rfl]
    exact f21_slash J c1 c2 (by omega) (by omega)
  | false =>
    rw [if_neg Bool.false_ne_true]
    have c5 := f140_ok J (s := t) (by omega) 101
    obtain ⟨g1, g2, g3⟩ := cut_len t [101]
    obtain ⟨⟨d1, d2, d3⟩, hd⟩ : ∃ c, Lib.cut t [101] = c := ⟨_, rfl⟩
    rw [hd] at c5 g1 g2 g3 ⊢
    dsimp only at c5 g1 g2 g3 ⊢
    have c6 := f140_ok J (s := d1) (by omega) 46
    obtain ⟨q1, q2, q3⟩ := cut_len d1 [46]
    obtain ⟨⟨fa, fr, f3⟩, hf⟩ : ∃ c, Lib.cut d1 [46] = c := ⟨_, rfl⟩
    rw [hf] at c6 q1 q2 q3 ⊢
    dsimp only at c6 q1 q2 q3 ⊢
    have c7 := f138_ok J d2
    have le := trimP_len d2 [45]
    have k3 : d3 = false → Lib.trimPrefix d2 [45] = [] := fun h => by rw [g3 h]; rfl
    exact f21_dec J c1 c2 c5 c6 c7 (by omega) (by omega) (by omega) k3 q3
end Go.Proofs.Fl
namespace Go.Proofs.Fl
open Go.RowKit Go.Proofs.Dig
attribute [local irreducible] IntKind.wrap PureC MutC MakC IterC
theorem rl_mk (z : Int) (d : Nat) : rl (mkRat z d) ≤ lh z.natAbs + lh d + 3 := by
  have h1 := rl_int z
  have h2 := rl_int (d : Int)
  rw [Int.natAbs_natCast] at h2
  have h3 := rl_div (z : Rat) ((d : Int) : Rat)
  rw [Rat.mkRat_eq_div]
  change rl ((z : Rat) / ((d : Int) : Rat)) ≤ _
  omega
theorem slash_rl {a b : List UInt8} {m : Bool} (ha : intS a = true) (hb : intS b = true) (la : a.length ≤ 1000) (lb : b.length ≤ 1000) : rl (mkRat (sv m (dv a)) (dv b)) ≤ 20000 := by
  have h1 := lh_dv (all_dig (intS_all ha))
  have h2 := lh_dv (all_dig (intS_all hb))
  have h3 := rl_mk (sv m (dv a)) (dv b)
  rw [svN] at h3
  omega
theorem dec_rl {fa fr : List UInt8} {m : Bool} {P : Int} (h : (fa ++ fr).all digB = true) (l : (fa ++ fr).length ≤ 2000) (hP : -2000 ≤ P ∧ P ≤ 2000) : rl (mkRat (sv m (dv (fa ++ fr) * 10 ^ P.toNat)) (10 ^ (-P).toNat)) ≤ 20000 := by
  have h1 := lh_dv (all_dig h)
  have h2 := lh_ten (n := dv (fa ++ fr)) (r := P.toNat) (by omega) (by omega)
  have h3 := lh_ten (n := 1) (r := (-P).toNat) (by have := lh_one; omega) (by omega)
  have h4 := rl_mk (sv m (dv (fa ++ fr) * 10 ^ P.toNat)) (10 ^ (-P).toNat)
  rw [svN] at h4
  rw [Nat.one_mul] at h3
  omega
theorem parse_rl {s : List UInt8} (hs : s.length ≤ 1000) : rl (parseQ s).1 ≤ 20000 := by
  have z : rl (0 : Rat) ≤ 20000 := by have := rl_zero; omega
  have lt := trimP_len s [45]
  unfold parseQ
  rw [if_neg (by omega)]
  obtain ⟨m, hm⟩ : ∃ m, Lib.hasPrefix s [45] = m := ⟨_, rfl⟩
  obtain ⟨t, ht⟩ : ∃ t, Lib.trimPrefix s [45] = t := ⟨_, rfl⟩
  rw [ht] at lt
  rw [hm, ht]
  obtain ⟨l1, l2, _⟩ := cut_len t [47]
  obtain ⟨⟨a, b, is⟩, hc⟩ : ∃ c, Lib.cut t [47] = c := ⟨_, rfl⟩
  rw [hc] at l1 l2 ⊢
  dsimp only at l1 l2 ⊢
  cases is with
  | true =>
    rw [if_pos rfl]
    split
    · exact z
    · rename_i h
      simp only [Bool.or_eq_true, Bool.not_eq_true', not_or, Bool.not_eq_false] at h
      split
      · exact z
      · exact slash_rl h.1 h.2 (by omega) (by omega)
  | false =>
    rw [if_neg Bool.false_ne_true]
    obtain ⟨g1, g2, g3⟩ := cut_len t [101]
    obtain ⟨⟨d1, d2, d3⟩, hd⟩ : ∃ c, Lib.cut t [101] = c := ⟨_, rfl⟩
    rw [hd] at g1 g2 g3 ⊢
    dsimp only at g1 g2 g3 ⊢
    obtain ⟨q1, q2, q3⟩ := cut_len d1 [46]
    obtain ⟨⟨fa, fr, f3⟩, hf⟩ : ∃ c, Lib.cut d1 [46] = c := ⟨_, rfl⟩
    rw [hf] at q1 q2 q3 ⊢
    dsimp only at q1 q2 q3 ⊢
    split
    · exact z
    · rename_i h
      split
      · exact z
      · rename_i h2
        simp only [Bool.or_eq_true, Bool.not_eq_true', Bool.and_eq_true, not_or, not_and, Bool.not_eq_false] at h
        obtain ⟨h3, h4, _⟩ := h
        have hfr : fr.all digB = true := by
          cases f3 with
          | false => rw [q3 rfl]; rfl
          | true => exact digs_all (h4 rfl)
        refine dec_rl (by rw [List.all_append, hfr, intS_all h3]; rfl) (by rw [List.length_append]; omega) ?_
        split <;> omega
set_option maxHeartbeats 4000000 in
theorem f3_ok {J : Keep} (L : LibI J) {s : List UInt8} (hl : s.length < 2 ^ 63) : C J 3 [.str s] (.bool true) := by
  have aw := f19_ok L
  refine fn_ok Tryz.func3 rfl rfl rfl ?_
  by_cases h1 : s.length > 2000
  · repeat (first | (refine W.RS (by kernel_rfl) ?_; conv => whnf) | (refine W.S ?_) | (refine W.ret ?_; conv => whnf) | (refine W.condT rfl ?_) | (refine ⟨_, aw, ?_⟩; conv => whnf) | (refine ⟨true, decide_eq_true (by omega), ?_⟩; conv => whnf) | (refine ⟨_, rfl, ?_⟩; conv => whnf) | (refine ⟨rfl, ?_⟩; conv => whnf))
    rfl
  · have c1 := f20_ok L (s := s) (by omega)
    have c2 := sgnC' (J := J) (a := 0) (v := 0) (cmpR_eq.2 rfl)
    by_cases h2 : s.length > 1000
    · have hp : parseQ s = (0, 5) := by unfold parseQ; rw [if_pos h2]
      rw [hp] at c1
      unfold rePq at c1
      dsimp only at c1
      clear hp hl
      repeat (first | (refine W.wkRS (id := 6) (σ' := mkA [(0, .iv (.str s)), (3, .ptr 0 0), (4, .iv (.int .i64 5)), (5, .iv (.int .i64 0)), (6, .ptr 1 0), (7, .iv (.int .i64 0))] [(0, .var (qr 0)), (1, .var (.agg [.int .i64 0, .sl [], .int .i64 0, .sl []]))] 20) (Wk.tab [(0, 9), (1, 14)] ⟨⟨rfl, rfl⟩, ⟨rfl, rfl⟩, ⟨rfl, rfl⟩, ⟨rfl, rfl⟩, ⟨rfl, rfl⟩, ⟨rfl, rfl⟩, trivial⟩ ⟨rfl, rfl, trivial⟩ rfl) (by kernel_rfl) ?_; conv => whnf) | (refine W.wkRS (id := 10) (σ' := mkA [(3, .ptr 0 0), (4, .iv (.int .i64 5)), (5, .iv (.int .i64 5)), (6, .ptr 1 0)] [(0, .var (qr 0)), (1, .var (.agg [.int .i64 0, .sl [], .int .i64 0, .sl []]))] 60) (Wk.tab [] ⟨⟨rfl, rfl⟩, ⟨rfl, rfl⟩, ⟨rfl, rfl⟩, ⟨rfl, rfl⟩, trivial⟩ ⟨rfl, rfl, trivial⟩ rfl) (by kernel_rfl) ?_; conv => whnf) | (refine W.RS (by kernel_rfl) ?_; conv => whnf) | (refine W.R (by kernel_rfl) ?_; conv => whnf) | (refine W.S ?_) | (refine W.ret ?_; conv => whnf) | (refine W.skip ?_; conv => whnf) | (refine W.condF rfl ?_) | (refine W.condT rfl ?_) | (refine ⟨_, c1, ?_⟩; conv => whnf) | (refine ⟨_, c2, ?_⟩; conv => whnf) | (refine ⟨_, aw, ?_⟩; conv => whnf) | (refine ⟨true, decide_eq_true (by omega), ?_⟩; conv => whnf) | (refine ⟨false, decide_eq_false (by omega), ?_⟩; conv => whnf) | (refine ⟨true, bne_iff_ne.2 (by omega), ?_⟩; conv => whnf) | (refine ⟨_, rfl, ?_⟩; conv => whnf) | (refine ⟨rfl, ?_⟩; conv => whnf) | (refine ⟨_, fun _ => rfl, fun h => absurd h.symm Bool.false_ne_true, ?_⟩; conv => whnf))
      rfl
    · have c3 := f21_ok J (s := s) (by omega)
      have hr := parse_rl (s := s) (by omega)
      have hpe := parse_e s
      obtain ⟨⟨q, e⟩, hp⟩ : ∃ p, parseQ s = p := ⟨_, rfl⟩
      rw [hp] at c1 c3 hr hpe
      dsimp only at hr hpe
      unfold rePq at c1
      dsimp only at c1
      rcases hpe with rfl | ⟨rfl, rfl | rfl | rfl⟩
      · rw [refP_0] at c3
        have c4 := f23_t L (p := q) (by omega)
        clear hr hp hl
        repeat (first | (refine W.wkRS (id := 6) (σ' := mkA [(0, .iv (.str s)), (3, .ptr 0 0), (4, .iv (.int .i64 0)), (5, .iv (.int .i64 0)), (6, .ptr 1 0), (7, .iv (.int .i64 0))] [(0, .var (qr q)), (1, .var (.agg [.int .i64 0, .sl [], .int .i64 0, .sl []]))] 20) (Wk.tab [(0, 9), (1, 14)] ⟨⟨rfl, rfl⟩, ⟨rfl, rfl⟩, ⟨rfl, rfl⟩, ⟨rfl, rfl⟩, ⟨rfl, rfl⟩, ⟨rfl, rfl⟩, trivial⟩ ⟨rfl, rfl, trivial⟩ rfl) (by kernel_rfl) ?_; conv => whnf) | (refine W.wkRS (id := 10) (σ' := mkA [(3, .ptr 0 0), (4, .iv (.int .i64 0)), (5, .iv (.int .i64 0)), (6, .ptr 1 0)] [(0, .var (qr q)), (1, .var (rr q))] 60) (Wk.tab [] ⟨⟨rfl, rfl⟩, ⟨rfl, rfl⟩, ⟨rfl, rfl⟩, ⟨rfl, rfl⟩, trivial⟩ ⟨rfl, rfl, trivial⟩ rfl) (by kernel_rfl) ?_; conv => whnf) | (refine W.RS (by kernel_rfl) ?_; conv => whnf) | (refine W.R (by kernel_rfl) ?_; conv => whnf) | (refine W.S ?_) | (refine W.ret ?_; conv => whnf) | (refine W.skip ?_; conv => whnf) | (refine W.condF rfl ?_) | (refine ⟨_, c1, ?_⟩; conv => whnf) | (refine ⟨_, c3, ?_⟩; conv => whnf) | (refine ⟨_, c4, ?_⟩; conv => whnf) | (refine ⟨_, aw, ?_⟩; conv => whnf) | (refine ⟨Nat.le_of_ble_eq_true rfl, ?_⟩; conv => whnf) | (refine ⟨true, decide_eq_true (by omega), ?_⟩; conv => whnf) | (refine ⟨false, decide_eq_false (by omega), ?_⟩; conv => whnf) | (refine ⟨false, bne_eq_false_iff_eq.2 (by omega), ?_⟩; conv => whnf) | (refine ⟨_, rfl, ?_⟩; conv => whnf) | (refine ⟨rfl, ?_⟩; conv => whnf) | (refine ⟨_, fun _ => rfl, fun h => absurd h.symm Bool.false_ne_true, ?_⟩; conv => whnf))
        rfl
      · rw [refP_4] at c3
        clear hr hp hl
        repeat (first | (refine W.wkRS (id := 6) (σ' := mkA [(0, .iv (.str s)), (3, .ptr 0 0), (4, .iv (.int .i64 4)), (5, .iv (.int .i64 0)), (6, .ptr 1 0), (7, .iv (.int .i64 0))] [(0, .var (qr 0)), (1, .var (.agg [.int .i64 0, .sl [], .int .i64 0, .sl []]))] 20) (Wk.tab [(0, 9), (1, 14)] ⟨⟨rfl, rfl⟩, ⟨rfl, rfl⟩, ⟨rfl, rfl⟩, ⟨rfl, rfl⟩, ⟨rfl, rfl⟩, ⟨rfl, rfl⟩, trivial⟩ ⟨rfl, rfl, trivial⟩ rfl) (by kernel_rfl) ?_; conv => whnf) | (refine W.wkRS (id := 10) (σ' := mkA [(3, .ptr 0 0), (4, .iv (.int .i64 4)), (5, .iv (.int .i64 4)), (6, .ptr 1 0)] [(0, .var (qr 0)), (1, .var (.agg [.int .i64 0, .sl [], .int .i64 0, .sl []]))] 60) (Wk.tab [] ⟨⟨rfl, rfl⟩, ⟨rfl, rfl⟩, ⟨rfl, rfl⟩, ⟨rfl, rfl⟩, trivial⟩ ⟨rfl, rfl, trivial⟩ rfl) (by kernel_rfl) ?_; conv => whnf) | (refine W.RS (by kernel_rfl) ?_; conv => whnf) | (refine W.R (by kernel_rfl) ?_; conv => whnf) | (refine W.S ?_) | (refine W.ret ?_; conv => whnf) | (refine W.skip ?_; conv => whnf) | (refine W.condF rfl ?_) | (refine W.condT rfl ?_) | (refine ⟨_, c1, ?_⟩; conv => whnf) | (refine ⟨_, c2, ?_⟩; conv => whnf) | (refine ⟨_, c3, ?_⟩; conv => whnf) | (refine ⟨_, aw, ?_⟩; conv => whnf) | (refine ⟨rfl, _, castA _, ?_⟩; conv => whnf) | (refine ⟨true, decide_eq_true (by omega), ?_⟩; conv => whnf) | (refine ⟨false, decide_eq_false (by omega), ?_⟩; conv => whnf) | (refine ⟨true, bne_iff_ne.2 (by omega), ?_⟩; conv => whnf) | (refine ⟨_, rfl, ?_⟩; conv => whnf) | (refine ⟨rfl, ?_⟩; conv => whnf) | (refine And.intro (by omega) ?_; conv => whnf) | (refine ⟨_, fun _ => rfl, fun h => absurd h.symm Bool.false_ne_true, ?_⟩; conv => whnf))
        rfl
      · rw [refP_5] at c3
        clear hr hp hl
        repeat (first | (refine W.wkRS (id := 6) (σ' := mkA [(0, .iv (.str s)), (3, .ptr 0 0), (4, .iv (.int .i64 5)), (5, .iv (.int .i64 0)), (6, .ptr 1 0), (7, .iv (.int .i64 0))] [(0, .var (qr 0)), (1, .var (.agg [.int .i64 0, .sl [], .int .i64 0, .sl []]))] 20) (Wk.tab [(0, 9), (1, 14)] ⟨⟨rfl, rfl⟩, ⟨rfl, rfl⟩, ⟨rfl, rfl⟩, ⟨rfl, rfl⟩, ⟨rfl, rfl⟩, ⟨rfl, rfl⟩, trivial⟩ ⟨rfl, rfl, trivial⟩ rfl) (by kernel_rfl) ?_; conv => whnf) | (refine W.wkRS (id := 10) (σ' := mkA [(3, .ptr 0 0), (4, .iv (.int .i64 5)), (5, .iv (.int .i64 5)), (6, .ptr 1 0)] [(0, .var (qr 0)), (1, .var (.agg [.int .i64 0, .sl [], .int .i64 0, .sl []]))] 60) (Wk.tab [] ⟨⟨rfl, rfl⟩, ⟨rfl, rfl⟩, ⟨rfl, rfl⟩, ⟨rfl, rfl⟩, trivial⟩ ⟨rfl, rfl, trivial⟩ rfl) (by kernel_rfl) ?_; conv => whnf) | (refine W.RS (by kernel_rfl) ?_; conv => whnf) | (refine W.R (by kernel_rfl) ?_; conv => whnf) | (refine W.S ?_) | (refine W.ret ?_; conv => whnf) | (refine W.skip ?_; conv => whnf) | (refine W.condF rfl ?_) | (refine W.condT rfl ?_) | (refine ⟨_, c1, ?_⟩; conv => whnf) | (refine ⟨_, c2, ?_⟩; conv => whnf) | (refine ⟨_, c3, ?_⟩; conv => whnf) | (refine ⟨_, aw, ?_⟩; conv => whnf) | (refine ⟨rfl, _, castA _, ?_⟩; conv => whnf) | (refine ⟨true, decide_eq_true (by omega), ?_⟩; conv => whnf) | (refine ⟨false, decide_eq_false (by omega), ?_⟩; conv => whnf) | (refine ⟨true, bne_iff_ne.2 (by omega), ?_⟩; conv => whnf) | (refine ⟨_, rfl, ?_⟩; conv => whnf) | (refine ⟨rfl, ?_⟩; conv => whnf) | (refine And.intro (by omega) ?_; conv => whnf) | (refine ⟨_, fun _ => rfl, fun h => absurd h.symm Bool.false_ne_true, ?_⟩; conv => whnf))
        rfl
      · rw [refP_9] at c3
        clear hr hp hl
        repeat (first | (refine W.wkRS (id := 6) (σ' := mkA [(0, .iv (.str s)), (3, .ptr 0 0), (4, .iv (.int .i64 9)), (5, .iv (.int .i64 0)), (6, .ptr 1 0), (7, .iv (.int .i64 0))] [(0, .var (qr 0)), (1, .var (.agg [.int .i64 0, .sl [], .int .i64 0, .sl []]))] 20) (Wk.tab [(0, 9), (1, 14)] ⟨⟨rfl, rfl⟩, ⟨rfl, rfl⟩, ⟨rfl, rfl⟩, ⟨rfl, rfl⟩, ⟨rfl, rfl⟩, ⟨rfl, rfl⟩, trivial⟩ ⟨rfl, rfl, trivial⟩ rfl) (by kernel_rfl) ?_; conv => whnf) | (refine W.wkRS (id := 10) (σ' := mkA [(3, .ptr 0 0), (4, .iv (.int .i64 9)), (5, .iv (.int .i64 9)), (6, .ptr 1 0)] [(0, .var (qr 0)), (1, .var (.agg [.int .i64 0, .sl [], .int .i64 0, .sl []]))] 60) (Wk.tab [] ⟨⟨rfl, rfl⟩, ⟨rfl, rfl⟩, ⟨rfl, rfl⟩, ⟨rfl, rfl⟩, trivial⟩ ⟨rfl, rfl, trivial⟩ rfl) (by kernel_rfl) ?_; conv => whnf) | (refine W.RS (by kernel_rfl) ?_; conv => whnf) | (refine W.R (by kernel_rfl) ?_; conv => whnf) | (refine W.S ?_) | (refine W.ret ?_; conv => whnf) | (refine W.skip ?_; conv => whnf) | (refine W.condF rfl ?_) | (refine W.condT rfl ?_) | (refine ⟨_, c1, ?_⟩; conv => whnf) | (refine ⟨_, c2, ?_⟩; conv => whnf) | (refine ⟨_, c3, ?_⟩; conv => whnf) | (refine ⟨_, aw, ?_⟩; conv => whnf) | (refine ⟨rfl, _, castA _, ?_⟩; conv => whnf) | (refine ⟨true, decide_eq_true (by omega), ?_⟩; conv => whnf) | (refine ⟨false, decide_eq_false (by omega), ?_⟩; conv => whnf) | (refine ⟨true, bne_iff_ne.2 (by omega), ?_⟩; conv => whnf) | (refine ⟨_, rfl, ?_⟩; conv => whnf) | (refine ⟨rfl, ?_⟩; conv => whnf) | (refine And.intro (by omega) ?_; conv => whnf) | (refine ⟨_, fun _ => rfl, fun h => absurd h.symm Bool.false_ne_true, ?_⟩; conv => whnf))
        rfl
end Go.Proofs.Fl
namespace Go.Proofs.Fl
open Go.RowKit Go.ChangeShapes Go.WideShapes Go.Deep
attribute [local irreducible] IntKind.wrap PureC MutC MakC IterC
set_option maxRecDepth 100000
instance : Inhabited Num3 := ⟨⟨0, 0, 0⟩⟩
section
variable {H : Type} {enc : TypeId × Value → H} {w : World} {spare : Nat → Bool} {held : Bool} {r : Reach} {b0 : Nat} {v : Value} {d : DataW H}
theorem str_arg (hv : Value.okWide Tryz.prog w r b0 9 v) (h : ∃ p, DataW.Trod enc Tryz.prog w 0 spare held 9 v d p) :
    ∃ s : List UInt8, VR noHeap v (.str s) ∧ s.length < 2 ^ 63 := by
  obtain ⟨p, h⟩ := h
  obtain ⟨s, rfl, _, _, hs⟩ := Go.ChangeMaps.open_string Tryz.underlying9 hv h
  have hml : maxLen < 2 ^ 63 := by decide
  exact ⟨s.data.toList, .str s _ rfl, by have : s.data.toList.length = s.size := rfl; omega⟩
end
end Go.Proofs.Fl
