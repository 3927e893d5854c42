/-
  The card of NumDigits is proved: the law's function returns true at every argument of its shape; no condition.
-/
import Derived.Test.YtdheblnjmnlpfaaGreatDoorB10
namespace Go.Proofs.Fl
open Go.RowKit Go.Proofs.Dig
attribute [local irreducible] IntKind.wrap PureC MutC MakC IterC
theorem hvt (v : Bool) : (v == v) = true := by cases v <;> rfl
end Go.Proofs.Fl
namespace Go.Proofs.Fl
open Go.RowKit Go.Proofs.Dig
attribute [local irreducible] IntKind.wrap PureC MutC MakC IterC
def Hold (p : Prop) : Prop := p
attribute [irreducible] Hold
end Go.Proofs.Fl
namespace Go.Proofs.Fl
open Go.RowKit Go.Proofs.Dig
attribute [local irreducible] IntKind.wrap PureC MutC MakC IterC
theorem scale_pow (n : Nat) : (10 : Rat) ^ n = scaleQ n := by
  induction n with
  | zero => rfl
  | succ n ih =>
    rw [Rat.pow_succ, ih]
    unfold scaleQ
    have e : ((10 ^ (n + 1) : Nat) : Int) = ((10 ^ n : Nat) : Int) * (10 : Int) := by rw [Nat.pow_succ]; omega
    rw [e, Rat.intCast_mul]; rfl
end Go.Proofs.Fl
namespace Go.Proofs.Fl
open Go.RowKit Go.Proofs.Dig
attribute [local irreducible] IntKind.wrap PureC MutC MakC IterC
def X400 : Nat := 10 ^ 200 * 10 ^ 200
theorem decN_lenA {n a b w : Nat} (hw : a + b = w) (h0 : 0 < w) (h : n < 10 ^ a * 10 ^ b) : (decN n).length ≤ w := by
  rw [← Nat.pow_add, hw] at h
  exact decN_len h0 h
theorem decN_len4 {n : Nat} (h : n < X400) : (decN n).length ≤ 400 := decN_lenA (a := 200) (b := 200) rfl (by decide) h
theorem near_bound {a : Rat} {N : Nat} (ha : rl a ≤ 52) (hN : N ≤ 100) : (nearI (a * scaleQ N)).natAbs < X400 := by
  have h1 : a.num.natAbs < B15 ^ 52 := by
    have := lt_lh a.num.natAbs
    exact Nat.lt_of_lt_of_le this (Nat.pow_le_pow_right (by decide) (by unfold rl at ha; omega))
  have h2 : (a * scaleQ N).floor.natAbs ≤ a.num.natAbs * 10 ^ N := by
    unfold scaleQ
    rw [mul_nat, floor_mk a.den_pos]
    have := Int.natAbs_ediv_le_natAbs (a.num * ((10 ^ N : Nat) : Int)) (a.den : Int)
    rw [Int.natAbs_mul, Int.natAbs_natCast] at this
    exact this
  have h3 : (nearI (a * scaleQ N)).natAbs ≤ (a * scaleQ N).floor.natAbs + 1 := by
    rcases near_two (a * scaleQ N) with ⟨e, _⟩ | ⟨e, _⟩ <;> rw [e] <;> omega
  have h4 : a.num.natAbs * 10 ^ N ≤ B15 ^ 52 * 10 ^ 100 := Nat.mul_le_mul (Nat.le_of_lt h1) (Nat.pow_le_pow_right (by decide) hN)
  have h5 : B15 ^ 52 * 10 ^ 100 + 1 < X400 := by decide +kernel
  omega
theorem digR_form (a b : Rat) (n : Nat) : ∃ T B, digR a b n = .tup [.str T, .bool B] ∧ ((B = true ∧ a ≤ b ∧ nearI (a * scaleQ n) = nearI (b * scaleQ n) ∧ T = digT n (nearI (a * scaleQ n))) ∨ (B = false ∧ T = [])) := by
  unfold digR
  split
  · rename_i h
    exact ⟨_, _, rfl, .inl ⟨rfl, h.1, h.2, rfl⟩⟩
  · exact ⟨_, _, rfl, .inr ⟨rfl, rfl⟩⟩
end Go.Proofs.Fl
namespace Go.Proofs.Fl
open Go.RowKit Go.Proofs.Dig
attribute [local irreducible] IntKind.wrap PureC MutC MakC IterC
theorem rl_scale {n : Nat} (hn : n ≤ 100) : rl (scaleQ n) ≤ 202 := by
  rw [← scale_pow]
  have h := rl_pow 10 n
  have h1 : rl (10 : Rat) ≤ 2 := by
    unfold rl
    have e1 := lh_le (n := (10 : Rat).num.natAbs) (k := 1) (by decide)
    have e2 := lh_le (n := (10 : Rat).den) (k := 1) (by decide)
    omega
  have h2 := Nat.mul_le_mul hn h1
  omega
theorem lh_near {a : Rat} {N : Nat} (ha : rl a ≤ 52) (hN : N ≤ 100) : lh (nearI (a * scaleQ N)).natAbs ≤ 100 :=
  lh_le (Nat.lt_trans (near_bound ha hN) (by decide +kernel))
theorem f160_ok (J : Keep) {a : Rat} (ha : rl a ≤ 52) {n : Nat} (hn : n ≤ 100) : C J 160 [rr a, .int .i64 (n : Int)] (zh (nearI (a * scaleQ n))) := by
  refine fn_ok Tryz.func160 rfl rfl rfl ?_
  have c0 := f159_ok J (n : Int) 100
  have hnn : intoN (n : Int) 100 = n := by unfold intoN; omega
  rw [hnn] at c0
  have c1 := f139_ok J (z := 10) (by omega) (by omega)
  have l10 : lh (10 : Int).natAbs ≤ 1 := lh_le (by decide)
  have l2 := Nat.mul_le_mul (show n + 1 ≤ 101 by omega) l10
  have c2 := f165_ok J (x := 10) (n := n) (by omega) (by omega)
  have c3 := f82_ok J ((10 : Int) ^ n)
  have e : (((10 : Int) ^ n : Int) : Rat) = scaleQ n := by
    unfold scaleQ
    rw [Int.natCast_pow]; rfl
  rw [e] at c3
  have rs := rl_scale hn
  have rm := rl_mul a (scaleQ n)
  have c4 := f65_ok J (DOk.rr a) (DOk.rr (scaleQ n)) (by omega) (by omega)
  have c5 := f168_ok J (DOk.rr (a * scaleQ n)) (by omega)
  obtain ⟨S, hS⟩ : ∃ S, scaleQ n = S := ⟨_, rfl⟩
  rw [hS] at c3 c4 c5 ⊢
  repeat (first | (refine W.RS (by kernel_rfl) ?_; conv => whnf) | (refine W.ret ?_; conv => whnf) | (refine ⟨_, c0, ?_⟩; conv => whnf) | (refine ⟨_, c1, ?_⟩; conv => whnf) | (refine ⟨_, c2, ?_⟩; conv => whnf) | (refine ⟨_, c3, ?_⟩; conv => whnf) | (refine ⟨_, c4, ?_⟩; conv => whnf) | (refine ⟨_, c5, ?_⟩; conv => whnf) | (refine ⟨rfl, ?_⟩; conv => whnf))
  rfl
set_option maxHeartbeats 4000000 in
theorem f33_ok (J : Keep) {a b : Rat} (ha : rl a ≤ 52) (hb : rl b ≤ 52) (k : Int) : C J 33 [sx (some a) (some b), .int .i64 k] (digR a b (intoN k 100)) := by
  refine fn_ok Tryz.func33 rfl rfl rfl ?_
  have c0 := f159_ok J k 100
  obtain ⟨n, hn⟩ : ∃ n, intoN k 100 = n := ⟨_, rfl⟩
  have hn1 : n ≤ 100 := by rw [← hn]; unfold intoN; omega
  rw [hn] at c0 ⊢
  have c1 := f160_ok J ha hn1
  have c2 := f160_ok J hb hn1
  have l1 := lh_near ha hn1
  have l2 := lh_near hb hn1
  have bX := near_bound ha hn1
  have c3 := f26_ok (J := J) (e := some a) (f := some b) (by show rl a < _; omega) (by show rl b < _; omega)
  change C J 26 [sx (some a) (some b)] (.bool (decide (cmpR a b ≤ 0))) at c3
  unfold digR
  obtain ⟨X, hX⟩ : ∃ X, nearI (a * scaleQ n) = X := ⟨_, rfl⟩
  obtain ⟨Y, hY⟩ : ∃ Y, nearI (b * scaleQ n) = Y := ⟨_, rfl⟩
  rw [hX] at c1 l1 bX ⊢
  rw [hY] at c2 l2 ⊢
  have c4 := f144_ok J (x := X) (y := Y) (by omega) (by omega)
  have hsg : (X - Y).sign = 0 ↔ X = Y := by rw [Int.sign_eq_zero_iff_zero]; omega
  obtain ⟨v, hv⟩ : ∃ v, (X - Y).sign = v := ⟨_, rfl⟩
  rw [hv] at c4 hsg
  by_cases h1 : a ≤ b
  · rw [decide_eq_true (cmpR_le.2 h1)] at c3
    by_cases h2 : X = Y
    · rw [if_pos ⟨h1, h2⟩]
      have hs0 := hsg.2 h2
      have c5 := f162_ok J X
      have c6 := f161_ok J (z := (X.natAbs : Int)) (by rw [Int.natAbs_natCast]; omega)
      have ez : ztext (X.natAbs : Int) = decN X.natAbs := by unfold ztext; rw [if_neg (by omega), Int.natAbs_natCast, List.nil_append]
      rw [ez] at c6
      have d1 := decN_len4 bX
      have eD : digT n X = (if X < 0 then [45] else []) ++ dotT n (padT n X.natAbs) := rfl
      have eT0 : padT n X.natAbs = List.replicate (n + 1 - (decN X.natAbs).length) 48 ++ decN X.natAbs := rfl
      obtain ⟨dN, hdN⟩ : ∃ l, decN X.natAbs = l := ⟨_, rfl⟩
      rw [hdN] at c6 d1 eT0
      obtain ⟨P, hP⟩ : ∃ P, padT n X.natAbs = P := ⟨_, rfl⟩
      rw [hP] at eT0 eD
      rw [eD]
      clear hb ha l1 l2 bX hsg hv hX hY hdN hP eD ez hn
      repeat (first | (refine W.RS (by kernel_rfl) ?_; conv => whnf) | (refine W.S ?_) | (refine W.block ?_) | (refine W.skip ?_; conv => whnf) | (refine W.condF rfl ?_) | (refine ⟨_, c0, ?_⟩; conv => whnf) | (refine ⟨_, c1, ?_⟩; conv => whnf) | (refine ⟨_, c2, ?_⟩; conv => whnf) | (refine ⟨_, c3, ?_⟩; conv => whnf) | (refine ⟨_, c4, ?_⟩; conv => whnf) | (refine ⟨_, c5, ?_⟩; conv => whnf) | (refine ⟨_, c6, ?_⟩; conv => whnf) | (refine ⟨false, bne_eq_false_iff_eq.2 (by omega), ?_⟩; conv => whnf) | (refine ⟨_, rfl, ?_⟩; conv => whnf) | (refine ⟨rfl, ?_⟩; conv => whnf) | (refine ⟨_, fun h => absurd h Bool.false_ne_true, fun _ => rfl, ?_⟩; conv => whnf))
      refine W.loop (G := { j : Nat // j ≤ n + 1 - dN.length }) (fun j => mkA [(1, .iv (.int .i64 (n : Nat))), (6, .ptr 0 0), (7, .iv (.str (List.replicate j.1 48 ++ dN)))] [(0, .var (zh X))] 40) (fun j => n + 1 - j.1) ⟨0, Nat.zero_le _⟩
        (Wk.tab [(0, 10)] ⟨⟨rfl, rfl⟩, ⟨rfl, rfl⟩, ⟨rfl, rfl⟩, trivial⟩ ⟨rfl, trivial⟩ rfl) ?_
      rintro ⟨j, hj⟩
      show W J _ _ (mkA [(1, .iv (.int .i64 (n : Nat))), (6, .ptr 0 0), (7, .iv (.str (List.replicate j 48 ++ dN)))] [(0, .var (zh X))] 40) _
      have hl : (List.replicate j (48 : UInt8) ++ dN).length = j + dN.length := by rw [List.length_append, List.length_replicate]
      have hnx : ([48] ++ (List.replicate j (48 : UInt8) ++ dN)) = List.replicate (j + 1) 48 ++ dN := by rw [List.replicate_succ]; rfl
      have hT : ¬ (List.replicate j (48 : UInt8) ++ dN).length ≤ n → List.replicate j (48 : UInt8) ++ dN = P := fun h => by
        rw [eT0, show j = n + 1 - dN.length by omega]
      obtain ⟨T, hTe⟩ : ∃ T, List.replicate j (48 : UInt8) ++ dN = T := ⟨_, rfl⟩
      rw [hTe] at hl hnx hT ⊢
      clear hTe
      by_cases h : T.length ≤ n
      · have h48 : ([48] : List UInt8).length + T.length ≤ 9223372036854775807 := by simp; omega
        have hn2 : SV.iv (.str ([48] ++ T)) = SV.iv (.str (List.replicate (j + 1) 48 ++ dN)) := by rw [hnx]
        repeat (first | (refine W.RS (by kernel_rfl) ?_; conv => whnf) | (refine W.R (by kernel_rfl) ?_; conv => whnf) | (refine W.S ?_) | (refine W.block ?_) | (refine W.skip ?_; conv => whnf) | (refine W.condT rfl ?_) | (refine ⟨h48, ?_⟩; conv => whnf) | (refine ⟨true, decide_eq_true (by omega), ?_⟩; conv => whnf) | (refine ⟨_, rfl, ?_⟩; conv => whnf) | (refine ⟨rfl, ?_⟩; conv => whnf))
        exact ⟨⟨j + 1, by omega⟩, Wk.tab [] ⟨⟨rfl, rfl⟩, ⟨rfl, rfl⟩, ⟨hn2, rfl⟩, trivial⟩ ⟨rfl, trivial⟩ rfl, by dsimp only; omega⟩
      · have hTP := hT h
        subst hTP
        clear hT hnx eT0
        have h46a : (List.drop 0 (List.take (T.length - n) T)).length + ([46] : List UInt8).length ≤ 9223372036854775807 := by simp; omega
        have h46b : (List.drop 0 (List.take (T.length - n) T) ++ ([46] : List UInt8)).length + (List.drop (T.length - n) (List.take T.length T)).length ≤ 9223372036854775807 := by simp; omega
        have hUl : (dotT n T).length ≤ T.length + 1 := by unfold dotT; split <;> simp <;> omega
        have eU1 : 0 < n → SV.iv (.str (List.drop 0 (List.take (T.length - n) T) ++ [46] ++ List.drop (T.length - n) (List.take T.length T))) = SV.iv (.str (dotT n T)) := fun h => by rw [dotT, if_pos h, List.take_length]; rfl
        have eU2 : ¬ 0 < n → SV.iv (.str T) = SV.iv (.str (dotT n T)) := fun h => by rw [dotT, if_neg h]
        obtain ⟨U, hU⟩ : ∃ U, dotT n T = U := ⟨_, rfl⟩
        rw [hU] at hUl eU1 eU2 ⊢
        have h45 : ([45] : List UInt8).length + U.length ≤ 9223372036854775807 := by simp; omega
        by_cases k2 : 0 < n
        · have eU := eU1 k2
          by_cases k3 : X < 0
          · have k4 : X.sign < 0 := by rw [Int.sign_eq_neg_one_of_neg k3]; decide
            rw [if_pos k3]
            repeat (first | (refine W.wkRS (id := 10) (σ' := mkA [(6, .ptr 0 0), (7, .iv (.str U))] [(0, .var (zh X))] 80) (Wk.tab [] ⟨⟨rfl, rfl⟩, ⟨eU, rfl⟩, trivial⟩ ⟨rfl, trivial⟩ rfl) (by kernel_rfl) ?_; conv => whnf) | (refine W.RS (by kernel_rfl) ?_; conv => whnf) | (refine W.R (by kernel_rfl) ?_; conv => whnf) | (refine W.S ?_) | (refine W.ret ?_; conv => whnf) | (refine W.exit ?_; conv => whnf) | (refine W.condF rfl ?_) | (refine W.condT rfl ?_) | (refine ⟨T.length - n, by omega, by omega, by omega, ?_⟩; conv => whnf) | (refine ⟨h46a, ?_⟩; conv => whnf) | (refine ⟨h46b, ?_⟩; conv => whnf) | (refine ⟨h45, ?_⟩; conv => whnf) | (refine ⟨_, decide_eq_true k4, ?_⟩; conv => whnf) | (refine ⟨rfl, _, w64 (by omega), ?_⟩; conv => whnf) | (refine ⟨true, decide_eq_true (by omega), ?_⟩; conv => whnf) | (refine ⟨false, decide_eq_false (by omega), ?_⟩; conv => whnf) | (refine ⟨_, rfl, ?_⟩; conv => whnf) | (refine ⟨rfl, ?_⟩; conv => whnf))
            rfl
          · have k4 : ¬ X.sign < 0 := fun e => k3 (Int.sign_neg_iff.1 e)
            rw [if_neg k3]
            repeat (first | (refine W.wkRS (id := 10) (σ' := mkA [(6, .ptr 0 0), (7, .iv (.str U))] [(0, .var (zh X))] 80) (Wk.tab [] ⟨⟨rfl, rfl⟩, ⟨eU, rfl⟩, trivial⟩ ⟨rfl, trivial⟩ rfl) (by kernel_rfl) ?_; conv => whnf) | (refine W.RS (by kernel_rfl) ?_; conv => whnf) | (refine W.R (by kernel_rfl) ?_; conv => whnf) | (refine W.S ?_) | (refine W.ret ?_; conv => whnf) | (refine W.exit ?_; conv => whnf) | (refine W.skip ?_; conv => whnf) | (refine W.condF rfl ?_) | (refine W.condT rfl ?_) | (refine ⟨T.length - n, by omega, by omega, by omega, ?_⟩; conv => whnf) | (refine ⟨h46a, ?_⟩; conv => whnf) | (refine ⟨h46b, ?_⟩; conv => whnf) | (refine ⟨_, decide_eq_false k4, ?_⟩; conv => whnf) | (refine ⟨rfl, _, w64 (by omega), ?_⟩; conv => whnf) | (refine ⟨true, decide_eq_true (by omega), ?_⟩; conv => whnf) | (refine ⟨false, decide_eq_false (by omega), ?_⟩; conv => whnf) | (refine ⟨_, rfl, ?_⟩; conv => whnf) | (refine ⟨rfl, ?_⟩; conv => whnf))
            rfl
        · have eU := eU2 k2
          by_cases k3 : X < 0
          · have k4 : X.sign < 0 := by rw [Int.sign_eq_neg_one_of_neg k3]; decide
            rw [if_pos k3]
            repeat (first | (refine W.wkRS (id := 10) (σ' := mkA [(6, .ptr 0 0), (7, .iv (.str U))] [(0, .var (zh X))] 80) (Wk.tab [] ⟨⟨rfl, rfl⟩, ⟨eU, rfl⟩, trivial⟩ ⟨rfl, trivial⟩ rfl) (by kernel_rfl) ?_; conv => whnf) | (refine W.RS (by kernel_rfl) ?_; conv => whnf) | (refine W.R (by kernel_rfl) ?_; conv => whnf) | (refine W.S ?_) | (refine W.ret ?_; conv => whnf) | (refine W.exit ?_; conv => whnf) | (refine W.skip ?_; conv => whnf) | (refine W.condF rfl ?_) | (refine W.condT rfl ?_) | (refine ⟨h45, ?_⟩; conv => whnf) | (refine ⟨_, decide_eq_true k4, ?_⟩; conv => whnf) | (refine ⟨false, decide_eq_false (by omega), ?_⟩; conv => whnf) | (refine ⟨_, rfl, ?_⟩; conv => whnf) | (refine ⟨rfl, ?_⟩; conv => whnf))
            rfl
          · have k4 : ¬ X.sign < 0 := fun e => k3 (Int.sign_neg_iff.1 e)
            rw [if_neg k3]
            repeat (first | (refine W.wkRS (id := 10) (σ' := mkA [(6, .ptr 0 0), (7, .iv (.str U))] [(0, .var (zh X))] 80) (Wk.tab [] ⟨⟨rfl, rfl⟩, ⟨eU, rfl⟩, trivial⟩ ⟨rfl, trivial⟩ rfl) (by kernel_rfl) ?_; conv => whnf) | (refine W.RS (by kernel_rfl) ?_; conv => whnf) | (refine W.S ?_) | (refine W.ret ?_; conv => whnf) | (refine W.exit ?_; conv => whnf) | (refine W.skip ?_; conv => whnf) | (refine W.condF rfl ?_) | (refine ⟨_, decide_eq_false k4, ?_⟩; conv => whnf) | (refine ⟨false, decide_eq_false (by omega), ?_⟩; conv => whnf) | (refine ⟨_, rfl, ?_⟩; conv => whnf) | (refine ⟨rfl, ?_⟩; conv => whnf))
            rfl
    · rw [if_neg (fun h => h2 h.2)]
      have hs0 : ¬ v = 0 := fun h => h2 (hsg.1 h)
      clear hb ha l1 l2 bX hsg hv hX hY hn
      repeat (first | (refine W.RS (by kernel_rfl) ?_; conv => whnf) | (refine W.S ?_) | (refine W.ret ?_; conv => whnf) | (refine W.condT rfl ?_) | (refine ⟨_, c0, ?_⟩; conv => whnf) | (refine ⟨_, c1, ?_⟩; conv => whnf) | (refine ⟨_, c2, ?_⟩; conv => whnf) | (refine ⟨_, c3, ?_⟩; conv => whnf) | (refine ⟨_, c4, ?_⟩; conv => whnf) | (refine ⟨true, bne_iff_ne.2 (by omega), ?_⟩; conv => whnf) | (refine ⟨_, rfl, ?_⟩; conv => whnf) | (refine ⟨rfl, ?_⟩; conv => whnf) | (refine ⟨_, fun h => absurd h Bool.false_ne_true, fun _ => rfl, ?_⟩; conv => whnf))
      rfl
  · rw [if_neg (fun h => h1 h.1)]
    rw [decide_eq_false (fun h => h1 (cmpR_le.1 h))] at c3
    clear hb ha l1 l2 bX hsg hv hX hY hn
    repeat (first | (refine W.RS (by kernel_rfl) ?_; conv => whnf) | (refine W.S ?_) | (refine W.ret ?_; conv => whnf) | (refine W.condT rfl ?_) | (refine ⟨_, c0, ?_⟩; conv => whnf) | (refine ⟨_, c1, ?_⟩; conv => whnf) | (refine ⟨_, c3, ?_⟩; conv => whnf) | (refine ⟨_, rfl, ?_⟩; conv => whnf) | (refine ⟨rfl, ?_⟩; conv => whnf) | (refine ⟨_, fun _ => rfl, fun h => absurd h.symm Bool.false_ne_true, ?_⟩; conv => whnf))
    rfl
theorem f5_ok {J : Keep} (L : LibI J) {x : Gap6} (hx : x.ok) {k : Int} : C J 5 [x.iv, .int .i64 k] (.bool true) := by
  have cx := f24_ok J hx
  have ra := bothL hx.1
  have rb := bothL hx.2
  obtain ⟨a, ha⟩ : ∃ a, x.lo.q = a := ⟨_, rfl⟩
  obtain ⟨b, hb⟩ : ∃ b, x.hi.q = b := ⟨_, rfl⟩
  rw [ha, hb] at cx
  rw [ha] at ra
  rw [hb] at rb
  have qa := qln_rl a
  have qb := qln_rl b
  have aw := f19_ok L
  have c1 := f32_ok L (a := a) (b := b) (by omega) (by omega) k
  have c2 := f33_ok J ra rb k
  obtain ⟨T, B, h, _⟩ := digR_form a b (intoN k 100)
  rw [h] at c1 c2
  have hTT : (T == T) = true := beq_self_eq_true T
  have hBB : (B == B) = true := beq_self_eq_true B
  refine fn_ok Tryz.func5 rfl rfl rfl ?_
  repeat (first | (refine W.RS (by kernel_rfl) ?_; conv => whnf) | (refine W.ret ?_; conv => whnf) | (refine ⟨_, cx, ?_⟩; conv => whnf) | (refine ⟨_, c1, ?_⟩; conv => whnf) | (refine ⟨_, c2, ?_⟩; conv => whnf) | (refine ⟨_, aw, ?_⟩; conv => whnf) | (refine ⟨_, hTT, ?_⟩; conv => whnf) | (refine ⟨_, hBB, ?_⟩; conv => whnf) | (refine ⟨_, fun _ => rfl, fun h => absurd h.symm Bool.false_ne_true, ?_⟩; conv => whnf))
  rfl
end Go.Proofs.Fl
