/-
  The card of NumSimplest is proved: the law's function returns true at every argument of its shape; no condition.
-/
import Derived.Test.YtdheblnjmnlpfaaGreatDoorB10
namespace Go.Proofs.Fl
open Go.RowKit Go.Proofs.Dig
attribute [local irreducible] IntKind.wrap PureC MutC MakC IterC
theorem hvt (v : Bool) : (v == v) = true := by cases v <;> rfl
end Go.Proofs.Fl
namespace Go.Proofs.Fl
open Go.RowKit Go.Proofs.Dig
attribute [local irreducible] IntKind.wrap PureC MutC MakC IterC
def Hold (p : Prop) : Prop := p
attribute [irreducible] Hold
end Go.Proofs.Fl
namespace Go.Proofs.Fl
open Go.RowKit Go.Proofs.Dig
attribute [local irreducible] IntKind.wrap PureC MutC MakC IterC
theorem rl_simpR {a b : Rat} (h : a ≤ b) : rl (simpR a b) ≤ rl a := by
  obtain ⟨_, _, h3⟩ := simpR_spec h
  obtain ⟨k1, k2⟩ := h3 a Rat.le_refl h
  have l1 := lh_mono k1
  have l2 := lh_mono k2
  unfold rl
  omega
end Go.Proofs.Fl
namespace Go.Proofs.Fl
open Go.RowKit Go.Proofs.Dig
attribute [local irreducible] IntKind.wrap PureC MutC MakC IterC
def loI (a : Rat) (d : Nat) : Int := ceilI (a * ((d : Int) : Rat))
def hiI (b : Rat) (d : Nat) : Int := (b * ((d : Int) : Rat)).floor
theorem dposR {d : Nat} (h : 1 ≤ d) : (0 : Rat) < ((d : Int) : Rat) := Rat.intCast_pos.2 (by omega)
theorem mkd {z : Int} {d : Nat} (h : 1 ≤ d) : mkRat z d * ((d : Int) : Rat) = (z : Rat) := by
  rw [Rat.mkRat_eq_div]
  have h0 := dposR h
  show (z : Rat) / ((d : Int) : Rat) * ((d : Int) : Rat) = z
  have h1 : ((d : Int) : Rat) ≠ 0 := by intro e; rw [e] at h0; exact absurd h0 (by decide)
  rw [Rat.div_def, Rat.mul_assoc, Rat.inv_mul_cancel _ h1, Rat.mul_one]
theorem le_of_mul {u v s : Rat} (h0 : 0 < s) (h : u * s ≤ v * s) : u ≤ v := by
  refine Rat.not_lt.1 fun hlt => ?_
  have := Rat.mul_lt_mul_of_pos_right hlt h0
  exact Rat.not_le.2 this h
theorem mk_in {a b : Rat} {z : Int} {d : Nat} (h : 1 ≤ d) : (a ≤ mkRat z d ↔ loI a d ≤ z) ∧ (mkRat z d ≤ b ↔ z ≤ hiI b d) := by
  have h0 := dposR h
  have e := mkd (z := z) h
  unfold loI hiI
  rw [ceilI_le, Rat.le_floor_iff, ← e]
  refine ⟨⟨fun k => Rat.mul_le_mul_of_nonneg_right k (Rat.le_of_lt h0), le_of_mul h0⟩, ⟨fun k => Rat.mul_le_mul_of_nonneg_right k (Rat.le_of_lt h0), le_of_mul h0⟩⟩
theorem mk_den {z : Int} {d : Nat} (h : 1 ≤ d) : (mkRat z d).den ≤ d := by
  have h1 : (mkRat z d).den ∣ d := Rat.den_mkRat z d ▸ (by
    split
    · exact Nat.one_dvd _
    · exact Nat.div_dvd_of_dvd (Nat.gcd_dvd_left _ _))
  exact Nat.le_of_dvd h h1
theorem self_mk (q : Rat) : mkRat q.num q.den = q := Rat.mkRat_self q
theorem simp_lt {a b : Rat} (hab : a ≤ b) {d : Nat} (hd : 1 ≤ d) (h : d < (simpR a b).den) : hiI b d < loI a d := by
  refine Int.not_le.1 fun hle => ?_
  obtain ⟨_, _, h3⟩ := simpR_spec hab
  have k1 := (mk_in (a := a) (b := b) (z := loI a d) hd).1.2 (Int.le_refl _)
  have k2 := (mk_in (a := a) (b := b) (z := loI a d) hd).2.2 hle
  have := (h3 _ k1 k2).1
  have := mk_den (z := loI a d) hd
  omega
theorem num_of_den {z : Int} {d : Nat} (h : 1 ≤ d) (hd : (mkRat z d).den = d) : (mkRat z d).num = z := by
  have e := mkd (z := z) h
  have e2 := mkd (z := (mkRat z d).num) (d := (mkRat z d).den) (by omega)
  rw [self_mk, hd, e] at e2
  exact (Rat.intCast_inj.1 e2).symm
theorem simp_at {a b : Rat} (hab : a ≤ b) {D : Nat} (hD : (simpR a b).den = D) : 1 ≤ D ∧ loI a D ≤ hiI b D ∧ (0 < loI a D → mkRat (loI a D) D = simpR a b) ∧ (hiI b D < 0 → mkRat (hiI b D) D = simpR a b) ∧ (loI a D ≤ 0 → 0 ≤ hiI b D → simpR a b = 0) := by
  obtain ⟨h1, h2, h3⟩ := simpR_spec hab
  have hp : 1 ≤ D := by have := (simpR a b).den_pos; omega
  have hs := self_mk (simpR a b)
  rw [hD] at hs
  have k1 : loI a D ≤ (simpR a b).num := (mk_in (b := b) hp).1.1 (by rw [hs]; exact h1)
  have k2 : (simpR a b).num ≤ hiI b D := (mk_in (a := a) hp).2.1 (by rw [hs]; exact h2)
  have key : ∀ z : Int, loI a D ≤ z → z ≤ hiI b D → (mkRat z D).num = z ∧ (simpR a b).num.natAbs ≤ z.natAbs := fun z z1 z2 => by
    have g1 := (mk_in (a := a) (b := b) (z := z) hp).1.2 z1
    have g2 := (mk_in (a := a) (b := b) (z := z) hp).2.2 z2
    obtain ⟨g3, g4⟩ := h3 _ g1 g2
    have g5 := mk_den (z := z) hp
    have g6 := num_of_den (z := z) hp (by omega)
    rw [g6] at g4
    exact ⟨g6, g4⟩
  refine ⟨hp, by omega, fun hl => ?_, fun hl => ?_, fun h4 h5 => ?_⟩
  · have := (key _ (Int.le_refl _) (by omega)).2
    have e : loI a D = (simpR a b).num := by omega
    rw [e, hs]
  · have := (key _ (by omega) (Int.le_refl _)).2
    have e : hiI b D = (simpR a b).num := by omega
    rw [e, hs]
  · have g1 := (mk_in (a := a) (b := b) (z := 0) hp).1.2 h4
    have g2 := (mk_in (a := a) (b := b) (z := 0) hp).2.2 h5
    have g4 := (h3 _ g1 g2).2
    have e0 : (mkRat 0 D) = 0 := Rat.zero_mkRat D
    rw [e0] at g4
    have : (simpR a b).num = 0 := by
      have : (0 : Rat).num.natAbs = 0 := rfl
      omega
    exact Rat.num_eq_zero.1 this
theorem simp_400 {a b : Rat} (hab : a ≤ b) (hw : ((1 : Int) : Rat) / ((400 : Int) : Rat) ≤ b - a) : (simpR a b).den ≤ 400 := by
  have hle : loI a 400 ≤ hiI b 400 := by
    unfold loI hiI
    rw [Rat.le_floor_iff]
    have h1 := ceilI_floor (a * (((400 : Nat) : Int) : Rat))
    have h2 := Rat.floor_le (a * (((400 : Nat) : Int) : Rat))
    have h3 := Rat.intCast_le_intCast.2 h1
    rw [Rat.intCast_add] at h3
    have one : ((1 : Int) : Rat) = 1 := rfl
    have f400 : (((400 : Nat) : Int) : Rat) = 400 := rfl
    have f400' : ((400 : Int) : Rat) = 400 := rfl
    rw [one, f400'] at hw
    rw [one] at h3
    rw [f400] at h2 h3 ⊢
    have h4 : (1 : Rat) / 400 * 400 = 1 := by decide +kernel
    have h5 := Rat.mul_le_mul_of_nonneg_right hw (show (0 : Rat) ≤ 400 by decide)
    rw [h4] at h5
    grind
  obtain ⟨_, _, h3⟩ := simpR_spec hab
  have k1 := (mk_in (a := a) (b := b) (z := loI a 400) (d := 400) (by decide)).1.2 (Int.le_refl _)
  have k2 := (mk_in (a := a) (b := b) (z := loI a 400) (d := 400) (by decide)).2.2 hle
  have := (h3 _ k1 k2).1
  have := mk_den (z := loI a 400) (d := 400) (by decide)
  omega
end Go.Proofs.Fl
namespace Go.Proofs.Fl
open Go.RowKit Go.Proofs.Dig
attribute [local irreducible] IntKind.wrap PureC MutC MakC IterC
theorem lh_rl {q : Rat} {N : Nat} (h : rl q ≤ N) : lh q.num.natAbs ≤ N := by unfold rl at h; omega
theorem lh_loI {a : Rat} {d : Nat} (ha : rl a ≤ 52) (hd : d ≤ 400) : lh (loI a d).natAbs ≤ 60 ∧ lh (hiI a d).natAbs ≤ 60 ∧ rl (((d : Int)) : Rat) ≤ 2 ∧ rl (a * ((d : Int) : Rat)) ≤ 54 := by
  have h1 := rl_int (d : Int)
  have h2 := lh_le (n := (d : Int).natAbs) (k := 1) (by rw [Int.natAbs_natCast, Nat.pow_one]; simp only [B15]; omega)
  have h3 := rl_mul a ((d : Int) : Rat)
  have h4 := rl_floor (q := a * ((d : Int) : Rat))
  have h5 := lh_rl (q := a * ((d : Int) : Rat)) (Nat.le_refl _)
  have h6 := rl_floor (q := -(a * ((d : Int) : Rat)))
  have h7 : rl (-(a * ((d : Int) : Rat))) = rl (a * ((d : Int) : Rat)) := rl_neg _
  have h8 := lh_rl (q := -(a * ((d : Int) : Rat))) (Nat.le_refl _)
  have h9 := lh_rl (q := (((a * ((d : Int) : Rat)).floor : Int) : Rat)) (Nat.le_refl _)
  have h10 := lh_rl (q := (((-(a * ((d : Int) : Rat))).floor : Int) : Rat)) (Nat.le_refl _)
  have e9 : (((a * ((d : Int) : Rat)).floor : Int) : Rat).num = (a * ((d : Int) : Rat)).floor := rfl
  have e10 : (((-(a * ((d : Int) : Rat))).floor : Int) : Rat).num = (-(a * ((d : Int) : Rat))).floor := rfl
  rw [e9] at h9
  rw [e10] at h10
  refine ⟨?_, ?_, by omega, by omega⟩
  · unfold loI ceilI
    rw [Int.natAbs_neg]; omega
  · unfold hiI; omega
theorem f31_at (J : Keep) {a b : Rat} {o : Option Rat} (hab : a ≤ b) (ha : rl a ≤ 52) (hb : rl b ≤ 52) {D : Nat} (hD : (simpR a b).den = D) (h400 : D ≤ 400) (hle : loI a D ≤ hiI b D)
    (h1 : 0 < loI a D → rx o = rr (mkRat (loI a D) D)) (h2 : ¬ 0 < loI a D → hiI b D < 0 → rx o = rr (mkRat (hiI b D) D)) (h3 : ¬ 0 < loI a D → ¬ hiI b D < 0 → rx o = .agg [.int .i64 0, .sl [], .int .i64 0, .sl []]) :
    C J 31 [sx (some a) (some b)] (rx o) := by
  refine fn_ok Tryz.func31 rfl rfl rfl ?_
  have hD1 : 1 ≤ D := by have := (simpR a b).den_pos; omega
  repeat (first | (refine W.RS (by kernel_rfl) ?_; conv => whnf) | (refine W.block ?_))
  refine W.loop (G := { d : Nat // 1 ≤ d ∧ d ≤ D }) (fun d => mkA [(1, .ptr 0 0), (2, .ptr 1 0), (3, .iv (.int .i64 (d.1 : Nat)))] [(0, .var (sx (some a) (some b))), (1, .var (.agg [.int .i64 0, .sl [], .int .i64 0, .sl []]))] 20) (fun d => D - d.1) ⟨1, by omega, hD1⟩
    (Wk.tab [] ⟨⟨rfl, rfl⟩, ⟨rfl, rfl⟩, ⟨rfl, rfl⟩, trivial⟩ ⟨rfl, rfl, trivial⟩ rfl) ?_
  rintro ⟨d, hd1, hd⟩
  show W J _ _ (mkA [(1, .ptr 0 0), (2, .ptr 1 0), (3, .iv (.int .i64 (d : Nat)))] [(0, .var (sx (some a) (some b))), (1, .var (.agg [.int .i64 0, .sl [], .int .i64 0, .sl []]))] 20) _
  obtain ⟨b1, _, b3, b4⟩ := lh_loI ha (show d ≤ 400 by omega)
  obtain ⟨_, b5, _, b6⟩ := lh_loI hb (show d ≤ 400 by omega)
  have c1 := f62_ok J (z := (d : Int)) (by omega) (by omega)
  have c2 := f65_ok J (DOk.rr a) (DOk.rr ((d : Int) : Rat)) (by omega) (by omega)
  have c3 := f89_ok J (DOk.rr (a * ((d : Int) : Rat))) (by omega)
  have c4 := f65_ok J (DOk.rr b) (DOk.rr ((d : Int) : Rat)) (by omega) (by omega)
  have c5 := f87_ok J (DOk.rr (b * ((d : Int) : Rat))) (by omega)
  change C J 89 _ (zh (loI a d)) at c3
  change C J 87 _ (zh (hiI b d)) at c5
  have hlt : d < D → hiI b d < loI a d := fun h => simp_lt hab hd1 (by omega)
  have c6 := f144_ok J (x := loI a d) (y := hiI b d) (by omega) (by omega)
  have hsg : 0 < (loI a d - hiI b d).sign ↔ hiI b d < loI a d := by rw [Int.sign_pos_iff]; omega
  have c7 := f139_ok J (z := (d : Int)) (by omega) (by omega)
  have c8 := f148_at J (z := loI a d) (d := d) (by omega) (by omega) (Nat.lt_of_le_of_lt (lh_le (k := 1) (by rw [Nat.pow_one]; simp only [B15]; omega)) (by decide)) (.inl ⟨rfl, rfl⟩)
  have c9 := f148_at J (z := hiI b d) (d := d) (by omega) (by omega) (Nat.lt_of_le_of_lt (lh_le (k := 1) (by rw [Nat.pow_one]; simp only [B15]; omega)) (by decide)) (.inl ⟨rfl, rfl⟩)
  by_cases he : d = D
  · subst he
    obtain ⟨lo, hlo⟩ : ∃ z, loI a d = z := ⟨_, rfl⟩
    obtain ⟨hi, hhi⟩ : ∃ z, hiI b d = z := ⟨_, rfl⟩
    obtain ⟨R, hR⟩ : ∃ R, rx o = R := ⟨_, rfl⟩
    simp only [hlo, hhi, hR] at c3 c5 c6 c8 c9 hsg h1 h2 h3 hle
    rw [hR]
    have hs : ¬ 0 < (lo - hi).sign := fun e => by have := hsg.1 e; omega
    obtain ⟨sv, hsv⟩ : ∃ v, (lo - hi).sign = v := ⟨_, rfl⟩
    rw [hsv] at c6 hs
    by_cases k1 : 0 < lo
    · have k1' : 0 < lo.sign := Int.sign_pos_iff.2 k1
      have e1 := h1 k1
      subst e1
      clear hlo hhi hR hsg hsv hlt h1 h2 h3 b1 b3 b4 b5 b6
      repeat (first | (refine W.RS (by kernel_rfl) ?_; conv => whnf) | (refine W.S ?_) | (refine W.block ?_) | (refine W.ret ?_; conv => whnf) | (refine W.skip ?_; conv => whnf) | (refine W.condF rfl ?_) | (refine W.condT rfl ?_) | (refine ⟨_, c1, ?_⟩; conv => whnf) | (refine ⟨_, c2, ?_⟩; conv => whnf) | (refine ⟨_, c3, ?_⟩; conv => whnf) | (refine ⟨_, c4, ?_⟩; conv => whnf) | (refine ⟨_, c5, ?_⟩; conv => whnf) | (refine ⟨_, c6, ?_⟩; conv => whnf) | (refine ⟨_, c7, ?_⟩; conv => whnf) | (refine ⟨_, c8, ?_⟩; conv => whnf) | (refine ⟨_, decide_eq_true k1', ?_⟩; conv => whnf) | (refine ⟨false, decide_eq_false (by omega), ?_⟩; conv => whnf) | (refine ⟨rfl, ?_⟩; conv => whnf))
      rfl
    · have k1' : ¬ 0 < lo.sign := fun e => k1 (Int.sign_pos_iff.1 e)
      by_cases k2 : hi < 0
      · have k2' : hi.sign < 0 := Int.sign_neg_iff.2 k2
        have e1 := h2 k1 k2
        subst e1
        clear hlo hhi hR hsg hsv hlt h1 h2 h3 b1 b3 b4 b5 b6
        repeat (first | (refine W.RS (by kernel_rfl) ?_; conv => whnf) | (refine W.S ?_) | (refine W.block ?_) | (refine W.ret ?_; conv => whnf) | (refine W.skip ?_; conv => whnf) | (refine W.condF rfl ?_) | (refine W.condT rfl ?_) | (refine ⟨_, c1, ?_⟩; conv => whnf) | (refine ⟨_, c2, ?_⟩; conv => whnf) | (refine ⟨_, c3, ?_⟩; conv => whnf) | (refine ⟨_, c4, ?_⟩; conv => whnf) | (refine ⟨_, c5, ?_⟩; conv => whnf) | (refine ⟨_, c6, ?_⟩; conv => whnf) | (refine ⟨_, c7, ?_⟩; conv => whnf) | (refine ⟨_, c9, ?_⟩; conv => whnf) | (refine ⟨_, decide_eq_false k1', ?_⟩; conv => whnf) | (refine ⟨_, decide_eq_true k2', ?_⟩; conv => whnf) | (refine ⟨false, decide_eq_false (by omega), ?_⟩; conv => whnf) | (refine ⟨rfl, ?_⟩; conv => whnf))
        rfl
      · have k2' : ¬ hi.sign < 0 := fun e => k2 (Int.sign_neg_iff.1 e)
        have e1 := h3 k1 k2
        subst e1
        clear hlo hhi hR hsg hsv hlt h1 h2 h3 b1 b3 b4 b5 b6
        repeat (first | (refine W.RS (by kernel_rfl) ?_; conv => whnf) | (refine W.S ?_) | (refine W.block ?_) | (refine W.ret ?_; conv => whnf) | (refine W.skip ?_; conv => whnf) | (refine W.condF rfl ?_) | (refine ⟨_, c1, ?_⟩; conv => whnf) | (refine ⟨_, c2, ?_⟩; conv => whnf) | (refine ⟨_, c3, ?_⟩; conv => whnf) | (refine ⟨_, c4, ?_⟩; conv => whnf) | (refine ⟨_, c5, ?_⟩; conv => whnf) | (refine ⟨_, c6, ?_⟩; conv => whnf) | (refine ⟨_, decide_eq_false k1', ?_⟩; conv => whnf) | (refine ⟨_, decide_eq_false k2', ?_⟩; conv => whnf) | (refine ⟨false, decide_eq_false (by omega), ?_⟩; conv => whnf) | (refine ⟨rfl, ?_⟩; conv => whnf))
        rfl
  · have hs := hsg.2 (hlt (by omega))
    obtain ⟨sv, hsv⟩ : ∃ v, (loI a d - hiI b d).sign = v := ⟨_, rfl⟩
    rw [hsv] at c6 hs
    clear hsg hsv hlt h1 h2 h3 b1 b3 b4 b5 b6 c8 c9
    repeat (first | (refine W.RS (by kernel_rfl) ?_; conv => whnf) | (refine W.R (by kernel_rfl) ?_; conv => whnf) | (refine W.S ?_) | (refine W.block ?_) | (refine W.exit ?_; conv => whnf) | (refine W.condT rfl ?_) | (refine ⟨_, c1, ?_⟩; conv => whnf) | (refine ⟨_, c2, ?_⟩; conv => whnf) | (refine ⟨_, c3, ?_⟩; conv => whnf) | (refine ⟨_, c4, ?_⟩; conv => whnf) | (refine ⟨_, c5, ?_⟩; conv => whnf) | (refine ⟨_, c6, ?_⟩; conv => whnf) | (refine ⟨rfl, _, w64 (by omega), ?_⟩; conv => whnf) | (refine ⟨true, decide_eq_true (by omega), ?_⟩; conv => whnf) | (refine ⟨rfl, ?_⟩; conv => whnf))
    exact ⟨⟨d + 1, by omega, by omega⟩, Wk.tab [] ⟨⟨rfl, rfl⟩, ⟨rfl, rfl⟩, ⟨rfl, rfl⟩, trivial⟩ ⟨rfl, rfl, trivial⟩ rfl, by dsimp only; omega⟩
theorem f31_ok (J : Keep) {a b : Rat} (hab : a ≤ b) (ha : rl a ≤ 52) (hb : rl b ≤ 52) (hw : ((1 : Int) : Rat) / ((400 : Int) : Rat) ≤ b - a) : ∃ o, vx o = simpR a b ∧ C J 31 [sx (some a) (some b)] (rx o) := by
  obtain ⟨D, hD⟩ : ∃ D, (simpR a b).den = D := ⟨_, rfl⟩
  have h400 := simp_400 hab hw
  obtain ⟨_, hle, k1, k2, k3⟩ := simp_at hab hD
  by_cases h1 : 0 < loI a D
  · exact ⟨some (simpR a b), rfl, f31_at J hab ha hb hD (by omega) hle (fun _ => by rw [k1 h1]; rfl) (fun h => absurd h1 h) (fun h => absurd h1 h)⟩
  · by_cases h2 : hiI b D < 0
    · exact ⟨some (simpR a b), rfl, f31_at J hab ha hb hD (by omega) hle (fun h => absurd h h1) (fun _ _ => by rw [k2 h2]; rfl) (fun _ h => absurd h2 h)⟩
    · exact ⟨none, (k3 (by omega) (by omega)).symm, f31_at J hab ha hb hD (by omega) hle (fun h => absurd h h1) (fun _ h => absurd h h2) (fun _ _ => rx_none)⟩
theorem f4_ok {J : Keep} (L : LibI J) {x : Gap6} (hx : x.ok) : C J 4 [x.iv] (.bool true) := by
  have cx := f24_ok J hx
  have ra := bothL hx.1
  have rb := bothL hx.2
  obtain ⟨a, ha⟩ : ∃ a, x.lo.q = a := ⟨_, rfl⟩
  obtain ⟨b, hb⟩ : ∃ b, x.hi.q = b := ⟨_, rfl⟩
  rw [ha, hb] at cx
  rw [ha] at ra
  rw [hb] at rb
  have qa := qln_rl a
  have qb := qln_rl b
  have aw := f19_ok L
  have c1 := f25_ok (J := J) (a := a) (b := b) (by omega) (by omega)
  have c2 := f26_ok (J := J) (e := some a) (f := some b) (by show rl a < _; omega) (by show rl b < _; omega)
  change C J 26 [sx (some a) (some b)] (.bool (decide (cmpR a b ≤ 0))) at c2
  unfold simpT at c1
  refine fn_ok Tryz.func4 rfl rfl rfl ?_
  by_cases hab : a ≤ b
  · rw [decide_eq_true (cmpR_le.2 hab)] at c2
    rw [if_pos hab] at c1
    have rq := rl_simpR hab
    obtain ⟨sp1, sp2, _⟩ := simpR_spec hab
    have hsp := @f31_ok J a b hab ra rb
    have hf := f30_ok (J := J) (a := a) (b := b) (q := simpR a b) (by omega) (by omega) (by have := qln_rl (simpR a b); omega)
    rw [decide_eq_true (cmpR_le.2 sp1), decide_eq_true (cmpR_le.2 sp2)] at hf
    obtain ⟨q, hq⟩ : ∃ q, simpR a b = q := ⟨_, rfl⟩
    simp only [hq] at c1 rq hf hsp
    have c3 := f28_ok (J := J) (a := a) (b := b) (by omega) (by omega)
    have c4 := f29_ok J (n := 1) (d := 400) (by omega) (by omega) (by omega) (by omega) (by omega)
    have rw := rl_sub b a
    have r4 := rl_base (n := 1) (d := 400) (by omega) (by omega) (by omega) (by omega)
    unfold baseN at r4
    rw [if_neg (by decide)] at r4
    have c5 := f27_ok J (DOk.rr (b - a)) (DOk.rr (((1 : Int) : Rat) / ((400 : Int) : Rat))) (by omega) (by omega)
    have hcm := @cmpR_lt (b - a) (((1 : Int) : Rat) / ((400 : Int) : Rat))
    obtain ⟨w, hw⟩ : ∃ w, ((1 : Int) : Rat) / ((400 : Int) : Rat) = w := ⟨_, rfl⟩
    rw [hw] at c4 c5 hcm hsp
    obtain ⟨v, hv⟩ : ∃ v, cmpR (b - a) w = v := ⟨_, rfl⟩
    rw [hv] at c5 hcm
    clear ha hb hx hq hw hv rw r4 sp1 sp2
    by_cases h1 : v < 0
    · clear hsp
      repeat (first | (refine W.RS (by kernel_rfl) ?_; conv => whnf) | (refine W.S ?_) | (refine W.ret ?_; conv => whnf) | (refine W.skip ?_; conv => whnf) | (refine W.condF rfl ?_) | (refine W.condT rfl ?_) | (refine ⟨_, cx, ?_⟩; conv => whnf) | (refine ⟨_, c1, ?_⟩; conv => whnf) | (refine ⟨_, c2, ?_⟩; conv => whnf) | (refine ⟨_, c3, ?_⟩; conv => whnf) | (refine ⟨_, c4, ?_⟩; conv => whnf) | (refine ⟨_, c5, ?_⟩; conv => whnf) | (refine ⟨_, hf, ?_⟩; conv => whnf) | (refine ⟨_, aw, ?_⟩; conv => whnf) | (refine ⟨true, decide_eq_true (by omega), ?_⟩; conv => whnf) | (refine ⟨_, rfl, ?_⟩; conv => whnf) | (refine ⟨rfl, ?_⟩; conv => whnf) | (refine ⟨_, fun _ => rfl, fun h => absurd h.symm Bool.false_ne_true, ?_⟩; conv => whnf))
      rfl
    · obtain ⟨o, ho, c6⟩ := hsp (Rat.not_lt.1 fun e => h1 (hcm.2 e))
      have c7 := f23_ok L (p := q) (rx_ok o) (by have := qln_rl q; omega) (by rw [ho]; omega)
      rw [decide_eq_true ho.symm] at c7
      clear hcm ho
      repeat (first | (refine W.RS (by kernel_rfl) ?_; conv => whnf) | (refine W.S ?_) | (refine W.ret ?_; conv => whnf) | (refine W.skip ?_; conv => whnf) | (refine W.condF rfl ?_) | (refine ⟨_, cx, ?_⟩; conv => whnf) | (refine ⟨_, c1, ?_⟩; conv => whnf) | (refine ⟨_, c2, ?_⟩; conv => whnf) | (refine ⟨_, c3, ?_⟩; conv => whnf) | (refine ⟨_, c4, ?_⟩; conv => whnf) | (refine ⟨_, c5, ?_⟩; conv => whnf) | (refine ⟨_, c6, ?_⟩; conv => whnf) | (refine ⟨_, c7, ?_⟩; conv => whnf) | (refine ⟨_, aw, ?_⟩; conv => whnf) | (refine ⟨true, decide_eq_true (by omega), ?_⟩; conv => whnf) | (refine ⟨false, decide_eq_false (by omega), ?_⟩; conv => whnf) | (refine ⟨_, rfl, ?_⟩; conv => whnf) | (refine ⟨rfl, ?_⟩; conv => whnf) | (refine ⟨_, fun _ => rfl, fun h => absurd h.symm Bool.false_ne_true, ?_⟩; conv => whnf))
      rfl
  · rw [decide_eq_false (fun h => hab (cmpR_le.1 h))] at c2
    rw [if_neg hab] at c1
    have c3 := sgnC' (J := J) (a := 0) (v := 0) (cmpR_eq.2 rfl)
    clear ha hb hx
    repeat (first | (refine W.RS (by kernel_rfl) ?_; conv => whnf) | (refine W.S ?_) | (refine W.ret ?_; conv => whnf) | (refine W.condT rfl ?_) | (refine ⟨_, cx, ?_⟩; conv => whnf) | (refine ⟨_, c1, ?_⟩; conv => whnf) | (refine ⟨_, c2, ?_⟩; conv => whnf) | (refine ⟨_, c3, ?_⟩; conv => whnf) | (refine ⟨_, aw, ?_⟩; conv => whnf) | (refine ⟨true, decide_eq_true (by omega), ?_⟩; conv => whnf) | (refine ⟨_, rfl, ?_⟩; conv => whnf) | (refine ⟨rfl, ?_⟩; conv => whnf) | (refine ⟨_, fun _ => rfl, fun h => absurd h.symm Bool.false_ne_true, ?_⟩; conv => whnf))
    rfl
end Go.Proofs.Fl
