/-
  The card of NumEncloses is proved: the law's function returns true at every argument of its shape; no condition.
-/
import Derived.Test.YtdheblnjmnlpfaaGreatDoorB10
namespace Go.Proofs.Fl
open Go.RowKit Go.Proofs.Dig
attribute [local irreducible] IntKind.wrap PureC MutC MakC IterC
theorem rl_mulE {a b c d : Rat} (ha : rl a ≤ 52) (hb : rl b ≤ 52) (hc : rl c ≤ 52) (hd : rl d ≤ 52) : ∀ x ∈ mulE a b c d, rl x < 200 := by
  intro x hx
  simp only [mulE, List.mem_cons, List.not_mem_nil, or_false] at hx
  have h1 := rl_mul a c
  have h2 := rl_mul a d
  have h3 := rl_mul b c
  have h4 := rl_mul b d
  rcases hx with rfl | rfl | rfl | rfl <;> omega
theorem rl_two {x y : Rat} {N : Nat} (h0 : 1 < N) (hx : rl x < N) (hy : rl y < N) (b : Int → Bool) : rl (chooseL b [x, y]) < N := rl_max (by intro z hz; simp at hz; rcases hz with rfl | rfl <;> assumption) h0 b
theorem hvt (v : Bool) : (v == v) = true := by cases v <;> rfl
end Go.Proofs.Fl
namespace Go.Proofs.Fl
open Go.RowKit Go.Proofs.Dig
attribute [local irreducible] IntKind.wrap PureC MutC MakC IterC
def Hold (p : Prop) : Prop := p
theorem W.joinH {J : Keep} {nt : Nat} {σ : AS} {K : Exit → AS → Prop} {G : Type} (inv : G → AS) {x y : Code} (h1 : Hold (W J nt x σ (joinK inv K))) (h2 : ∀ g, W J nt y (inv g) K) : W J nt (.seq x y) σ K := W.join inv (by unfold Hold at h1; exact h1) h2
attribute [irreducible] Hold
end Go.Proofs.Fl
namespace Go.Proofs.Fl
open Go.RowKit Go.Proofs.Dig
attribute [local irreducible] IntKind.wrap PureC MutC MakC IterC
theorem f53_t {J : Keep} {a b c d : Rat} (ha : rl a < 2 ^ 26) (hb : rl b < 2 ^ 26) (hc : rl c < 2 ^ 26) (hd : rl d < 2 ^ 26) (h1 : c ≤ a) (h2 : b ≤ d) : C J 53 [sd a b, sd c d] (.bool true) := by
  have h := f53_ok (J := J) (a := a) (b := b) (c := c) (d := d) (by have := qr_lt ha; omega) (by have := qr_lt hb; omega) (by have := qr_lt hc; omega) (by have := qr_lt hd; omega)
  rw [decide_eq_true (cmpR_le.2 h1), decide_eq_true (cmpR_le.2 h2)] at h
  exact h
end Go.Proofs.Fl
namespace Go.Proofs.Fl
open Go.RowKit Go.Proofs.Dig
attribute [local irreducible] IntKind.wrap PureC MutC MakC IterC
def ptQ (p : Nat) : Rat := ((((p % 101 : Nat) : Int)) : Rat) / ((100 : Int) : Rat)
def wiQ (a b : Rat) (p : Nat) : Rat := a + (b - a) * ptQ p
theorem ptQ_in (p : Nat) : 0 ≤ ptQ p ∧ ptQ p ≤ 101 / 100 ∧ (p % 101 ≤ 100 → ptQ p ≤ 1) := by
  have h0 : (0 : Rat) < ((100 : Int) : Rat) := by decide
  have h1 : ptQ p * ((100 : Int) : Rat) = (((p % 101 : Nat) : Int) : Rat) := by
    unfold ptQ
    rw [Rat.div_def, Rat.mul_assoc, Rat.inv_mul_cancel _ (by decide), Rat.mul_one]
  have hc : ((100 : Int) : Rat) = 100 := rfl
  rw [hc] at h1
  have h2 : (0 : Rat) ≤ (((p % 101 : Nat) : Int) : Rat) := Rat.intCast_nonneg.2 (by omega)
  have h3 : (((p % 101 : Nat) : Int) : Rat) ≤ ((100 : Int) : Rat) := Rat.intCast_le_intCast.2 (by omega)
  rw [hc] at h3
  refine ⟨?_, ?_, fun _ => ?_⟩ <;> grind
theorem wiQ_in {a b : Rat} (h : a ≤ b) (p : Nat) : a ≤ wiQ a b p ∧ wiQ a b p ≤ b := by
  obtain ⟨h1, _, h3⟩ := ptQ_in p
  have h3 := h3 (by omega)
  unfold wiQ
  have hw : 0 ≤ b - a := by grind
  have k1 := Rat.mul_nonneg hw h1
  have k2 : (b - a) * ptQ p ≤ (b - a) * 1 := by
    rw [Rat.mul_comm (b - a), Rat.mul_comm (b - a)]
    exact Rat.mul_le_mul_of_nonneg_right h3 hw
  constructor <;> grind
theorem rl_ptQ (p : Nat) : rl (ptQ p) ≤ 13 := by
  have := rl_base (n := ((p % 101 : Nat) : Int)) (d := 100) (by omega) (by omega) (by omega) (by omega)
  unfold baseN at this
  rw [if_neg (by decide)] at this
  exact this
theorem rl_wiQ {a b : Rat} (ha : rl a ≤ 52) (hb : rl b ≤ 52) (p : Nat) : rl (wiQ a b p) ≤ 2000 := by
  unfold wiQ
  have h1 := rl_sub b a
  have h2 := rl_mul (b - a) (ptQ p)
  have h3 := rl_ptQ p
  have h4 := rl_add a ((b - a) * ptQ p)
  omega
theorem f56_ok (J : Keep) {a b : Rat} (ha : rl a ≤ 52) (hb : rl b ≤ 52) (p : Nat) : C J 56 [sd a b, .int .u8 (p : Int)] (qr (wiQ a b p)) := by
  have hm : ((p : Nat) : Int).tmod 101 = ((p % 101 : Nat) : Int) := tmodN p 101
  have h3 := rl_ptQ p
  unfold wiQ
  have h1 := rl_sub b a
  have h2 := rl_mul (b - a) (ptQ p)
  have c1 := f57_ok (base J) (n := ((p % 101 : Nat) : Int)) (d := 100) (by omega) (by omega) (by omega) (by omega) (by omega)
  change C J 57 _ (.tup [qr (ptQ p), .int .i64 0]) at c1
  have qa := qln_rl a
  have qb := qln_rl b
  have c2 := f93_ok (base J) (a := a) (b := b) (by omega) (by omega)
  have c3 := mulC (J := J) (a := b - a) (b := ptQ p) (by omega) (by omega)
  have c4 := addC (J := J) (a := a) (b := (b - a) * ptQ p) (by omega) (by omega)
  have w1 : IntKind.wrap .i64 (((p % 101 : Nat) : Int)) = ((p % 101 : Nat) : Int) := w64 (by omega)
  refine fn_ok Tryz.func56 rfl rfl rfl ?_
  repeat (first | (refine W.RS (by kernel_rfl) ?_; conv => whnf) | (refine W.ret ?_; conv => whnf) | (refine ⟨by omega, _, hm, ?_⟩; conv => whnf) | (refine ⟨_, w1, ?_⟩; conv => whnf) | (refine ⟨_, c1, ?_⟩; conv => whnf) | (refine ⟨_, c2, ?_⟩; conv => whnf) | (refine ⟨_, c3, ?_⟩; conv => whnf) | (refine ⟨_, c4, ?_⟩; conv => whnf) | (refine ⟨rfl, ?_⟩; conv => whnf))
  rfl
end Go.Proofs.Fl
namespace Go.Proofs.Fl
open Go.RowKit Go.Proofs.Dig
attribute [local irreducible] IntKind.wrap PureC MutC MakC IterC
theorem minL_le {l : List Rat} {x : Rat} (hx : x ∈ l) : minL l ≤ x := by
  have key : ∀ (l : List Rat) (m : Rat), l.foldl (fun m y => if decide (cmpR y m < 0) then y else m) m ≤ m ∧ ∀ x ∈ l, l.foldl (fun m y => if decide (cmpR y m < 0) then y else m) m ≤ x := by
    intro l
    induction l with
    | nil => intro m; exact ⟨Rat.le_refl, by simp⟩
    | cons y l ih =>
      intro m
      simp only [List.foldl_cons]
      by_cases h : cmpR y m < 0
      · rw [decide_eq_true h, if_pos rfl]
        obtain ⟨h1, h2⟩ := ih y
        have h3 := Rat.le_of_lt (cmpR_lt.1 h)
        refine ⟨Rat.le_trans h1 h3, fun x hx => ?_⟩
        rcases List.mem_cons.1 hx with rfl | hx
        · exact h1
        · exact h2 x hx
      · rw [decide_eq_false h, if_neg Bool.false_ne_true]
        obtain ⟨h1, h2⟩ := ih m
        have hm : m ≤ y := Rat.not_lt.1 fun e => h (cmpR_lt.2 e)
        refine ⟨h1, fun x hx => ?_⟩
        rcases List.mem_cons.1 hx with rfl | hx
        · exact Rat.le_trans h1 hm
        · exact h2 x hx
  cases l with
  | nil => simp at hx
  | cons y l =>
    obtain ⟨h1, h2⟩ := key l y
    show l.foldl _ y ≤ x
    rcases List.mem_cons.1 hx with rfl | hx
    · exact h1
    · exact h2 x hx
theorem le_maxL {l : List Rat} {x : Rat} (hx : x ∈ l) : x ≤ maxL l := by
  have key : ∀ (l : List Rat) (m : Rat), m ≤ l.foldl (fun m y => if decide (cmpR y m > 0) then y else m) m ∧ ∀ x ∈ l, x ≤ l.foldl (fun m y => if decide (cmpR y m > 0) then y else m) m := by
    intro l
    induction l with
    | nil => intro m; exact ⟨Rat.le_refl, by simp⟩
    | cons y l ih =>
      intro m
      simp only [List.foldl_cons]
      by_cases h : cmpR y m > 0
      · rw [decide_eq_true h, if_pos rfl]
        obtain ⟨h1, h2⟩ := ih y
        have h3 := Rat.le_of_lt (cmpR_gt.1 h)
        refine ⟨Rat.le_trans h3 h1, fun x hx => ?_⟩
        rcases List.mem_cons.1 hx with rfl | hx
        · exact h1
        · exact h2 x hx
      · rw [decide_eq_false h, if_neg Bool.false_ne_true]
        obtain ⟨h1, h2⟩ := ih m
        have hm : y ≤ m := Rat.not_lt.1 fun e => h (cmpR_gt.2 e)
        refine ⟨h1, fun x hx => ?_⟩
        rcases List.mem_cons.1 hx with rfl | hx
        · exact Rat.le_trans hm h1
        · exact h2 x hx
  cases l with
  | nil => simp at hx
  | cons y l =>
    obtain ⟨h1, h2⟩ := key l y
    show x ≤ l.foldl _ y
    rcases List.mem_cons.1 hx with rfl | hx
    · exact h1
    · exact h2 x hx
theorem minL_mem {l : List Rat} (h : l ≠ []) : minL l ∈ l := chooseL_mem _ l h
theorem maxL_mem {l : List Rat} (h : l ≠ []) : maxL l ∈ l := chooseL_mem _ l h
theorem lin_ge {a b x y m : Rat} (h1 : a ≤ x) (h2 : x ≤ b) (k1 : m ≤ a * y) (k2 : m ≤ b * y) : m ≤ x * y := by
  by_cases hy : 0 ≤ y
  · exact Rat.le_trans k1 (Rat.mul_le_mul_of_nonneg_right h1 hy)
  · have hy' : 0 ≤ -y := by grind
    have := Rat.mul_le_mul_of_nonneg_right h2 hy'
    grind
theorem lin_le {a b x y m : Rat} (h1 : a ≤ x) (h2 : x ≤ b) (k1 : a * y ≤ m) (k2 : b * y ≤ m) : x * y ≤ m := by
  by_cases hy : 0 ≤ y
  · exact Rat.le_trans (Rat.mul_le_mul_of_nonneg_right h2 hy) k2
  · have hy' : 0 ≤ -y := by grind
    have := Rat.mul_le_mul_of_nonneg_right h1 hy'
    grind
theorem box_in {a b c d x y m M : Rat} (h1 : a ≤ x) (h2 : x ≤ b) (h3 : c ≤ y) (h4 : y ≤ d) (k1 : m ≤ a * c ∧ a * c ≤ M) (k2 : m ≤ a * d ∧ a * d ≤ M) (k3 : m ≤ b * c ∧ b * c ≤ M) (k4 : m ≤ b * d ∧ b * d ≤ M) : m ≤ x * y ∧ x * y ≤ M := by
  have swp : ∀ u v : Rat, u * v = v * u := fun u v => Rat.mul_comm u v
  constructor
  · refine lin_ge h1 h2 ?_ ?_
    · rw [swp]; exact lin_ge h3 h4 (by rw [swp]; exact k1.1) (by rw [swp]; exact k2.1)
    · rw [swp]; exact lin_ge h3 h4 (by rw [swp]; exact k3.1) (by rw [swp]; exact k4.1)
  · refine lin_le h1 h2 ?_ ?_
    · rw [swp]; exact lin_le h3 h4 (by rw [swp]; exact k1.2) (by rw [swp]; exact k2.2)
    · rw [swp]; exact lin_le h3 h4 (by rw [swp]; exact k3.2) (by rw [swp]; exact k4.2)
theorem mul_in {a b c d x y : Rat} (h1 : a ≤ x) (h2 : x ≤ b) (h3 : c ≤ y) (h4 : y ≤ d) : minL (mulE a b c d) ≤ x * y ∧ x * y ≤ maxL (mulE a b c d) := by
  have hm : ∀ z ∈ mulE a b c d, minL (mulE a b c d) ≤ z ∧ z ≤ maxL (mulE a b c d) := fun z hz => ⟨minL_le hz, le_maxL hz⟩
  exact box_in h1 h2 h3 h4 (hm _ (by simp [mulE])) (hm _ (by simp [mulE])) (hm _ (by simp [mulE])) (hm _ (by simp [mulE]))
theorem scale_in {a b z x : Rat} (h1 : a ≤ x) (h2 : x ≤ b) : minL [a * z, b * z] ≤ x * z ∧ x * z ≤ maxL [a * z, b * z] :=
  ⟨lin_ge h1 h2 (minL_le (by simp)) (minL_le (by simp)), lin_le h1 h2 (le_maxL (by simp)) (le_maxL (by simp))⟩
theorem inv_le' {p q u v : Rat} (hpq : p ≤ q) (hpos : 0 < p * q) (hu : p * u = 1) (hv : q * v = 1) : v ≤ u := by
  have h0 : 0 ≤ u * v := by
    refine Rat.not_lt.1 fun h => ?_
    have h1 : 0 ≤ -(u * v) := by grind
    have h2 := Rat.mul_nonneg h1 (Rat.le_of_lt hpos)
    have h3 : -(u * v) * (p * q) = -1 := by grind
    rw [h3] at h2
    exact absurd h2 (by decide)
  have h1 : 0 ≤ q - p := by grind
  have h2 := Rat.mul_nonneg h1 h0
  have h3 : (q - p) * (u * v) = u - v := by grind
  rw [h3] at h2
  grind
theorem same_pos {c d y z : Rat} (h : 0 < c ∨ d < 0) (h3 : c ≤ y) (h4 : y ≤ d) (h5 : c ≤ z) (h6 : z ≤ d) : 0 < y * z := by
  rcases h with h | h
  · exact Rat.mul_pos (by grind) (by grind)
  · have := Rat.mul_pos (a := -y) (b := -z) (by grind) (by grind)
    grind
theorem div_in {a b c d x y : Rat} (h1 : a ≤ x) (h2 : x ≤ b) (h3 : c ≤ y) (h4 : y ≤ d) (h : 0 < c ∨ d < 0) : minL (divE a b c d) ≤ x / y ∧ x / y ≤ maxL (divE a b c d) := by
  have hm : ∀ z ∈ divE a b c d, minL (divE a b c d) ≤ z ∧ z ≤ maxL (divE a b c d) := fun z hz => ⟨minL_le hz, le_maxL hz⟩
  have k1 := hm (a / c) (by simp [divE])
  have k2 := hm (a / d) (by simp [divE])
  have k3 := hm (b / c) (by simp [divE])
  have k4 := hm (b / d) (by simp [divE])
  have hcd := Rat.le_trans h3 h4
  have c0 : c ≠ 0 := by intro e; rcases h with h | h <;> grind
  have d0 : d ≠ 0 := by intro e; rcases h with h | h <;> grind
  have y0 : y ≠ 0 := by intro e; rcases h with h | h <;> grind
  have e1 := Rat.mul_inv_cancel c c0
  have e2 := Rat.mul_inv_cancel d d0
  have e3 := Rat.mul_inv_cancel y y0
  have l1 := inv_le' h3 (same_pos h Rat.le_refl hcd h3 h4) e1 e3
  have l2 := inv_le' h4 (same_pos h h3 h4 hcd Rat.le_refl) e3 e2
  rw [Rat.div_def] at k1 k2 k3 k4 ⊢
  exact box_in h1 h2 l2 l1 k2 k1 k4 k3
theorem pw_nonneg {x : Rat} (h : 0 ≤ x) : ∀ n : Nat, 0 ≤ x ^ n
  | 0 => by rw [Rat.pow_zero]; decide
  | n + 1 => by rw [Rat.pow_succ]; exact Rat.mul_nonneg (pw_nonneg h n) h
theorem pw_mono {x y : Rat} (h : 0 ≤ x) (h2 : x ≤ y) : ∀ n : Nat, x ^ n ≤ y ^ n
  | 0 => by rw [Rat.pow_zero, Rat.pow_zero]; exact Rat.le_refl
  | n + 1 => by
    rw [Rat.pow_succ, Rat.pow_succ]
    have h3 := pw_mono h h2 n
    have h4 := pw_nonneg h n
    have k1 := Rat.mul_le_mul_of_nonneg_right h3 h
    have k2 := Rat.mul_le_mul_of_nonneg_left h2 (Rat.le_trans h4 h3)
    exact Rat.le_trans k1 k2
theorem pw_two (x : Rat) : ∀ k : Nat, (-x) ^ (2 * k) = x ^ (2 * k) ∧ (-x) ^ (2 * k + 1) = -(x ^ (2 * k + 1))
  | 0 => by
    refine ⟨by rw [Rat.pow_zero, Rat.pow_zero], ?_⟩
    rw [Rat.pow_succ, Rat.pow_succ, Rat.pow_zero, Rat.pow_zero]; grind
  | k + 1 => by
    obtain ⟨_, h⟩ := pw_two x k
    have e : 2 * (k + 1) = 2 * k + 1 + 1 := by omega
    have h1 : (-x) ^ (2 * k + 1 + 1) = x ^ (2 * k + 1 + 1) := by
      rw [Rat.pow_succ (-x), Rat.pow_succ x, h]; grind
    rw [e]
    refine ⟨h1, ?_⟩
    rw [Rat.pow_succ (-x), Rat.pow_succ x, h1]; grind
theorem pw_even (x : Rat) {n : Nat} (h : n % 2 = 0) : (-x) ^ n = x ^ n := by
  have e : n = 2 * (n / 2) := by omega
  rw [e]; exact (pw_two x _).1
theorem pw_odd (x : Rat) {n : Nat} (h : n % 2 = 1) : (-x) ^ n = -(x ^ n) := by
  have e : n = 2 * (n / 2) + 1 := by omega
  rw [e]; exact (pw_two x _).2
theorem pw_even_nonneg (x : Rat) {n : Nat} (h : n % 2 = 0) : 0 ≤ x ^ n := by
  by_cases hx : 0 ≤ x
  · exact pw_nonneg hx n
  · rw [← pw_even x h]; exact pw_nonneg (by grind) n
theorem pw_odd_mono {x y : Rat} (hxy : x ≤ y) {n : Nat} (h : n % 2 = 1) : x ^ n ≤ y ^ n := by
  by_cases hx : 0 ≤ x
  · exact pw_mono hx hxy n
  · have h1 := pw_nonneg (x := -x) (by grind) n
    have e1 := pw_odd x h
    by_cases hy : 0 ≤ y
    · have h2 := pw_nonneg hy n
      grind
    · have e2 := pw_odd y h
      have h3 := pw_mono (x := -y) (y := -x) (by grind) (by grind) n
      grind
theorem pow_in {a b x : Rat} (h1 : a ≤ x) (h2 : x ≤ b) (n : Nat) : (powS a b n).1 ≤ x ^ n ∧ x ^ n ≤ (powS a b n).2 := by
  have m1 : minL [a ^ n, b ^ n] ≤ a ^ n := minL_le (by simp)
  have m2 : minL [a ^ n, b ^ n] ≤ b ^ n := minL_le (by simp)
  have M1 : a ^ n ≤ maxL [a ^ n, b ^ n] := le_maxL (by simp)
  have M2 : b ^ n ≤ maxL [a ^ n, b ^ n] := le_maxL (by simp)
  have na : 0 ≤ a.num ↔ 0 ≤ a := rat_num_nonneg
  have nb : b.num ≤ 0 ↔ b ≤ 0 := rat_num_nonpos
  have hi : x ^ n ≤ a ^ n ∨ x ^ n ≤ b ^ n := by
    by_cases h : n % 2 = 0
    · by_cases hx : 0 ≤ x
      · exact .inr (pw_mono hx h2 n)
      · refine .inl ?_
        rw [← pw_even x h, ← pw_even a h]
        exact pw_mono (by grind) (by grind) n
    · exact .inr (pw_odd_mono h2 (by omega))
  refine ⟨?_, ?_⟩
  · show (if 0 < n ∧ n % 2 = 0 ∧ a.num < 0 ∧ 0 < b.num then 0 else minL [a ^ n, b ^ n]) ≤ x ^ n
    by_cases hc : 0 < n ∧ n % 2 = 0 ∧ a.num < 0 ∧ 0 < b.num
    · rw [if_pos hc]; exact pw_even_nonneg x hc.2.1
    · rw [if_neg hc]
      by_cases h : n % 2 = 0
      · by_cases h0 : n = 0
        · subst h0
          have e : x ^ 0 = a ^ 0 := by rw [Rat.pow_zero, Rat.pow_zero]
          rw [e]; exact m1
        · by_cases ha : 0 ≤ a
          · exact Rat.le_trans m1 (pw_mono ha h1 n)
          · have ha' : ¬ 0 ≤ a.num := fun e => ha (na.1 e)
            have hb : b ≤ 0 := nb.1 (by omega)
            refine Rat.le_trans m2 ?_
            rw [← pw_even x h, ← pw_even b h]
            exact pw_mono (by grind) (by grind) n
      · exact Rat.le_trans m1 (pw_odd_mono h1 (by omega))
  · show x ^ n ≤ maxL [a ^ n, b ^ n]
    rcases hi with h | h
    · exact Rat.le_trans h M1
    · exact Rat.le_trans h M2
theorem qabs_cases (x : Rat) : (0 ≤ x ∧ qabs x = x) ∨ (x < 0 ∧ qabs x = -x) := by
  have := @rat_num_nonneg x
  unfold qabs
  by_cases h : x.num < 0
  · rw [if_pos h]
    exact .inr ⟨Rat.not_le.1 fun e => by have := this.2 e; omega, rfl⟩
  · rw [if_neg h]
    exact .inl ⟨this.1 (by omega), rfl⟩
theorem abs_in {a b x : Rat} (h1 : a ≤ x) (h2 : x ≤ b) : ∃ p q, (if 0 ≤ a.num then sd a b else if b.num ≤ 0 then sd (-b) (-a) else sd 0 (maxL [-a, b])) = sd p q ∧ p ≤ qabs x ∧ qabs x ≤ q ∧
    (rl a ≤ 52 → rl b ≤ 52 → rl p ≤ 52 ∧ rl q ≤ 52) := by
  have na : 0 ≤ a.num ↔ 0 ≤ a := rat_num_nonneg
  have nb : b.num ≤ 0 ↔ b ≤ 0 := rat_num_nonpos
  have M1 : -a ≤ maxL [-a, b] := le_maxL (by simp)
  have M2 : b ≤ maxL [-a, b] := le_maxL (by simp)
  by_cases k1 : 0 ≤ a.num
  · rw [if_pos k1]
    have := na.1 k1
    refine ⟨a, b, rfl, ?_, ?_, fun h k => ⟨h, k⟩⟩ <;> (rcases qabs_cases x with ⟨_, e⟩ | ⟨_, e⟩ <;> rw [e] <;> grind)
  · rw [if_neg k1]
    by_cases k2 : b.num ≤ 0
    · rw [if_pos k2]
      have := nb.1 k2
      refine ⟨-b, -a, rfl, ?_, ?_, fun h k => ⟨by rw [rl_neg]; exact k, by rw [rl_neg]; exact h⟩⟩ <;> (rcases qabs_cases x with ⟨_, e⟩ | ⟨_, e⟩ <;> rw [e] <;> grind)
    · rw [if_neg k2]
      refine ⟨0, maxL [-a, b], rfl, ?_, ?_, fun h k => ⟨by have := rl_zero; omega, ?_⟩⟩
      · rcases qabs_cases x with ⟨_, e⟩ | ⟨_, e⟩ <;> rw [e] <;> grind
      · rcases qabs_cases x with ⟨_, e⟩ | ⟨_, e⟩ <;> rw [e] <;> grind
      · have := rl_list (l := [-a, b]) (N := 53) (by decide) (by intro x hx; simp at hx; rcases hx with rfl | rfl; (rw [rl_neg]; omega); omega) (fun c => decide (c > 0))
        show rl (chooseL _ _) ≤ 52
        omega
theorem hasB {p q x : Rat} (h1 : p ≤ x) (h2 : x ≤ q) : (decide (cmpR p x ≤ 0) && decide (cmpR x q ≤ 0)) = true := by
  rw [decide_eq_true (cmpR_le.2 h1), decide_eq_true (cmpR_le.2 h2)]; rfl
end Go.Proofs.Fl
namespace Go.Proofs.Fl
open Go.RowKit Go.Proofs.Dig
attribute [local irreducible] IntKind.wrap PureC MutC MakC IterC
set_option maxHeartbeats 4000000 in
theorem f125_ok (J : Keep) {q a b c d : Rat} (hq : rl q < 2 ^ 26) (ha : rl a < 2 ^ 20) (hb : rl b < 2 ^ 20) (hc : rl c < 2 ^ 20) (hd : rl d < 2 ^ 20) (h : q ∈ mulE a b c d) : C J 125 [qr q, sd a b, sd c d] (.bool true) := by
  refine fn_ok Tryz.func125 rfl rfl rfl ?_
  have hall : q = a * c ∨ q = a * d ∨ q = b * c ∨ q = b * d := by simpa [mulE] using h
  have r1 := rl_mul a c
  have r2 := rl_mul a d
  have r3 := rl_mul b c
  have r4 := rl_mul b d
  have m1 := mulC (J := J) (a := a) (b := c) (by omega) (by omega)
  have m2 := mulC (J := J) (a := a) (b := d) (by omega) (by omega)
  have m3 := mulC (J := J) (a := b) (b := c) (by omega) (by omega)
  have m4 := mulC (J := J) (a := b) (b := d) (by omega) (by omega)
  have c1 := cmpC (J := J) (a := a * c) (b := q) (by omega) hq
  have c2 := cmpC (J := J) (a := a * d) (b := q) (by omega) hq
  have c3 := cmpC (J := J) (a := b * c) (b := q) (by omega) hq
  have c4 := cmpC (J := J) (a := b * d) (b := q) (by omega) hq
  have e1 := @cmpR_eq (a * c) q
  have e2 := @cmpR_eq (a * d) q
  have e3 := @cmpR_eq (b * c) q
  have e4 := @cmpR_eq (b * d) q
  obtain ⟨v1, h1⟩ : ∃ v, cmpR (a * c) q = v := ⟨_, rfl⟩
  obtain ⟨v2, h2⟩ : ∃ v, cmpR (a * d) q = v := ⟨_, rfl⟩
  obtain ⟨v3, h3⟩ : ∃ v, cmpR (b * c) q = v := ⟨_, rfl⟩
  obtain ⟨v4, h4⟩ : ∃ v, cmpR (b * d) q = v := ⟨_, rfl⟩
  rw [h1] at c1 e1
  rw [h2] at c2 e2
  rw [h3] at c3 e3
  rw [h4] at c4 e4
  have hv : v1 = 0 ∨ v2 = 0 ∨ v3 = 0 ∨ v4 = 0 := by
    rcases hall with h | h | h | h
    · exact .inl (e1.2 h.symm)
    · exact .inr (.inl (e2.2 h.symm))
    · exact .inr (.inr (.inl (e3.2 h.symm)))
    · exact .inr (.inr (.inr (e4.2 h.symm)))
  clear e1 e2 e3 e4 h1 h2 h3 h4 r1 r2 r3 r4 hall h hq ha hb hc hd
  repeat (first | (refine W.RS (by kernel_rfl) ?_; conv => whnf) | (refine W.S ?_) | (refine W.block ?_) | (refine ⟨_, castA _, ?_⟩; conv => whnf))
  refine W.loop (G := { k : Nat // k = 0 ∨ k = 1 ∧ ¬ v1 = 0 ∧ ¬ v2 = 0 }) (fun k => mkA [(3, .ptr 0 0), (4, .ptr 1 0), (5, .ptr 2 0), (15, .ref 3 0 2 true), (16, .iv (.int .i64 2)), (17, .iv (.int .i64 (k.1 : Nat)))] [(0, .var (qr q)), (1, .var (sd a b)), (2, .var (sd c d)), (3, .arr 29 3 [qr a, qr b] false)] 40) (fun k => 2 - k.1) ⟨0, .inl rfl⟩
    (Wk.tab [(3, 8)] ⟨⟨rfl, rfl⟩, ⟨rfl, rfl⟩, ⟨rfl, rfl⟩, ⟨rfl, rfl⟩, ⟨rfl, rfl⟩, ⟨rfl, rfl⟩, trivial⟩ (show boxesW _ _ [(0, _), (1, _), (2, _), (3, _)] from ⟨rfl, rfl, rfl, rfl, trivial⟩) rfl) ?_
  rintro ⟨k, hk⟩
  rcases hk with rfl | ⟨rfl, n1, n2⟩
  · show W J _ _ (mkA [(3, .ptr 0 0), (4, .ptr 1 0), (5, .ptr 2 0), (15, .ref 3 0 2 true), (16, .iv (.int .i64 2)), (17, .iv (.int .i64 ((0 : Nat) : Int)))] [(0, .var (qr q)), (1, .var (sd a b)), (2, .var (sd c d)), (3, .arr 29 3 [qr a, qr b] false)] 40) _
    repeat (first | (refine W.RS (by kernel_rfl) ?_; conv => whnf) | (refine W.S ?_) | (refine W.block ?_) | (refine W.skip ?_; conv => whnf) | (refine W.condT rfl ?_) | (refine ⟨_, castA _, ?_⟩; conv => whnf) | (refine ⟨(rfl : (_ : Nat) = _), _, rfl, by omega, ?_⟩; conv => whnf) | (refine ⟨true, decide_eq_true (by omega), ?_⟩; conv => whnf) | (refine ⟨_, rfl, ?_⟩; conv => whnf) | (refine ⟨rfl, ?_⟩; conv => whnf))
    refine W.loop (G := { m : Nat // m = 0 ∨ m = 1 ∧ ¬ v1 = 0 ∨ m = 2 ∧ ¬ v1 = 0 ∧ ¬ v2 = 0 }) (fun m => mkA [(3, .ptr 0 0), (4, .ptr 1 0), (5, .ptr 2 0), (8, .ptr 4 0), (15, .ref 3 0 2 true), (16, .iv (.int .i64 2)), (17, .iv (.int .i64 ((0 : Nat) : Int))), (25, .ref 5 0 2 true), (26, .iv (.int .i64 2)), (27, .iv (.int .i64 (m.1 : Nat)))] [(0, .var (qr q)), (1, .var (sd a b)), (2, .var (sd c d)), (3, .arr 29 3 [qr a, qr b] false), (4, .var (qr a)), (5, .arr 29 3 [qr c, qr d] false)] 60) (fun m => 2 - m.1) ⟨0, .inl rfl⟩
      (Wk.tab [(4, 43), (5, 49)] ⟨⟨rfl, rfl⟩, ⟨rfl, rfl⟩, ⟨rfl, rfl⟩, ⟨rfl, rfl⟩, ⟨rfl, rfl⟩, ⟨rfl, rfl⟩, ⟨rfl, rfl⟩, ⟨rfl, rfl⟩, ⟨rfl, rfl⟩, ⟨rfl, rfl⟩, trivial⟩ (show boxesW _ _ [(0, _), (1, _), (2, _), (3, _), (4, _), (5, _)] from ⟨rfl, rfl, rfl, rfl, rfl, rfl, trivial⟩) rfl) ?_
    rintro ⟨m, hm⟩
    rcases hm with rfl | ⟨rfl, n3⟩ | ⟨rfl, n3, n4⟩
    · show W J _ _ (mkA [(3, .ptr 0 0), (4, .ptr 1 0), (5, .ptr 2 0), (8, .ptr 4 0), (15, .ref 3 0 2 true), (16, .iv (.int .i64 2)), (17, .iv (.int .i64 ((0 : Nat) : Int))), (25, .ref 5 0 2 true), (26, .iv (.int .i64 2)), (27, .iv (.int .i64 ((0 : Nat) : Int)))] [(0, .var (qr q)), (1, .var (sd a b)), (2, .var (sd c d)), (3, .arr 29 3 [qr a, qr b] false), (4, .var (qr a)), (5, .arr 29 3 [qr c, qr d] false)] 60) _
      by_cases hz : v1 = 0
      · repeat (first | (refine W.RS (by kernel_rfl) ?_; conv => whnf) | (refine W.S ?_) | (refine W.block ?_) | (refine W.ret ?_; conv => whnf) | (refine W.skip ?_; conv => whnf) | (refine W.condT rfl ?_) | (refine ⟨_, m1, ?_⟩; conv => whnf) | (refine ⟨_, c1, ?_⟩; conv => whnf) | (refine ⟨(rfl : (_ : Nat) = _), _, rfl, by omega, ?_⟩; conv => whnf) | (refine ⟨true, decide_eq_true (by omega), ?_⟩; conv => whnf) | (refine ⟨_, rfl, ?_⟩; conv => whnf) | (refine ⟨rfl, ?_⟩; conv => whnf))
        rfl
      · repeat (first | (refine W.RS (by kernel_rfl) ?_; conv => whnf) | (refine W.R (by kernel_rfl) ?_; conv => whnf) | (refine W.S ?_) | (refine W.block ?_) | (refine W.skip ?_; conv => whnf) | (refine W.condF rfl ?_) | (refine W.condT rfl ?_) | (refine ⟨_, m1, ?_⟩; conv => whnf) | (refine ⟨_, c1, ?_⟩; conv => whnf) | (refine ⟨rfl, _, w64 (by omega), ?_⟩; conv => whnf) | (refine ⟨(rfl : (_ : Nat) = _), _, rfl, by omega, ?_⟩; conv => whnf) | (refine ⟨true, decide_eq_true (by omega), ?_⟩; conv => whnf) | (refine ⟨false, decide_eq_false (by omega), ?_⟩; conv => whnf) | (refine ⟨_, rfl, ?_⟩; conv => whnf) | (refine ⟨rfl, ?_⟩; conv => whnf))
        exact ⟨⟨1, .inr (.inl ⟨rfl, hz⟩)⟩, Wk.tab [] ⟨⟨rfl, rfl⟩, ⟨rfl, rfl⟩, ⟨rfl, rfl⟩, ⟨rfl, rfl⟩, ⟨rfl, rfl⟩, ⟨rfl, rfl⟩, ⟨rfl, rfl⟩, ⟨rfl, rfl⟩, ⟨rfl, rfl⟩, ⟨rfl, rfl⟩, trivial⟩ (show boxesW _ _ [(0, _), (1, _), (2, _), (3, _), (4, _), (5, _)] from ⟨rfl, rfl, rfl, rfl, rfl, rfl, trivial⟩) rfl, by dsimp only; omega⟩
    · show W J _ _ (mkA [(3, .ptr 0 0), (4, .ptr 1 0), (5, .ptr 2 0), (8, .ptr 4 0), (15, .ref 3 0 2 true), (16, .iv (.int .i64 2)), (17, .iv (.int .i64 ((0 : Nat) : Int))), (25, .ref 5 0 2 true), (26, .iv (.int .i64 2)), (27, .iv (.int .i64 ((1 : Nat) : Int)))] [(0, .var (qr q)), (1, .var (sd a b)), (2, .var (sd c d)), (3, .arr 29 3 [qr a, qr b] false), (4, .var (qr a)), (5, .arr 29 3 [qr c, qr d] false)] 60) _
      by_cases hz : v2 = 0
      · repeat (first | (refine W.RS (by kernel_rfl) ?_; conv => whnf) | (refine W.S ?_) | (refine W.block ?_) | (refine W.ret ?_; conv => whnf) | (refine W.skip ?_; conv => whnf) | (refine W.condT rfl ?_) | (refine ⟨_, m2, ?_⟩; conv => whnf) | (refine ⟨_, c2, ?_⟩; conv => whnf) | (refine ⟨rfl, _, castA _, ?_⟩; conv => whnf) | (refine ⟨true, decide_eq_true (by omega), ?_⟩; conv => whnf) | (refine ⟨_, rfl, ?_⟩; conv => whnf) | (refine ⟨rfl, ?_⟩; conv => whnf) | (refine And.intro (by omega) ?_; conv => whnf))
        rfl
      · repeat (first | (refine W.RS (by kernel_rfl) ?_; conv => whnf) | (refine W.R (by kernel_rfl) ?_; conv => whnf) | (refine W.S ?_) | (refine W.block ?_) | (refine W.skip ?_; conv => whnf) | (refine W.condF rfl ?_) | (refine W.condT rfl ?_) | (refine ⟨_, m2, ?_⟩; conv => whnf) | (refine ⟨_, c2, ?_⟩; conv => whnf) | (refine ⟨rfl, _, w64 (by omega), ?_⟩; conv => whnf) | (refine ⟨rfl, _, castA _, ?_⟩; conv => whnf) | (refine ⟨true, decide_eq_true (by omega), ?_⟩; conv => whnf) | (refine ⟨false, decide_eq_false (by omega), ?_⟩; conv => whnf) | (refine ⟨_, rfl, ?_⟩; conv => whnf) | (refine ⟨rfl, ?_⟩; conv => whnf) | (refine And.intro (by omega) ?_; conv => whnf))
        exact ⟨⟨2, .inr (.inr ⟨rfl, n3, hz⟩)⟩, Wk.tab [] ⟨⟨rfl, rfl⟩, ⟨rfl, rfl⟩, ⟨rfl, rfl⟩, ⟨rfl, rfl⟩, ⟨rfl, rfl⟩, ⟨rfl, rfl⟩, ⟨rfl, rfl⟩, ⟨rfl, rfl⟩, ⟨rfl, rfl⟩, ⟨rfl, rfl⟩, trivial⟩ (show boxesW _ _ [(0, _), (1, _), (2, _), (3, _), (4, _), (5, _)] from ⟨rfl, rfl, rfl, rfl, rfl, rfl, trivial⟩) rfl, by dsimp only; omega⟩
    · show W J _ _ (mkA [(3, .ptr 0 0), (4, .ptr 1 0), (5, .ptr 2 0), (8, .ptr 4 0), (15, .ref 3 0 2 true), (16, .iv (.int .i64 2)), (17, .iv (.int .i64 ((0 : Nat) : Int))), (25, .ref 5 0 2 true), (26, .iv (.int .i64 2)), (27, .iv (.int .i64 ((2 : Nat) : Int)))] [(0, .var (qr q)), (1, .var (sd a b)), (2, .var (sd c d)), (3, .arr 29 3 [qr a, qr b] false), (4, .var (qr a)), (5, .arr 29 3 [qr c, qr d] false)] 60) _
      repeat (first | (refine W.RS (by kernel_rfl) ?_; conv => whnf) | (refine W.R (by kernel_rfl) ?_; conv => whnf) | (refine W.S ?_) | (refine W.exit ?_; conv => whnf) | (refine W.condF rfl ?_) | (refine ⟨rfl, _, w64 (by omega), ?_⟩; conv => whnf) | (refine ⟨false, decide_eq_false (by omega), ?_⟩; conv => whnf) | (refine ⟨rfl, ?_⟩; conv => whnf))
      exact ⟨⟨1, .inr ⟨rfl, n3, n4⟩⟩, Wk.tab [] ⟨⟨rfl, rfl⟩, ⟨rfl, rfl⟩, ⟨rfl, rfl⟩, ⟨rfl, rfl⟩, ⟨rfl, rfl⟩, ⟨rfl, rfl⟩, trivial⟩ (show boxesW _ _ [(0, _), (1, _), (2, _), (3, _)] from ⟨rfl, rfl, rfl, rfl, trivial⟩) rfl, by dsimp only; omega⟩
  · show W J _ _ (mkA [(3, .ptr 0 0), (4, .ptr 1 0), (5, .ptr 2 0), (15, .ref 3 0 2 true), (16, .iv (.int .i64 2)), (17, .iv (.int .i64 ((1 : Nat) : Int)))] [(0, .var (qr q)), (1, .var (sd a b)), (2, .var (sd c d)), (3, .arr 29 3 [qr a, qr b] false)] 40) _
    repeat (first | (refine W.RS (by kernel_rfl) ?_; conv => whnf) | (refine W.S ?_) | (refine W.block ?_) | (refine W.skip ?_; conv => whnf) | (refine W.condT rfl ?_) | (refine ⟨rfl, _, castA _, ?_⟩; conv => whnf) | (refine ⟨_, castA _, ?_⟩; conv => whnf) | (refine ⟨true, decide_eq_true (by omega), ?_⟩; conv => whnf) | (refine ⟨_, rfl, ?_⟩; conv => whnf) | (refine ⟨rfl, ?_⟩; conv => whnf) | (refine And.intro (by omega) ?_; conv => whnf))
    refine W.loop (G := { m : Nat // m = 0 ∨ m = 1 ∧ ¬ v3 = 0 ∨ m = 2 ∧ ¬ v3 = 0 ∧ ¬ v4 = 0 }) (fun m => mkA [(3, .ptr 0 0), (4, .ptr 1 0), (5, .ptr 2 0), (8, .ptr 4 0), (15, .ref 3 0 2 true), (16, .iv (.int .i64 2)), (17, .iv (.int .i64 ((1 : Nat) : Int))), (25, .ref 5 0 2 true), (26, .iv (.int .i64 2)), (27, .iv (.int .i64 (m.1 : Nat)))] [(0, .var (qr q)), (1, .var (sd a b)), (2, .var (sd c d)), (3, .arr 29 3 [qr a, qr b] false), (4, .var (qr b)), (5, .arr 29 3 [qr c, qr d] false)] 60) (fun m => 2 - m.1) ⟨0, .inl rfl⟩
      (Wk.tab [(4, 43), (5, 49)] ⟨⟨rfl, rfl⟩, ⟨rfl, rfl⟩, ⟨rfl, rfl⟩, ⟨rfl, rfl⟩, ⟨rfl, rfl⟩, ⟨rfl, rfl⟩, ⟨rfl, rfl⟩, ⟨rfl, rfl⟩, ⟨rfl, rfl⟩, ⟨rfl, rfl⟩, trivial⟩ (show boxesW _ _ [(0, _), (1, _), (2, _), (3, _), (4, _), (5, _)] from ⟨rfl, rfl, rfl, rfl, rfl, rfl, trivial⟩) rfl) ?_
    rintro ⟨m, hm⟩
    rcases hm with rfl | ⟨rfl, n3⟩ | ⟨rfl, n3, n4⟩
    · show W J _ _ (mkA [(3, .ptr 0 0), (4, .ptr 1 0), (5, .ptr 2 0), (8, .ptr 4 0), (15, .ref 3 0 2 true), (16, .iv (.int .i64 2)), (17, .iv (.int .i64 ((1 : Nat) : Int))), (25, .ref 5 0 2 true), (26, .iv (.int .i64 2)), (27, .iv (.int .i64 ((0 : Nat) : Int)))] [(0, .var (qr q)), (1, .var (sd a b)), (2, .var (sd c d)), (3, .arr 29 3 [qr a, qr b] false), (4, .var (qr b)), (5, .arr 29 3 [qr c, qr d] false)] 60) _
      by_cases hz : v3 = 0
      · repeat (first | (refine W.RS (by kernel_rfl) ?_; conv => whnf) | (refine W.S ?_) | (refine W.block ?_) | (refine W.ret ?_; conv => whnf) | (refine W.skip ?_; conv => whnf) | (refine W.condT rfl ?_) | (refine ⟨_, m3, ?_⟩; conv => whnf) | (refine ⟨_, c3, ?_⟩; conv => whnf) | (refine ⟨(rfl : (_ : Nat) = _), _, rfl, by omega, ?_⟩; conv => whnf) | (refine ⟨true, decide_eq_true (by omega), ?_⟩; conv => whnf) | (refine ⟨_, rfl, ?_⟩; conv => whnf) | (refine ⟨rfl, ?_⟩; conv => whnf))
        rfl
      · repeat (first | (refine W.RS (by kernel_rfl) ?_; conv => whnf) | (refine W.R (by kernel_rfl) ?_; conv => whnf) | (refine W.S ?_) | (refine W.block ?_) | (refine W.skip ?_; conv => whnf) | (refine W.condF rfl ?_) | (refine W.condT rfl ?_) | (refine ⟨_, m3, ?_⟩; conv => whnf) | (refine ⟨_, c3, ?_⟩; conv => whnf) | (refine ⟨rfl, _, w64 (by omega), ?_⟩; conv => whnf) | (refine ⟨(rfl : (_ : Nat) = _), _, rfl, by omega, ?_⟩; conv => whnf) | (refine ⟨true, decide_eq_true (by omega), ?_⟩; conv => whnf) | (refine ⟨false, decide_eq_false (by omega), ?_⟩; conv => whnf) | (refine ⟨_, rfl, ?_⟩; conv => whnf) | (refine ⟨rfl, ?_⟩; conv => whnf))
        exact ⟨⟨1, .inr (.inl ⟨rfl, hz⟩)⟩, Wk.tab [] ⟨⟨rfl, rfl⟩, ⟨rfl, rfl⟩, ⟨rfl, rfl⟩, ⟨rfl, rfl⟩, ⟨rfl, rfl⟩, ⟨rfl, rfl⟩, ⟨rfl, rfl⟩, ⟨rfl, rfl⟩, ⟨rfl, rfl⟩, ⟨rfl, rfl⟩, trivial⟩ (show boxesW _ _ [(0, _), (1, _), (2, _), (3, _), (4, _), (5, _)] from ⟨rfl, rfl, rfl, rfl, rfl, rfl, trivial⟩) rfl, by dsimp only; omega⟩
    · show W J _ _ (mkA [(3, .ptr 0 0), (4, .ptr 1 0), (5, .ptr 2 0), (8, .ptr 4 0), (15, .ref 3 0 2 true), (16, .iv (.int .i64 2)), (17, .iv (.int .i64 ((1 : Nat) : Int))), (25, .ref 5 0 2 true), (26, .iv (.int .i64 2)), (27, .iv (.int .i64 ((1 : Nat) : Int)))] [(0, .var (qr q)), (1, .var (sd a b)), (2, .var (sd c d)), (3, .arr 29 3 [qr a, qr b] false), (4, .var (qr b)), (5, .arr 29 3 [qr c, qr d] false)] 60) _
      by_cases hz : v4 = 0
      · repeat (first | (refine W.RS (by kernel_rfl) ?_; conv => whnf) | (refine W.S ?_) | (refine W.block ?_) | (refine W.ret ?_; conv => whnf) | (refine W.skip ?_; conv => whnf) | (refine W.condT rfl ?_) | (refine ⟨_, m4, ?_⟩; conv => whnf) | (refine ⟨_, c4, ?_⟩; conv => whnf) | (refine ⟨rfl, _, castA _, ?_⟩; conv => whnf) | (refine ⟨true, decide_eq_true (by omega), ?_⟩; conv => whnf) | (refine ⟨_, rfl, ?_⟩; conv => whnf) | (refine ⟨rfl, ?_⟩; conv => whnf) | (refine And.intro (by omega) ?_; conv => whnf))
        rfl
      · exfalso; omega
    · show W J _ _ (mkA [(3, .ptr 0 0), (4, .ptr 1 0), (5, .ptr 2 0), (8, .ptr 4 0), (15, .ref 3 0 2 true), (16, .iv (.int .i64 2)), (17, .iv (.int .i64 ((1 : Nat) : Int))), (25, .ref 5 0 2 true), (26, .iv (.int .i64 2)), (27, .iv (.int .i64 ((2 : Nat) : Int)))] [(0, .var (qr q)), (1, .var (sd a b)), (2, .var (sd c d)), (3, .arr 29 3 [qr a, qr b] false), (4, .var (qr b)), (5, .arr 29 3 [qr c, qr d] false)] 60) _
      omega
end Go.Proofs.Fl
namespace Go.Proofs.Fl
open Go.RowKit Go.Proofs.Dig
attribute [local irreducible] IntKind.wrap PureC MutC MakC IterC
def powE30 (p : Int) : Int := if p > 30 then p.tmod 30 else p
theorem add_in {a b c d u v : Rat} (h1 : a ≤ u) (h2 : u ≤ b) (h3 : c ≤ v) (h4 : v ≤ d) : a + c ≤ u + v ∧ u + v ≤ b + d := by constructor <;> grind
theorem sub_in {a b c d u v : Rat} (h1 : a ≤ u) (h2 : u ≤ b) (h3 : c ≤ v) (h4 : v ≤ d) : a - d ≤ u - v ∧ u - v ≤ b - c := by constructor <;> grind
theorem two_in {a b c d u : Rat} (h1 : a ≤ u) (h2 : u ≤ b) : minL [a, c] ≤ u ∧ u ≤ maxL [b, d] := ⟨Rat.le_trans (minL_le (by simp)) h1, Rat.le_trans h2 (le_maxL (by simp))⟩
theorem two_in' {a b c d u : Rat} (h1 : c ≤ u) (h2 : u ≤ d) : minL [a, c] ≤ u ∧ u ≤ maxL [b, d] := ⟨Rat.le_trans (minL_le (by simp)) h1, Rat.le_trans h2 (le_maxL (by simp))⟩
theorem hasC {J : Keep} {p q x : Rat} (hp : rl p < 2 ^ 30) (hq : rl q < 2 ^ 30) (hx : rl x < 2 ^ 30) (h : p ≤ x ∧ x ≤ q) : C J 30 [sd p q, qr x] (.bool true) := by
  have c := f30_ok (J := J) (a := p) (b := q) (q := x) (by have := qr_lt hp; omega) (by have := qr_lt hq; omega) (by have := qr_lt hx; omega)
  rw [hasB h.1 h.2] at c
  exact c
theorem enc_reg {J : Keep} {a b c d z u v : Rat} (ra : rl a ≤ 52) (rb : rl b ≤ 52) (rc : rl c ≤ 52) (rd : rl d ≤ 52) (rz : rl z ≤ 52) (ru : rl u ≤ 2000) (rv : rl v ≤ 2000) (h1 : a ≤ u) (h2 : u ≤ b) (h3 : c ≤ v) (h4 : v ≤ d) (w : Int) :
    (C J 96 [sd a b, sd c d] (sd (a + c) (b + d)) ∧ C J 48 [qr u, qr v] (qr (u + v)) ∧ C J 30 [sd (a + c) (b + d), qr (u + v)] (.bool true)) ∧
    (C J 98 [sd a b, sd c d] (sd (a - d) (b - c)) ∧ C J 50 [qr u, qr v] (qr (u - v)) ∧ C J 30 [sd (a - d) (b - c), qr (u - v)] (.bool true)) ∧
    (C J 100 [sd a b, sd c d] (sd (minL (mulE a b c d)) (maxL (mulE a b c d))) ∧ C J 49 [qr u, qr v] (qr (u * v)) ∧ C J 30 [sd (minL (mulE a b c d)) (maxL (mulE a b c d)), qr (u * v)] (.bool true)) ∧
    (C J 102 [sd a b] (sd (-b) (-a)) ∧ C J 66 [qr u] (qr (-u)) ∧ C J 30 [sd (-b) (-a), qr (-u)] (.bool true)) ∧
    (∃ p q, C J 117 [sd a b] (sd p q) ∧ C J 54 [qr u] (qr (qabs u)) ∧ C J 30 [sd p q, qr (qabs u)] (.bool true)) ∧
    (C J 104 [sd a b, qr z] (sd (minL [a * z, b * z]) (maxL [a * z, b * z])) ∧ C J 49 [qr u, qr z] (qr (u * z)) ∧ C J 30 [sd (minL [a * z, b * z]) (maxL [a * z, b * z]), qr (u * z)] (.bool true)) ∧
    (∃ p q t, C J 119 [sd a b, .int .i64 w] (sd p q) ∧ C J 51 [qr u, .int .i64 w] (qr t) ∧ C J 30 [sd p q, qr t] (.bool true)) ∧
    (C J 109 [sd a b, sd c d] (sd (minL [a, c]) (maxL [b, d])) ∧ C J 30 [sd (minL [a, c]) (maxL [b, d]), qr u] (.bool true) ∧ C J 30 [sd (minL [a, c]) (maxL [b, d]), qr v] (.bool true)) ∧
    (∃ p q, C J 111 [sd a b, .int .i64 w] (sd p q) ∧ C J 30 [sd p q, qr u] (.bool true)) := by
  have qa := qln_rl a
  have qb := qln_rl b
  have qc := qln_rl c
  have qd := qln_rl d
  have qz := qln_rl z
  have s1 := rl_add a c
  have s2 := rl_add b d
  have s3 := rl_sub a d
  have s4 := rl_sub b c
  have s5 : rl (minL (mulE a b c d)) < 200 := rl_list (by decide) (rl_mulE ra rb rc rd) _
  have s6 : rl (maxL (mulE a b c d)) < 200 := rl_list (by decide) (rl_mulE ra rb rc rd) _
  have s7 := rl_mul a z
  have s8 := rl_mul b z
  have s9 : rl (minL [a * z, b * z]) < 200 := rl_two (by decide) (by omega) (by omega) _
  have s10 : rl (maxL [a * z, b * z]) < 200 := rl_two (by decide) (by omega) (by omega) _
  have t1 := rl_add u v
  have t2 := rl_sub u v
  have t3 := rl_mul u v
  have t4 := rl_mul u z
  have t5 : rl (minL [a, c]) < 53 := rl_two (by decide) (by omega) (by omega) _
  have t6 : rl (maxL [b, d]) < 53 := rl_two (by decide) (by omega) (by omega) _
  refine ⟨⟨f96_ok (base J) (by omega) (by omega) (by omega) (by omega), addC (by omega) (by omega), hasC (by omega) (by omega) (by omega) (add_in h1 h2 h3 h4)⟩,
    ⟨f98_ok (base J) (by omega) (by omega) (by omega) (by omega), subC (by omega) (by omega), hasC (by omega) (by omega) (by omega) (sub_in h1 h2 h3 h4)⟩,
    ⟨f100_ok (base J) (by omega) (by omega) (by omega) (by omega), mulC (by omega) (by omega), hasC (by omega) (by omega) (by omega) (mul_in h1 h2 h3 h4)⟩,
    ⟨f102_ok J a b, f66_ok J u, hasC (by rw [rl_neg]; omega) (by rw [rl_neg]; omega) (by rw [rl_neg]; omega) ⟨by grind, by grind⟩⟩, ?_,
    ⟨f104_ok (base J) (by omega) (by omega) (by omega), mulC (by omega) (by omega), hasC (by omega) (by omega) (by omega) (scale_in h1 h2)⟩, ?_,
    ⟨f109_ok (by omega) (by omega) (by omega) (by omega), hasC (by omega) (by omega) (by omega) (two_in h1 h2), hasC (by omega) (by omega) (by omega) (two_in' h3 h4)⟩, ?_⟩
  · obtain ⟨p, q, e, k1, k2, k3⟩ := abs_in h1 h2
    obtain ⟨k4, k5⟩ := k3 ra rb
    have c6 := f117_ok (J := J) (a := a) (b := b) (by omega) (by omega)
    rw [e] at c6
    exact ⟨p, q, c6, absC u, hasC (by omega) (by omega) (by rw [rl_qabs]; omega) ⟨k1, k2⟩⟩
  · have hn : intoN w 1000 ≤ 1000 := by unfold intoN; omega
    obtain ⟨l1, l2⟩ := rl_powS ra rb hn
    have l3 := rl_pow u (intoN w 1000)
    have l4 := Nat.mul_le_mul hn ru
    exact ⟨_, _, _, f119_ok (by omega) (by omega) w, powC (by omega) w, hasC (by omega) (by omega) (by omega) (pow_in h1 h2 _)⟩
  · have l1 := rl_dnK a w
    have l2 := rl_upK b w
    have c := f111_ok (base J) (a := a) (b := b) (by omega) (by omega) w
    rw [← upK_eq] at c
    exact ⟨_, _, c, hasC (p := dnK a w) (q := upK b w) (by omega) (by omega) (by omega) ⟨Rat.le_trans (dnG_le (Gk_pos w) (Gk_fk w) a) h1, Rat.le_trans h2 (le_upG (Gk_pos w) (Gk_fk w) b)⟩⟩
theorem enc_div {J : Keep} {a b c d u v : Rat} (ra : rl a ≤ 52) (rb : rl b ≤ 52) (rc : rl c ≤ 52) (rd : rl d ≤ 52) (ru : rl u ≤ 2000) (rv : rl v ≤ 2000) (h1 : a ≤ u) (h2 : u ≤ b) (h3 : c ≤ v) (h4 : v ≤ d) :
    ∃ p q r e f, C J 115 [sd a b, sd c d] (.tup [sd p q, .int .i64 e]) ∧ C J 52 [qr u, qr v] (.tup [qr r, .int .i64 f]) ∧ ((e = 0 ∧ f = 0 ∧ C J 30 [sd p q, qr r] (.bool true)) ∨ (e = 9 ∧ C J 30 [sd c d, .agg [.sl [], .bool false, .sl []]] (.bool true))) := by
  have qa := qln_rl a
  have qb := qln_rl b
  have qc := qln_rl c
  have qd := qln_rl d
  have c1 := f115_ok (base J) (a := a) (b := b) (c := c) (d := d) (by omega) (by omega) (by omega) (by omega)
  obtain ⟨p, q, e, hdv, hcs⟩ := divR_form a b c d
  rw [hdv] at c1
  have hab := Rat.le_trans h1 h2
  have hcd := Rat.le_trans h3 h4
  have c3 := f30_ok (J := J) (a := c) (b := d) (q := 0) (by omega) (by omega) (by have := qln_zero; omega)
  rw [dg_zero_qr] at c3
  rcases hcs with ⟨_, _, _, hn⟩ | ⟨he, hp, hq, _, _, k1, k2⟩ | ⟨he, hp, hq, _, _, hn⟩
  · rcases hn with hn | hn
    · exact absurd (cmpR_le.2 hab) hn
    · exact absurd (cmpR_le.2 hcd) hn
  · rw [decide_eq_true k1, decide_eq_true k2] at c3
    by_cases hv : v = 0
    · subst hv
      exact ⟨p, q, 0, e, 9, c1, f52_zero J u, .inr ⟨he, c3⟩⟩
    · exact ⟨p, q, u / v, e, 0, c1, divC (by omega) (by omega) hv, .inr ⟨he, c3⟩⟩
  · have hsg : 0 < c ∨ d < 0 := by
      by_cases k : 0 < c
      · exact .inl k
      · refine .inr (Rat.not_le.1 fun k2 => hn ⟨cmpR_le.2 (Rat.not_lt.1 k), cmpR_le.2 k2⟩)
    have hv : v ≠ 0 := by intro e; rcases hsg with h | h <;> grind
    have s1 : rl (minL (divE a b c d)) < 200 := rl_list (by decide) (rl_divE ra rb rc rd) _
    have s2 : rl (maxL (divE a b c d)) < 200 := rl_list (by decide) (rl_divE ra rb rc rd) _
    have s3 := rl_div u v
    refine ⟨p, q, u / v, e, 0, c1, divC (by omega) (by omega) hv, .inl ⟨he, rfl, ?_⟩⟩
    rw [hp, hq]
    exact hasC (by omega) (by omega) (by omega) (div_in h1 h2 h3 h4 hsg)
theorem enc_meet {J : Keep} {a b c d v : Rat} (ra : rl a ≤ 52) (rb : rl b ≤ 52) (rc : rl c ≤ 52) (rd : rl d ≤ 52) (rv : rl v ≤ 2000) (h3 : c ≤ v) (h4 : v ≤ d) :
    ∃ m1 m2 im B, C J 106 [sd a b, sd c d] (.tup [sd m1 m2, .bool im]) ∧ C J 30 [sd a b, qr v] (.bool B) ∧ ((im = true ∧ C J 53 [sd m1 m2, sd a b] (.bool true) ∧ C J 53 [sd m1 m2, sd c d] (.bool true) ∧ (B = true → C J 30 [sd m1 m2, qr v] (.bool true))) ∨ (im = false ∧ B = false)) := by
  have qa := qln_rl a
  have qb := qln_rl b
  have qc := qln_rl c
  have qd := qln_rl d
  have qv := qln_rl v
  have c1 := f106_ok (J := J) (a := a) (b := b) (c := c) (d := d) (by omega) (by omega) (by omega) (by omega)
  have c2 := f30_ok (J := J) (a := a) (b := b) (q := v) (by omega) (by omega) (by omega)
  have M1 : a ≤ maxL [a, c] := le_maxL (by simp)
  have M2 : c ≤ maxL [a, c] := le_maxL (by simp)
  have N1 : minL [b, d] ≤ b := minL_le (by simp)
  have N2 : minL [b, d] ≤ d := minL_le (by simp)
  have t5 : rl (maxL [a, c]) < 53 := rl_two (by decide) (by omega) (by omega) _
  have t6 : rl (minL [b, d]) < 53 := rl_two (by decide) (by omega) (by omega) _
  have hin : (decide (cmpR a v ≤ 0) && decide (cmpR v b ≤ 0)) = true → maxL [a, c] ≤ v ∧ v ≤ minL [b, d] := fun h => by
    simp only [Bool.and_eq_true, decide_eq_true_eq] at h
    have k1 := cmpR_le.1 h.1
    have k2 := cmpR_le.1 h.2
    have m1 : maxL [a, c] ∈ [a, c] := maxL_mem (by simp)
    have m2 : minL [b, d] ∈ [b, d] := minL_mem (by simp)
    simp only [List.mem_cons, List.not_mem_nil, or_false] at m1 m2
    constructor
    · rcases m1 with m | m <;> rw [m] <;> assumption
    · rcases m2 with m | m <;> rw [m] <;> assumption
  by_cases hm : cmpR (maxL [a, c]) (minL [b, d]) ≤ 0
  · rw [if_pos hm] at c1
    exact ⟨_, _, _, _, c1, c2, .inl ⟨rfl, f53_t (by omega) (by omega) (by omega) (by omega) M1 N1, f53_t (by omega) (by omega) (by omega) (by omega) M2 N2, fun hB => hasC (by omega) (by omega) (by omega) (hin hB)⟩⟩
  · rw [if_neg hm] at c1
    refine ⟨_, _, _, _, c1, c2, .inr ⟨rfl, ?_⟩⟩
    rw [Bool.eq_false_iff]
    intro hB
    obtain ⟨k1, k2⟩ := hin hB
    exact hm (cmpR_le.2 (Rat.le_trans k1 k2))
set_option maxRecDepth 20000 in
set_option maxHeartbeats 16000000 in
theorem f18_ok {J : Keep} (L : LibI J) {x y : Gap6} (hx : x.ok) (hy : y.ok) {i j : Nat} {zz : Num3} (hz : zz.ok) {k : Int} : C J 18 [x.iv, y.iv, .int .u8 (i : Int), .int .u8 (j : Int), zz.iv, .int .i64 k] (.bool true) := by
  have cx := f24_ok J hx
  have cy := f24_ok J hy
  have cz := bothC J hz
  have ra := bothL hx.1
  have rb := bothL hx.2
  have rc := bothL hy.1
  have rd := bothL hy.2
  have rz := bothL hz
  obtain ⟨a, ha⟩ : ∃ a, x.lo.q = a := ⟨_, rfl⟩
  obtain ⟨b, hb⟩ : ∃ b, x.hi.q = b := ⟨_, rfl⟩
  obtain ⟨c, hc⟩ : ∃ c, y.lo.q = c := ⟨_, rfl⟩
  obtain ⟨d, hd⟩ : ∃ d, y.hi.q = d := ⟨_, rfl⟩
  obtain ⟨z, hzz⟩ : ∃ d, zz.q = d := ⟨_, rfl⟩
  rw [ha, hb] at cx
  rw [hc, hd] at cy
  rw [hzz] at cz rz
  rw [ha] at ra
  rw [hb] at rb
  rw [hc] at rc
  rw [hd] at rd
  have qa := qln_rl a
  have qb := qln_rl b
  have qc := qln_rl c
  have qd := qln_rl d
  have aw := f19_ok L
  have v1 := f55_ok (J := J) (a := a) (b := b) (by omega) (by omega)
  have v2 := f55_ok (J := J) (a := c) (b := d) (by omega) (by omega)
  refine fn_ok Tryz.func18 rfl rfl rfl ?_
  by_cases hab : a ≤ b
  · rw [decide_eq_true (cmpR_le.2 hab)] at v1
    by_cases hcd : c ≤ d
    · rw [decide_eq_true (cmpR_le.2 hcd)] at v2
      obtain ⟨w, hw⟩ : ∃ w, powE30 k = w := ⟨_, rfl⟩
      unfold powE30 at hw
      obtain ⟨kr, hkr⟩ : ∃ r, k.tmod 30 = r := ⟨_, rfl⟩
      rw [hkr] at hw
      have cu := f56_ok J ra rb i
      have cv := f56_ok J rc rd j
      obtain ⟨u1, u2⟩ := wiQ_in hab i
      obtain ⟨w1, w2⟩ := wiQ_in hcd j
      have ru := rl_wiQ ra rb i
      have rv := rl_wiQ rc rd j
      obtain ⟨u, hu⟩ : ∃ q, wiQ a b i = q := ⟨_, rfl⟩
      obtain ⟨v, hv⟩ : ∃ q, wiQ c d j = q := ⟨_, rfl⟩
      rw [hu] at cu u1 u2 ru
      rw [hv] at cv w1 w2 rv
      clear ha hb hc hd hzz hx hy hz hu hv qa qb qc qd hab hcd
      repeat (first | (refine W.joinH (x := .seq (.region 6 _ _) _) (G := Unit) (fun _ => mkA [(2, .iv (.int .u8 (i : Nat))), (3, .iv (.int .u8 (j : Nat))), (5, .iv (.int .i64 w)), (13, .ptr 0 0), (15, .ptr 1 0), (17, .ptr 2 0)] [(0, .var (sd a b)), (1, .var (sd c d)), (2, .var (qr z))] 60) ?_ (fun _ => ?_)) | (refine W.RS (by kernel_rfl) ?_; conv => whnf) | (refine W.S ?_) | (refine W.skip ?_; conv => whnf) | (refine W.condF rfl ?_) | (refine ⟨_, cx, ?_⟩; conv => whnf) | (refine ⟨_, cy, ?_⟩; conv => whnf) | (refine ⟨_, cz, ?_⟩; conv => whnf) | (refine ⟨_, v1, ?_⟩; conv => whnf) | (refine ⟨_, v2, ?_⟩; conv => whnf) | (refine ⟨_, rfl, ?_⟩; conv => whnf) | (refine ⟨_, fun h => absurd h Bool.false_ne_true, fun _ => rfl, ?_⟩; conv => whnf))
      · unfold Hold
        refine W.weak (σ' := mkA [(2, .iv (.int .u8 (i : Nat))), (3, .iv (.int .u8 (j : Nat))), (5, .iv (.int .i64 k)), (13, .ptr 0 0), (15, .ptr 1 0), (17, .ptr 2 0)] [(0, .var (sd a b)), (1, .var (sd c d)), (2, .var (qr z))] 50) (Wk.tab [(0, 9), (1, 18), (2, 27)] ⟨⟨rfl, rfl⟩, ⟨rfl, rfl⟩, ⟨rfl, rfl⟩, ⟨rfl, rfl⟩, ⟨rfl, rfl⟩, ⟨rfl, rfl⟩, trivial⟩ ⟨rfl, rfl, rfl, trivial⟩ rfl) ?_
        by_cases hk : k > 30
        · rw [if_pos hk] at hw
          subst hw
          repeat (first | (refine W.RS (by kernel_rfl) ?_; conv => whnf) | (refine W.R (by kernel_rfl) ?_; conv => whnf) | (refine W.condT rfl ?_) | (refine ⟨by omega, _, hkr, ?_⟩; conv => whnf) | (refine ⟨true, decide_eq_true (by omega), ?_⟩; conv => whnf) | (refine ⟨rfl, ?_⟩; conv => whnf))
          exact ⟨(), Wk.tab [] ⟨⟨rfl, rfl⟩, ⟨rfl, rfl⟩, ⟨rfl, rfl⟩, ⟨rfl, rfl⟩, ⟨rfl, rfl⟩, ⟨rfl, rfl⟩, trivial⟩ ⟨rfl, rfl, rfl, trivial⟩ rfl⟩
        · rw [if_neg hk] at hw
          subst hw
          repeat (first | (refine W.RS (by kernel_rfl) ?_; conv => whnf) | (refine W.skip ?_; conv => whnf) | (refine W.condF rfl ?_) | (refine ⟨false, decide_eq_false (by omega), ?_⟩; conv => whnf) | (refine ⟨rfl, ?_⟩; conv => whnf))
          exact ⟨(), Wk.tab [] ⟨⟨rfl, rfl⟩, ⟨rfl, rfl⟩, ⟨rfl, rfl⟩, ⟨rfl, rfl⟩, ⟨rfl, rfl⟩, ⟨rfl, rfl⟩, trivial⟩ ⟨rfl, rfl, rfl, trivial⟩ rfl⟩
      · show W J _ _ (mkA [(2, .iv (.int .u8 (i : Nat))), (3, .iv (.int .u8 (j : Nat))), (5, .iv (.int .i64 w)), (13, .ptr 0 0), (15, .ptr 1 0), (17, .ptr 2 0)] [(0, .var (sd a b)), (1, .var (sd c d)), (2, .var (qr z))] 60) _
        clear cx cy cz v1 v2 hw hkr
        repeat (first | (refine W.joinH (x := .seq (.region 9 _ _) _) (G := Unit) (fun _ => mkA [(13, .ptr 0 0), (15, .ptr 1 0), (19, .ptr 2 0), (20, .ptr 3 0)] [(0, .var (sd a b)), (1, .var (sd c d)), (2, .var (qr u)), (3, .var (qr v))] 200) ?_ (fun _ => ?_)) | (refine W.RS (by kernel_rfl) ?_; conv => whnf) | (refine ⟨_, cu, ?_⟩; conv => whnf) | (refine ⟨_, cv, ?_⟩; conv => whnf) | (refine ⟨rfl, ?_⟩; conv => whnf))
        · unfold Hold
          refine W.weak (σ' := mkA [(5, .iv (.int .i64 w)), (13, .ptr 0 0), (15, .ptr 1 0), (17, .ptr 2 0), (19, .ptr 3 0), (20, .ptr 4 0)] [(0, .var (sd a b)), (1, .var (sd c d)), (2, .var (qr z)), (3, .var (qr u)), (4, .var (qr v))] 100) (Wk.tab [(3, 66), (4, 67)] ⟨⟨rfl, rfl⟩, ⟨rfl, rfl⟩, ⟨rfl, rfl⟩, ⟨rfl, rfl⟩, ⟨rfl, rfl⟩, ⟨rfl, rfl⟩, trivial⟩ ⟨rfl, rfl, rfl, rfl, rfl, trivial⟩ rfl) ?_
          obtain ⟨⟨e1, e2, e3⟩, ⟨e4, e5, e6⟩, ⟨e7, e8, e9⟩, ⟨e10, e11, e12⟩, ⟨p1, p2, e13, e14, e15⟩, ⟨e16, e17, e18⟩, ⟨p3, p4, p5, e19, e20, e21⟩, ⟨e22, e23, e24⟩, ⟨p6, p7, e25, e26⟩⟩ := enc_reg (J := J) ra rb rc rd rz ru rv u1 u2 w1 w2 w
          clear cu cv ra rb rc rd rz ru rv u1 u2 w1 w2 aw L
          repeat (first | (refine W.RS (by kernel_rfl) ?_; conv => whnf) | (refine W.skip ?_; conv => whnf) | (refine W.condF rfl ?_) | (refine ⟨_, e1, ?_⟩; conv => whnf) | (refine ⟨_, e2, ?_⟩; conv => whnf) | (refine ⟨_, e3, ?_⟩; conv => whnf) | (refine ⟨_, e4, ?_⟩; conv => whnf) | (refine ⟨_, e5, ?_⟩; conv => whnf) | (refine ⟨_, e6, ?_⟩; conv => whnf) | (refine ⟨_, e7, ?_⟩; conv => whnf) | (refine ⟨_, e8, ?_⟩; conv => whnf) | (refine ⟨_, e9, ?_⟩; conv => whnf) | (refine ⟨_, e10, ?_⟩; conv => whnf) | (refine ⟨_, e11, ?_⟩; conv => whnf) | (refine ⟨_, e12, ?_⟩; conv => whnf) | (refine ⟨_, e13, ?_⟩; conv => whnf) | (refine ⟨_, e14, ?_⟩; conv => whnf) | (refine ⟨_, e15, ?_⟩; conv => whnf) | (refine ⟨_, e16, ?_⟩; conv => whnf) | (refine ⟨_, e17, ?_⟩; conv => whnf) | (refine ⟨_, e18, ?_⟩; conv => whnf) | (refine ⟨_, e19, ?_⟩; conv => whnf) | (refine ⟨_, e20, ?_⟩; conv => whnf) | (refine ⟨_, e21, ?_⟩; conv => whnf) | (refine ⟨_, e22, ?_⟩; conv => whnf) | (refine ⟨_, e23, ?_⟩; conv => whnf) | (refine ⟨_, e24, ?_⟩; conv => whnf) | (refine ⟨_, e25, ?_⟩; conv => whnf) | (refine ⟨_, e26, ?_⟩; conv => whnf) | (refine ⟨_, rfl, ?_⟩; conv => whnf) | (refine ⟨rfl, ?_⟩; conv => whnf) | (refine ⟨_, fun h => absurd h Bool.false_ne_true, fun _ => rfl, ?_⟩; conv => whnf))
          exact ⟨(), Wk.tab [(2, 3), (3, 4)] ⟨⟨rfl, rfl⟩, ⟨rfl, rfl⟩, ⟨rfl, rfl⟩, ⟨rfl, rfl⟩, trivial⟩ ⟨rfl, rfl, rfl, rfl, trivial⟩ rfl⟩
        · show W J _ _ (mkA [(13, .ptr 0 0), (15, .ptr 1 0), (19, .ptr 2 0), (20, .ptr 3 0)] [(0, .var (sd a b)), (1, .var (sd c d)), (2, .var (qr u)), (3, .var (qr v))] 200) _
          clear cu cv
          obtain ⟨p, q, r, e, f, g1, g2, hg⟩ := enc_div (J := J) ra rb rc rd ru rv u1 u2 w1 w2
          repeat (first | (refine W.joinH (x := .seq (.region 13 _ _) _) (G := Unit) (fun _ => mkA [(13, .ptr 0 0), (15, .ptr 1 0), (20, .ptr 2 0)] [(0, .var (sd a b)), (1, .var (sd c d)), (2, .var (qr v))] 300) ?_ (fun _ => ?_)) | (refine W.RS (by kernel_rfl) ?_; conv => whnf) | (refine ⟨_, g1, ?_⟩; conv => whnf) | (refine ⟨_, g2, ?_⟩; conv => whnf))
          · unfold Hold
            refine W.weak (σ' := mkA [(13, .ptr 0 0), (15, .ptr 1 0), (19, .ptr 2 0), (20, .ptr 3 0), (21, .ptr 4 0), (22, .iv (.int .i64 e)), (23, .ptr 5 0), (24, .iv (.int .i64 f))] [(0, .var (sd a b)), (1, .var (sd c d)), (2, .var (qr u)), (3, .var (qr v)), (4, .var (sd p q)), (5, .var (qr r))] 250) (Wk.tab [(4, 206), (5, 215)] ⟨⟨rfl, rfl⟩, ⟨rfl, rfl⟩, ⟨rfl, rfl⟩, ⟨rfl, rfl⟩, ⟨rfl, rfl⟩, ⟨rfl, rfl⟩, ⟨rfl, rfl⟩, ⟨rfl, rfl⟩, trivial⟩ ⟨rfl, rfl, rfl, rfl, rfl, rfl, trivial⟩ rfl) ?_
            clear ra rb rc rd rz ru rv u1 u2 w1 w2 aw L
            rcases hg with ⟨rfl, rfl, g3⟩ | ⟨rfl, g3⟩
            · repeat (first | (refine W.RS (by kernel_rfl) ?_; conv => whnf) | (refine W.skip ?_; conv => whnf) | (refine W.condF rfl ?_) | (refine ⟨_, g3, ?_⟩; conv => whnf) | (refine ⟨true, decide_eq_true (by omega), ?_⟩; conv => whnf) | (refine ⟨false, bne_eq_false_iff_eq.2 (by omega), ?_⟩; conv => whnf) | (refine ⟨_, rfl, ?_⟩; conv => whnf) | (refine ⟨rfl, ?_⟩; conv => whnf) | (refine ⟨_, fun h => absurd h Bool.false_ne_true, fun _ => rfl, ?_⟩; conv => whnf) | (refine ⟨_, fun _ => rfl, fun h => absurd h.symm Bool.false_ne_true, ?_⟩; conv => whnf))
              exact ⟨(), Wk.tab [(2, 3)] ⟨⟨rfl, rfl⟩, ⟨rfl, rfl⟩, ⟨rfl, rfl⟩, trivial⟩ ⟨rfl, rfl, rfl, trivial⟩ rfl⟩
            · repeat (first | (refine W.RS (by kernel_rfl) ?_; conv => whnf) | (refine W.skip ?_; conv => whnf) | (refine W.condF rfl ?_) | (refine ⟨_, g3, ?_⟩; conv => whnf) | (refine ⟨false, decide_eq_false (by omega), ?_⟩; conv => whnf) | (refine ⟨true, bne_iff_ne.2 (by omega), ?_⟩; conv => whnf) | (refine ⟨false, bne_eq_false_iff_eq.2 (by omega), ?_⟩; conv => whnf) | (refine ⟨_, rfl, ?_⟩; conv => whnf) | (refine ⟨rfl, ?_⟩; conv => whnf) | (refine ⟨_, fun h => absurd h Bool.false_ne_true, fun _ => rfl, ?_⟩; conv => whnf) | (refine ⟨_, fun _ => rfl, fun h => absurd h.symm Bool.false_ne_true, ?_⟩; conv => whnf))
              exact ⟨(), Wk.tab [(2, 3)] ⟨⟨rfl, rfl⟩, ⟨rfl, rfl⟩, ⟨rfl, rfl⟩, trivial⟩ ⟨rfl, rfl, rfl, trivial⟩ rfl⟩
          · show W J _ _ (mkA [(13, .ptr 0 0), (15, .ptr 1 0), (20, .ptr 2 0)] [(0, .var (sd a b)), (1, .var (sd c d)), (2, .var (qr v))] 300) _
            clear g1 g2 hg
            obtain ⟨m1, m2, im, B, g1, g2, hg⟩ := enc_meet (J := J) ra rb rc rd rv w1 w2
            repeat (first | (refine W.joinH (x := .seq (.region 16 _ _) _) (G := Unit) (fun _ => mkA [(13, .ptr 0 0), (15, .ptr 1 0)] [(0, .var (sd a b)), (1, .var (sd c d))] 400) ?_ (fun _ => ?_)) | (refine W.RS (by kernel_rfl) ?_; conv => whnf) | (refine ⟨_, g1, ?_⟩; conv => whnf))
            · unfold Hold
              refine W.weak (σ' := mkA [(13, .ptr 0 0), (15, .ptr 1 0), (20, .ptr 2 0), (25, .ptr 3 0), (26, .iv (.bool im))] [(0, .var (sd a b)), (1, .var (sd c d)), (2, .var (qr v)), (3, .var (sd m1 m2))] 350) (Wk.tab [(3, 306)] ⟨⟨rfl, rfl⟩, ⟨rfl, rfl⟩, ⟨rfl, rfl⟩, ⟨rfl, rfl⟩, ⟨rfl, rfl⟩, trivial⟩ ⟨rfl, rfl, rfl, rfl, trivial⟩ rfl) ?_
              clear ra rb rc rd rz ru rv u1 u2 w1 w2 aw L
              rcases hg with ⟨rfl, g3, g4, g5⟩ | ⟨rfl, rfl⟩
              · cases B with
                | true =>
                  have g6 := g5 rfl
                  repeat (first | (refine W.RS (by kernel_rfl) ?_; conv => whnf) | (refine W.skip ?_; conv => whnf) | (refine W.condF rfl ?_) | (refine ⟨_, g2, ?_⟩; conv => whnf) | (refine ⟨_, g3, ?_⟩; conv => whnf) | (refine ⟨_, g4, ?_⟩; conv => whnf) | (refine ⟨_, g6, ?_⟩; conv => whnf) | (refine ⟨_, rfl, ?_⟩; conv => whnf) | (refine ⟨_, fun h => absurd h Bool.false_ne_true, fun _ => rfl, ?_⟩; conv => whnf) | (refine ⟨_, fun _ => rfl, fun h => absurd h.symm Bool.false_ne_true, ?_⟩; conv => whnf))
                  exact ⟨(), Wk.tab [] ⟨⟨rfl, rfl⟩, ⟨rfl, rfl⟩, trivial⟩ ⟨rfl, rfl, trivial⟩ rfl⟩
                | false =>
                  repeat (first | (refine W.RS (by kernel_rfl) ?_; conv => whnf) | (refine W.skip ?_; conv => whnf) | (refine W.condF rfl ?_) | (refine ⟨_, g2, ?_⟩; conv => whnf) | (refine ⟨_, g3, ?_⟩; conv => whnf) | (refine ⟨_, g4, ?_⟩; conv => whnf) | (refine ⟨_, rfl, ?_⟩; conv => whnf) | (refine ⟨_, fun h => absurd h Bool.false_ne_true, fun _ => rfl, ?_⟩; conv => whnf) | (refine ⟨_, fun _ => rfl, fun h => absurd h.symm Bool.false_ne_true, ?_⟩; conv => whnf))
                  exact ⟨(), Wk.tab [] ⟨⟨rfl, rfl⟩, ⟨rfl, rfl⟩, trivial⟩ ⟨rfl, rfl, trivial⟩ rfl⟩
              · repeat (first | (refine W.RS (by kernel_rfl) ?_; conv => whnf) | (refine W.skip ?_; conv => whnf) | (refine W.condF rfl ?_) | (refine ⟨_, g2, ?_⟩; conv => whnf) | (refine ⟨_, fun h => absurd h Bool.false_ne_true, fun _ => rfl, ?_⟩; conv => whnf))
                exact ⟨(), Wk.tab [] ⟨⟨rfl, rfl⟩, ⟨rfl, rfl⟩, trivial⟩ ⟨rfl, rfl, trivial⟩ rfl⟩
            · show W J _ _ (mkA [(13, .ptr 0 0), (15, .ptr 1 0)] [(0, .var (sd a b)), (1, .var (sd c d))] 400) _
              clear g1 g2 hg
              have qa := qln_rl a
              have qb := qln_rl b
              have qc := qln_rl c
              have qd := qln_rl d
              have s5 : rl (minL (mulE a b c d)) < 200 := rl_list (by decide) (rl_mulE ra rb rc rd) _
              have s6 : rl (maxL (mulE a b c d)) < 200 := rl_list (by decide) (rl_mulE ra rb rc rd) _
              have t1 := f100_ok (base J) (a := a) (b := b) (c := c) (d := d) (by omega) (by omega) (by omega) (by omega)
              have t2 := f125_ok J (q := minL (mulE a b c d)) (a := a) (b := b) (c := c) (d := d) (by omega) (by omega) (by omega) (by omega) (by omega) (minL_mem (by simp [mulE]))
              have t3 := f125_ok J (q := maxL (mulE a b c d)) (a := a) (b := b) (c := c) (d := d) (by omega) (by omega) (by omega) (by omega) (by omega) (maxL_mem (by simp [mulE]))
              obtain ⟨n1, hn1⟩ : ∃ q, minL (mulE a b c d) = q := ⟨_, rfl⟩
              obtain ⟨n2, hn2⟩ : ∃ q, maxL (mulE a b c d) = q := ⟨_, rfl⟩
              rw [hn1] at t1 t2
              rw [hn2] at t1 t3
              clear ra rb rc rd rz ru rv u1 u2 w1 w2 s5 s6 hn1 hn2 qa qb qc qd
              repeat (first | (refine W.RS (by kernel_rfl) ?_; conv => whnf) | (refine W.ret ?_; conv => whnf) | (refine ⟨_, t1, ?_⟩; conv => whnf) | (refine ⟨_, t2, ?_⟩; conv => whnf) | (refine ⟨_, t3, ?_⟩; conv => whnf) | (refine ⟨_, aw, ?_⟩; conv => whnf) | (refine ⟨_, fun _ => rfl, fun h => absurd h.symm Bool.false_ne_true, ?_⟩; conv => whnf))
              rfl
    · rw [decide_eq_false (fun h => hcd (cmpR_le.1 h))] at v2
      clear ha hb hc hd hzz hx hy hz ra rb rc rd rz qa qb qc qd
      repeat (first | (refine W.RS (by kernel_rfl) ?_; conv => whnf) | (refine W.S ?_) | (refine W.ret ?_; conv => whnf) | (refine W.condT rfl ?_) | (refine ⟨_, cx, ?_⟩; conv => whnf) | (refine ⟨_, cy, ?_⟩; conv => whnf) | (refine ⟨_, cz, ?_⟩; conv => whnf) | (refine ⟨_, v1, ?_⟩; conv => whnf) | (refine ⟨_, v2, ?_⟩; conv => whnf) | (refine ⟨_, aw, ?_⟩; conv => whnf) | (refine ⟨_, rfl, ?_⟩; conv => whnf) | (refine ⟨_, fun h => absurd h Bool.false_ne_true, fun _ => rfl, ?_⟩; conv => whnf))
      rfl
  · rw [decide_eq_false (fun h => hab (cmpR_le.1 h))] at v1
    clear ha hb hc hd hzz hx hy hz ra rb rc rd rz qa qb qc qd
    repeat (first | (refine W.RS (by kernel_rfl) ?_; conv => whnf) | (refine W.S ?_) | (refine W.ret ?_; conv => whnf) | (refine W.condT rfl ?_) | (refine ⟨_, cx, ?_⟩; conv => whnf) | (refine ⟨_, cy, ?_⟩; conv => whnf) | (refine ⟨_, cz, ?_⟩; conv => whnf) | (refine ⟨_, v1, ?_⟩; conv => whnf) | (refine ⟨_, aw, ?_⟩; conv => whnf) | (refine ⟨_, rfl, ?_⟩; conv => whnf) | (refine ⟨_, fun _ => rfl, fun h => absurd h.symm Bool.false_ne_true, ?_⟩; conv => whnf))
    rfl
end Go.Proofs.Fl
