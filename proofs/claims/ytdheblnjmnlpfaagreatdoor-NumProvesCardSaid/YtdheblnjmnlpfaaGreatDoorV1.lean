/-
  The card of NumProves is proved: the law's function returns true at every argument of its shape; no condition.
-/
import Derived.Test.YtdheblnjmnlpfaaGreatDoorB10
namespace Go.Proofs.Fl
open Go.RowKit Go.Proofs.Dig
attribute [local irreducible] IntKind.wrap PureC MutC MakC IterC
theorem rl_two {x y : Rat} {N : Nat} (h0 : 1 < N) (hx : rl x < N) (hy : rl y < N) (b : Int → Bool) : rl (chooseL b [x, y]) < N := rl_max (by intro z hz; simp at hz; rcases hz with rfl | rfl <;> assumption) h0 b
theorem hvt (v : Bool) : (v == v) = true := by cases v <;> rfl
end Go.Proofs.Fl
namespace Go.Proofs.Fl
open Go.RowKit Go.Proofs.Dig
attribute [local irreducible] IntKind.wrap PureC MutC MakC IterC
def Hold (p : Prop) : Prop := p
attribute [irreducible] Hold
end Go.Proofs.Fl
namespace Go.Proofs.Fl
open Go.RowKit Go.Proofs.Dig
attribute [local irreducible] IntKind.wrap PureC MutC MakC IterC
def ptQ (p : Nat) : Rat := ((((p % 101 : Nat) : Int)) : Rat) / ((100 : Int) : Rat)
def wiQ (a b : Rat) (p : Nat) : Rat := a + (b - a) * ptQ p
theorem ptQ_in (p : Nat) : 0 ≤ ptQ p ∧ ptQ p ≤ 101 / 100 ∧ (p % 101 ≤ 100 → ptQ p ≤ 1) := by
  have h0 : (0 : Rat) < ((100 : Int) : Rat) := by decide
  have h1 : ptQ p * ((100 : Int) : Rat) = (((p % 101 : Nat) : Int) : Rat) := by
    unfold ptQ
    rw [Rat.div_def, Rat.mul_assoc, Rat.inv_mul_cancel _ (by decide), Rat.mul_one]
  have hc : ((100 : Int) : Rat) = 100 := rfl
  rw [hc] at h1
  have h2 : (0 : Rat) ≤ (((p % 101 : Nat) : Int) : Rat) := Rat.intCast_nonneg.2 (by omega)
  have h3 : (((p % 101 : Nat) : Int) : Rat) ≤ ((100 : Int) : Rat) := Rat.intCast_le_intCast.2 (by omega)
  rw [hc] at h3
  refine ⟨?_, ?_, fun _ => ?_⟩ <;> grind
theorem wiQ_in {a b : Rat} (h : a ≤ b) (p : Nat) : a ≤ wiQ a b p ∧ wiQ a b p ≤ b := by
  obtain ⟨h1, _, h3⟩ := ptQ_in p
  have h3 := h3 (by omega)
  unfold wiQ
  have hw : 0 ≤ b - a := by grind
  have k1 := Rat.mul_nonneg hw h1
  have k2 : (b - a) * ptQ p ≤ (b - a) * 1 := by
    rw [Rat.mul_comm (b - a), Rat.mul_comm (b - a)]
    exact Rat.mul_le_mul_of_nonneg_right h3 hw
  constructor <;> grind
theorem rl_ptQ (p : Nat) : rl (ptQ p) ≤ 13 := by
  have := rl_base (n := ((p % 101 : Nat) : Int)) (d := 100) (by omega) (by omega) (by omega) (by omega)
  unfold baseN at this
  rw [if_neg (by decide)] at this
  exact this
theorem rl_wiQ {a b : Rat} (ha : rl a ≤ 52) (hb : rl b ≤ 52) (p : Nat) : rl (wiQ a b p) ≤ 2000 := by
  unfold wiQ
  have h1 := rl_sub b a
  have h2 := rl_mul (b - a) (ptQ p)
  have h3 := rl_ptQ p
  have h4 := rl_add a ((b - a) * ptQ p)
  omega
theorem f56_ok (J : Keep) {a b : Rat} (ha : rl a ≤ 52) (hb : rl b ≤ 52) (p : Nat) : C J 56 [sd a b, .int .u8 (p : Int)] (qr (wiQ a b p)) := by
  have hm : ((p : Nat) : Int).tmod 101 = ((p % 101 : Nat) : Int) := tmodN p 101
  have h3 := rl_ptQ p
  unfold wiQ
  have h1 := rl_sub b a
  have h2 := rl_mul (b - a) (ptQ p)
  have c1 := f57_ok (base J) (n := ((p % 101 : Nat) : Int)) (d := 100) (by omega) (by omega) (by omega) (by omega) (by omega)
  change C J 57 _ (.tup [qr (ptQ p), .int .i64 0]) at c1
  have qa := qln_rl a
  have qb := qln_rl b
  have c2 := f93_ok (base J) (a := a) (b := b) (by omega) (by omega)
  have c3 := mulC (J := J) (a := b - a) (b := ptQ p) (by omega) (by omega)
  have c4 := addC (J := J) (a := a) (b := (b - a) * ptQ p) (by omega) (by omega)
  have w1 : IntKind.wrap .i64 (((p % 101 : Nat) : Int)) = ((p % 101 : Nat) : Int) := w64 (by omega)
  refine fn_ok Tryz.func56 rfl rfl rfl ?_
  repeat (first | (refine W.RS (by kernel_rfl) ?_; conv => whnf) | (refine W.ret ?_; conv => whnf) | (refine ⟨by omega, _, hm, ?_⟩; conv => whnf) | (refine ⟨_, w1, ?_⟩; conv => whnf) | (refine ⟨_, c1, ?_⟩; conv => whnf) | (refine ⟨_, c2, ?_⟩; conv => whnf) | (refine ⟨_, c3, ?_⟩; conv => whnf) | (refine ⟨_, c4, ?_⟩; conv => whnf) | (refine ⟨rfl, ?_⟩; conv => whnf))
  rfl
end Go.Proofs.Fl
namespace Go.Proofs.Fl
open Go.RowKit Go.Proofs.Dig
attribute [local irreducible] IntKind.wrap PureC MutC MakC IterC
theorem minL_le {l : List Rat} {x : Rat} (hx : x ∈ l) : minL l ≤ x := by
  have key : ∀ (l : List Rat) (m : Rat), l.foldl (fun m y => if decide (cmpR y m < 0) then y else m) m ≤ m ∧ ∀ x ∈ l, l.foldl (fun m y => if decide (cmpR y m < 0) then y else m) m ≤ x := by
    intro l
    induction l with
    | nil => intro m; exact ⟨Rat.le_refl, by simp⟩
    | cons y l ih =>
      intro m
      simp only [List.foldl_cons]
      by_cases h : cmpR y m < 0
      · rw [decide_eq_true h, if_pos rfl]
        obtain ⟨h1, h2⟩ := ih y
        have h3 := Rat.le_of_lt (cmpR_lt.1 h)
        refine ⟨Rat.le_trans h1 h3, fun x hx => ?_⟩
        rcases List.mem_cons.1 hx with rfl | hx
        · exact h1
        · exact h2 x hx
      · rw [decide_eq_false h, if_neg Bool.false_ne_true]
        obtain ⟨h1, h2⟩ := ih m
        have hm : m ≤ y := Rat.not_lt.1 fun e => h (cmpR_lt.2 e)
        refine ⟨h1, fun x hx => ?_⟩
        rcases List.mem_cons.1 hx with rfl | hx
        · exact Rat.le_trans h1 hm
        · exact h2 x hx
  cases l with
  | nil => simp at hx
  | cons y l =>
    obtain ⟨h1, h2⟩ := key l y
    show l.foldl _ y ≤ x
    rcases List.mem_cons.1 hx with rfl | hx
    · exact h1
    · exact h2 x hx
theorem le_maxL {l : List Rat} {x : Rat} (hx : x ∈ l) : x ≤ maxL l := by
  have key : ∀ (l : List Rat) (m : Rat), m ≤ l.foldl (fun m y => if decide (cmpR y m > 0) then y else m) m ∧ ∀ x ∈ l, x ≤ l.foldl (fun m y => if decide (cmpR y m > 0) then y else m) m := by
    intro l
    induction l with
    | nil => intro m; exact ⟨Rat.le_refl, by simp⟩
    | cons y l ih =>
      intro m
      simp only [List.foldl_cons]
      by_cases h : cmpR y m > 0
      · rw [decide_eq_true h, if_pos rfl]
        obtain ⟨h1, h2⟩ := ih y
        have h3 := Rat.le_of_lt (cmpR_gt.1 h)
        refine ⟨Rat.le_trans h3 h1, fun x hx => ?_⟩
        rcases List.mem_cons.1 hx with rfl | hx
        · exact h1
        · exact h2 x hx
      · rw [decide_eq_false h, if_neg Bool.false_ne_true]
        obtain ⟨h1, h2⟩ := ih m
        have hm : y ≤ m := Rat.not_lt.1 fun e => h (cmpR_gt.2 e)
        refine ⟨h1, fun x hx => ?_⟩
        rcases List.mem_cons.1 hx with rfl | hx
        · exact Rat.le_trans hm h1
        · exact h2 x hx
  cases l with
  | nil => simp at hx
  | cons y l =>
    obtain ⟨h1, h2⟩ := key l y
    show x ≤ l.foldl _ y
    rcases List.mem_cons.1 hx with rfl | hx
    · exact h1
    · exact h2 x hx
theorem minL_mem {l : List Rat} (h : l ≠ []) : minL l ∈ l := chooseL_mem _ l h
theorem maxL_mem {l : List Rat} (h : l ≠ []) : maxL l ∈ l := chooseL_mem _ l h
end Go.Proofs.Fl
namespace Go.Proofs.Fl
open Go.RowKit Go.Proofs.Dig
attribute [local irreducible] IntKind.wrap PureC MutC MakC IterC
theorem near_mono {p q : Rat} (h : p ≤ q) : nearI p ≤ nearI q := by
  have f1 := Rat.floor_le p
  have f2 := Rat.floor_le q
  have hf : p.floor ≤ q.floor := Rat.le_floor_iff.2 (Rat.le_trans f1 h)
  rcases near_two p with ⟨e1, h1⟩ | ⟨e1, h1⟩ <;> rcases near_two q with ⟨e2, h2⟩ | ⟨e2, h2⟩
  · omega
  · omega
  · by_cases hlt : p.floor < q.floor
    · omega
    · have he : p.floor = q.floor := by omega
      have hp : p = q := by rw [he] at h1; grind
      rw [hp]; exact Int.le_refl _
  · omega
theorem near_half (q : Rat) : (nearI q : Rat) - q ≤ 1 / 2 ∧ q - (nearI q : Rat) ≤ 1 / 2 := by
  have f1 := Rat.floor_le q
  have f2 := @Rat.lt_floor q
  have one : ((1 : Int) : Rat) = 1 := rfl
  rcases near_two q with ⟨e, h⟩ | ⟨e, h⟩
  · rw [e]; constructor <;> grind
  · rw [e, Rat.intCast_add, one]; constructor <;> grind
theorem dv_zeros (k : Nat) (l : List UInt8) : dv (List.replicate k 48 ++ l) = dv l := by
  induction k with
  | zero => rfl
  | succ k ih =>
    rw [List.replicate_succ, List.cons_append, dv_cons, ih]
    have : (48 : UInt8).toNat - 48 = 0 := rfl
    rw [this, Nat.zero_mul, Nat.zero_add]
theorem padT_dig (n X : Nat) : (padT n X).all digB = true := by
  unfold padT
  rw [List.all_append, dec_all, Bool.and_true, List.all_eq_true]
  intro c hc
  rw [(List.mem_replicate.1 hc).2]; rfl
theorem padT_dv (n X : Nat) : dv (padT n X) = X := by
  unfold padT
  rw [dv_zeros, dv_decN]
theorem padT_int (n X : Nat) : intS ((padT n X).take ((padT n X).length - n)) = true := by
  obtain ⟨h1, _⟩ := padT_len n X
  have hd := padT_dig n X
  have hlen : ((padT n X).take ((padT n X).length - n)).length = (padT n X).length - n := by rw [List.length_take]; omega
  have ha : ((padT n X).take ((padT n X).length - n)).all digB = true := by
    rw [List.all_eq_true] at hd ⊢
    exact fun c hc => hd c (List.mem_of_mem_take hc)
  unfold intS digs
  have hne : ((padT n X).take ((padT n X).length - n)).isEmpty = false := by
    cases hc : (padT n X).take ((padT n X).length - n) with
    | nil => rw [hc] at hlen; simp only [List.length_nil] at hlen; omega
    | cons => rfl
  rw [hne, ha, hlen]
  by_cases h2 : (padT n X).length - n = 1
  · rw [decide_eq_true h2]; rfl
  · have h3 : n + 1 - (decN X).length = 0 := by
      unfold padT at h2
      rw [List.length_append, List.length_replicate] at h2
      omega
    have h4 : padT n X = decN X := by unfold padT; rw [h3]; rfl
    have h5 : 10 ≤ X := by
      refine Nat.not_lt.1 fun h => ?_
      rw [h4, decN_small h, List.length_singleton] at h2 h1
      omega
    have h6 := dec_head h5
    have h7 : ((padT n X).take ((padT n X).length - n)).head? = (decN X).head? := by
      rw [h4] at h1 ⊢
      rw [List.head?_take, if_neg (by omega)]
    rw [h7, decide_eq_true h6, Bool.or_true]; rfl
theorem parse_dig {n : Nat} {X : Int} (hl : (digT n X).length ≤ 1000) : parseQ (digT n X) = (mkRat X (10 ^ n), 0) := by
  obtain ⟨h1, _⟩ := padT_len n X.natAbs
  have hd := padT_dig n X.natAbs
  have hv := padT_dv n X.natAbs
  have hi := padT_int n X.natAbs
  have hT : digT n X = (if X < 0 then [45] else []) ++ dotT n (padT n X.natAbs) := rfl
  obtain ⟨T, hTe⟩ : ∃ T, padT n X.natAbs = T := ⟨_, rfl⟩
  rw [hTe] at h1 hd hv hi hT
  have hdig := all_dig hd
  have nT : ∀ x : UInt8, (x.toNat < 48 ∨ 57 < x.toNat) → ¬ x ∈ T := fun x hx hm => by have := hdig x hm; omega
  have nU : ∀ x : UInt8, x ≠ 46 → (x.toNat < 48 ∨ 57 < x.toNat) → ¬ x ∈ dotT n T := fun x hx hx2 hm => by
    unfold dotT at hm
    split at hm
    · rw [List.mem_append, List.mem_append] at hm
      rcases hm with (hm | hm) | hm
      · exact nT x hx2 (List.mem_of_mem_take hm)
      · exact hx (by simpa using hm)
      · exact nT x hx2 (List.mem_of_mem_drop hm)
    · exact nT x hx2 hm
  have n47 := nU 47 (by decide) (by decide)
  have n101 := nU 101 (by decide) (by decide)
  have n45 := nU 45 (by decide) (by decide)
  have hcut : ∃ w f u, Lib.cut (dotT n T) [46] = (w, f, u) ∧ intS w = true ∧ (u && !digs f) = false ∧ w ++ f = T ∧ f.length = n := by
    unfold dotT
    by_cases hn : 0 < n
    · rw [if_pos hn]
      refine ⟨T.take (T.length - n), T.drop (T.length - n), true, ?_, hi, ?_, List.take_append_drop _ _, by rw [List.length_drop]; omega⟩
      · have := cut_at (x := 46) (u := T.take (T.length - n)) (v := T.drop (T.length - n)) (fun h => nT 46 (by decide) (List.mem_of_mem_take h))
        rw [← this]; simp
      · have hfl : (T.drop (T.length - n)).length = n := by rw [List.length_drop]; omega
        have hfa : (T.drop (T.length - n)).all digB = true := by
          rw [List.all_eq_true] at hd ⊢
          exact fun c hc => hd c (List.mem_of_mem_drop hc)
        unfold digs
        rw [hfa]
        cases hc : T.drop (T.length - n) with
        | nil => rw [hc] at hfl; simp only [List.length_nil] at hfl; omega
        | cons => rfl
    · rw [if_neg hn]
      have hn0 : n = 0 := by omega
      subst hn0
      have e : T.take (T.length - 0) = T := by rw [Nat.sub_zero, List.take_length]
      rw [e] at hi
      exact ⟨T, [], false, cut_none (nT 46 (by decide)), hi, rfl, List.append_nil _, rfl⟩
  obtain ⟨w, f, u, k1, k2, k3, k4, k5⟩ := hcut
  have hs : ∃ m, Lib.hasPrefix (digT n X) [45] = m ∧ Lib.trimPrefix (digT n X) [45] = dotT n T ∧ sv m X.natAbs = X := by
    rw [hT]
    by_cases hx : X < 0
    · rw [if_pos hx]
      exact ⟨true, pre_at.1, pre_at.2, by unfold sv; rw [if_pos rfl]; omega⟩
    · rw [if_neg hx, List.nil_append]
      exact ⟨false, (pre_none n45).1, (pre_none n45).2, by unfold sv; rw [if_neg Bool.false_ne_true]; omega⟩
  obtain ⟨m, m1, m2, m3⟩ := hs
  unfold parseQ
  rw [if_neg (by omega), m1, m2, cut_none n47]
  dsimp only
  rw [if_neg (by simp), cut_none n101]
  dsimp only
  rw [k1]
  dsimp only
  rw [k2, k3]
  have e1 : Lib.hasPrefix ([] : List UInt8) [45] = false := rfl
  have e2 : Lib.trimPrefix ([] : List UInt8) [45] = [] := rfl
  rw [e1, e2]
  rw [if_neg (by simp), if_neg (by decide)]
  have e3 : (if false = true then -((dv [] : Nat) : Int) else ((dv [] : Nat) : Int)) - (f.length : Int) = -(n : Int) := by
    rw [k5, if_neg Bool.false_ne_true]
    have : dv [] = 0 := rfl
    rw [this]; omega
  rw [e3, k4, hv]
  have e4 : (-(n : Int)).toNat = 0 := by omega
  have e5 : (-(-(n : Int))).toNat = n := by omega
  rw [e4, e5, Nat.pow_zero, Nat.mul_one, m3]
theorem scale_pos (n : Nat) : 0 < scaleQ n := Rat.intCast_pos.2 (by have := Nat.pow_pos (n := n) (show 0 < 10 by decide); omega)
theorem scale_pow (n : Nat) : (10 : Rat) ^ n = scaleQ n := by
  induction n with
  | zero => rfl
  | succ n ih =>
    rw [Rat.pow_succ, ih]
    unfold scaleQ
    have e : ((10 ^ (n + 1) : Nat) : Int) = ((10 ^ n : Nat) : Int) * (10 : Int) := by rw [Nat.pow_succ]; omega
    rw [e, Rat.intCast_mul]; rfl
theorem mkRat_scale (X : Int) (n : Nat) : mkRat X (10 ^ n) * scaleQ n = (X : Rat) := by
  rw [Rat.mkRat_eq_div]
  show (X : Rat) / ((10 ^ n : Nat) : Rat) * scaleQ n = X
  have e : (((10 ^ n : Nat)) : Rat) = scaleQ n := rfl
  have h0 := scale_pos n
  have h1 : scaleQ n ≠ 0 := by intro e; rw [e] at h0; exact absurd h0 (by decide)
  rw [e, Rat.div_def, Rat.mul_assoc, Rat.inv_mul_cancel _ h1, Rat.mul_one]
theorem dig_near {A : Rat} {n : Nat} {X : Int} (h : nearI (A * scaleQ n) = X) : qabs (mkRat X (10 ^ n) - A) ≤ 1 / (10 : Rat) ^ n * (1 / 2) := by
  obtain ⟨h1, h2⟩ := near_half (A * scaleQ n)
  rw [h] at h1 h2
  have h0 := scale_pos n
  have hm := mkRat_scale X n
  rw [scale_pow]
  obtain ⟨S, hS⟩ : ∃ S, scaleQ n = S := ⟨_, rfl⟩
  obtain ⟨Q, hQ⟩ : ∃ Q, mkRat X (10 ^ n) = Q := ⟨_, rfl⟩
  rw [hS] at h0 hm h1 h2 ⊢
  rw [hQ] at hm ⊢
  have hne : S ≠ 0 := by intro e; rw [e] at h0; exact absurd h0 (by decide)
  have e : 1 / S * (1 / 2) * S = 1 / 2 := by
    rw [Rat.div_def 1 S, Rat.one_mul, Rat.mul_comm, ← Rat.mul_assoc, Rat.mul_inv_cancel _ hne, Rat.one_mul]
  have key : ∀ u v : Rat, u * S ≤ v * S → u ≤ v := fun u v huv => by
    refine Rat.not_lt.1 fun hlt => ?_
    have := Rat.mul_lt_mul_of_pos_right hlt h0
    exact Rat.not_le.2 this huv
  rw [qabs_le]
  constructor
  · refine key _ _ ?_
    rw [e]; grind
  · refine key _ _ ?_
    rw [e]; grind
end Go.Proofs.Fl
namespace Go.Proofs.Fl
open Go.RowKit Go.Proofs.Dig
attribute [local irreducible] IntKind.wrap PureC MutC MakC IterC
def X400 : Nat := 10 ^ 200 * 10 ^ 200
theorem decN_lenA {n a b w : Nat} (hw : a + b = w) (h0 : 0 < w) (h : n < 10 ^ a * 10 ^ b) : (decN n).length ≤ w := by
  rw [← Nat.pow_add, hw] at h
  exact decN_len h0 h
theorem decN_len4 {n : Nat} (h : n < X400) : (decN n).length ≤ 400 := decN_lenA (a := 200) (b := 200) rfl (by decide) h
theorem near_bound {a : Rat} {N : Nat} (ha : rl a ≤ 52) (hN : N ≤ 100) : (nearI (a * scaleQ N)).natAbs < X400 := by
  have h1 : a.num.natAbs < B15 ^ 52 := by
    have := lt_lh a.num.natAbs
    exact Nat.lt_of_lt_of_le this (Nat.pow_le_pow_right (by decide) (by unfold rl at ha; omega))
  have h2 : (a * scaleQ N).floor.natAbs ≤ a.num.natAbs * 10 ^ N := by
    unfold scaleQ
    rw [mul_nat, floor_mk a.den_pos]
    have := Int.natAbs_ediv_le_natAbs (a.num * ((10 ^ N : Nat) : Int)) (a.den : Int)
    rw [Int.natAbs_mul, Int.natAbs_natCast] at this
    exact this
  have h3 : (nearI (a * scaleQ N)).natAbs ≤ (a * scaleQ N).floor.natAbs + 1 := by
    rcases near_two (a * scaleQ N) with ⟨e, _⟩ | ⟨e, _⟩ <;> rw [e] <;> omega
  have h4 : a.num.natAbs * 10 ^ N ≤ B15 ^ 52 * 10 ^ 100 := Nat.mul_le_mul (Nat.le_of_lt h1) (Nat.pow_le_pow_right (by decide) hN)
  have h5 : B15 ^ 52 * 10 ^ 100 + 1 < X400 := by decide +kernel
  omega
theorem digT_len {n : Nat} {X : Int} (hn : n ≤ 100) (hX : X.natAbs < X400) : (digT n X).length ≤ 1000 := by
  have h1 := decN_len4 hX
  have h2 := (padT_len n X.natAbs).2
  have h3 : (if X < 0 then [45] else ([] : List UInt8)).length ≤ 1 := by split <;> simp
  have h4 : (dotT n (padT n X.natAbs)).length ≤ (padT n X.natAbs).length + 1 := by unfold dotT; split <;> simp <;> omega
  unfold digT
  rw [List.length_append]
  clear hX
  omega
theorem digR_form (a b : Rat) (n : Nat) : ∃ T B, digR a b n = .tup [.str T, .bool B] ∧ ((B = true ∧ a ≤ b ∧ nearI (a * scaleQ n) = nearI (b * scaleQ n) ∧ T = digT n (nearI (a * scaleQ n))) ∨ (B = false ∧ T = [])) := by
  unfold digR
  split
  · rename_i h
    exact ⟨_, _, rfl, .inl ⟨rfl, h.1, h.2, rfl⟩⟩
  · exact ⟨_, _, rfl, .inr ⟨rfl, rfl⟩⟩
theorem scale_mono {p q : Rat} (h : p ≤ q) (n : Nat) : nearI (p * scaleQ n) ≤ nearI (q * scaleQ n) :=
  near_mono (Rat.mul_le_mul_of_nonneg_right h (Rat.le_of_lt (scale_pos n)))
theorem dig_part {a b c d : Rat} {n : Nat} (h1 : a ≤ c) (h2 : c ≤ d) (h3 : d ≤ b) {T : List UInt8} (h : digR a b n = .tup [.str T, .bool true]) : digR c d n = .tup [.str T, .bool true] := by
  obtain ⟨T', B, e, hc⟩ := digR_form a b n
  rw [h] at e
  injection e with e
  injection e with e1 e
  injection e with e2 e
  injection e1 with e1
  injection e2 with e2
  subst e1 e2
  rcases hc with ⟨_, _, k1, k2⟩ | ⟨k, _⟩
  · have m1 := scale_mono h1 n
    have m2 := scale_mono h2 n
    have m3 := scale_mono h3 n
    unfold digR
    rw [if_pos ⟨h2, by omega⟩, show nearI (c * scaleQ n) = nearI (a * scaleQ n) by omega, ← k2]
  · cases k
end Go.Proofs.Fl
namespace Go.Proofs.Fl
open Go.RowKit Go.Proofs.Dig
attribute [local irreducible] IntKind.wrap PureC MutC MakC IterC
theorem rl_scale' {n : Nat} (hn : n ≤ 100) : rl (scaleQ n) ≤ 202 := by
  rw [← scale_pow]
  have h := rl_pow 10 n
  have h1 : rl (10 : Rat) ≤ 2 := by
    unfold rl
    have e1 := lh_le (n := (10 : Rat).num.natAbs) (k := 1) (by decide)
    have e2 := lh_le (n := (10 : Rat).den) (k := 1) (by decide)
    omega
  have h2 := Nat.mul_le_mul hn h1
  omega
theorem rl_dec {X : Int} {n : Nat} (hn : n ≤ 100) (hX : X.natAbs < X400) : rl (mkRat X (10 ^ n)) ≤ 310 := by
  have h1 := lh_le (k := 100) (Nat.lt_trans hX (by decide +kernel))
  have h2 := rl_int X
  have h3 := rl_scale' hn
  have h4 := rl_div (X : Rat) (scaleQ n)
  rw [Rat.mkRat_eq_div]
  change rl ((X : Rat) / scaleQ n) ≤ 310
  omega
theorem prv_cmp {J : Keep} {A : Rat} {n : Nat} {X : Int} (hn : n ≤ 100) (hA : rl A ≤ 2000) (hX : X.natAbs < X400) (h : nearI (A * scaleQ n) = X) :
    ∃ un v, C J 52 [qr ((1 : Int) : Rat), qr (((10 : Int) : Rat) ^ n)] (.tup [qr un, .int .i64 0]) ∧ C J 50 [qr (mkRat X (10 ^ n)), qr A] (qr (mkRat X (10 ^ n) - A)) ∧ C J 54 [qr (mkRat X (10 ^ n) - A)] (qr (qabs (mkRat X (10 ^ n) - A))) ∧
      C J 49 [qr un, qr (fk 1)] (qr (un * fk 1)) ∧ C J 37 [qr (qabs (mkRat X (10 ^ n) - A)), qr (un * fk 1)] (.int .i64 v) ∧ v ≤ 0 := by
  have hd := dig_near h
  have r1 := rl_dec hn hX
  have r2 := rl_sub (mkRat X (10 ^ n)) A
  have e10 : ((10 : Int) : Rat) = 10 := rfl
  have e1 : ((1 : Int) : Rat) = 1 := rfl
  have r3 := rl_scale' hn
  have r4 := rl_div 1 (scaleQ n)
  have r5 : rl (1 : Rat) ≤ 2 := by
    unfold rl
    have e1 := lh_le (n := (1 : Rat).num.natAbs) (k := 1) (by decide)
    have e2 := lh_le (n := (1 : Rat).den) (k := 1) (by decide)
    omega
  have r6 := rl_fk 1
  have r7 := rl_mul (1 / scaleQ n) (fk 1)
  have h0 := scale_pos n
  have hne : scaleQ n ≠ 0 := by intro e; rw [e] at h0; exact absurd h0 (by decide)
  rw [e10, e1, scale_pow] at *
  have hf : fk 1 = 1 / 2 := by
    unfold fk
    rw [show gk 1 = 2 from rfl, half]
  refine ⟨1 / scaleQ n, _, divC (by omega) (by omega) hne, subC (by omega) (by omega), absC _, mulC (by omega) (by omega), cmpC (by rw [rl_qabs]; omega) (by omega), ?_⟩
  rw [hf]
  exact cmpR_le.2 hd
set_option maxHeartbeats 16000000 in
theorem f12_ok {J : Keep} (L : LibI J) {x : Gap6} (hx : x.ok) {i j : Nat} {k : Int} : C J 12 [x.iv, .int .u8 (i : Int), .int .u8 (j : Int), .int .i64 k] (.bool true) := by
  have cx := f24_ok J hx
  have ra := bothL hx.1
  have rb := bothL hx.2
  obtain ⟨a, ha⟩ : ∃ a, x.lo.q = a := ⟨_, rfl⟩
  obtain ⟨b, hb⟩ : ∃ b, x.hi.q = b := ⟨_, rfl⟩
  rw [ha, hb] at cx
  rw [ha] at ra
  rw [hb] at rb
  have qa := qln_rl a
  have qb := qln_rl b
  have aw := f19_ok L
  have v1 := f55_ok (J := J) (a := a) (b := b) (by omega) (by omega)
  refine fn_ok Tryz.func12 rfl rfl rfl ?_
  by_cases hab : a ≤ b
  · rw [decide_eq_true (cmpR_le.2 hab)] at v1
    have c1 := f32_ok L (a := a) (b := b) (by omega) (by omega) k
    obtain ⟨N, hN⟩ : ∃ n, intoN k 100 = n := ⟨_, rfl⟩
    have hN1 : N ≤ 100 := by rw [← hN]; unfold intoN; omega
    have hN2 : k < 0 → (0 : Int) = (N : Int) := fun h => by rw [← hN]; unfold intoN; omega
    have hN3 : ¬ k < 0 → ¬ k > 100 → k = (N : Int) := fun h h2 => by rw [← hN]; unfold intoN; omega
    have hN4 : k > 100 → (100 : Int) = (N : Int) := fun h => by rw [← hN]; unfold intoN; omega
    have cu := f56_ok J ra rb i
    have cv := f56_ok J ra rb j
    obtain ⟨u1, u2⟩ := wiQ_in hab i
    obtain ⟨w1, w2⟩ := wiQ_in hab j
    have ru := rl_wiQ ra rb i
    have rv := rl_wiQ ra rb j
    obtain ⟨u, hu⟩ : ∃ q, wiQ a b i = q := ⟨_, rfl⟩
    obtain ⟨v, hv⟩ : ∃ q, wiQ a b j = q := ⟨_, rfl⟩
    rw [hu] at cu u1 u2 ru
    rw [hv] at cv w1 w2 rv
    have qu := qln_rl u
    have qv := qln_rl v
    have c2 := f70_2 (J := J) (a := u) (b := v) (by omega) (by omega)
    have c3 := f71_2 (J := J) (a := u) (b := v) (by omega) (by omega)
    have l1 : rl (minL [u, v]) < 2001 := rl_two (by decide) (by omega) (by omega) _
    have l2 : rl (maxL [u, v]) < 2001 := rl_two (by decide) (by omega) (by omega) _
    have m1 : minL [u, v] ∈ [u, v] := minL_mem (by simp)
    have m2 : maxL [u, v] ∈ [u, v] := maxL_mem (by simp)
    simp only [List.mem_cons, List.not_mem_nil, or_false] at m1 m2
    have n1 : a ≤ minL [u, v] := by rcases m1 with m | m <;> rw [m] <;> assumption
    have n2 : maxL [u, v] ≤ b := by rcases m2 with m | m <;> rw [m] <;> assumption
    have n3 : minL [u, v] ≤ maxL [u, v] := Rat.le_trans (minL_le (x := u) (by simp)) (le_maxL (by simp))
    have qlo := qln_rl (minL [u, v])
    have qhi := qln_rl (maxL [u, v])
    have c4 := f32_ok L (a := minL [u, v]) (b := maxL [u, v]) (by omega) (by omega) k
    obtain ⟨lo, hlo⟩ : ∃ q, minL [u, v] = q := ⟨_, rfl⟩
    obtain ⟨hi, hhi⟩ : ∃ q, maxL [u, v] = q := ⟨_, rfl⟩
    rw [hlo] at c2 c4 n1 n3
    rw [hhi] at c3 c4 n2 n3
    rw [hN] at c1 c4
    obtain ⟨T, B, hT, hcs⟩ := digR_form a b N
    have hpart := @dig_part a b lo hi N n1 n3 n2 T
    have hT' := hT
    rw [hT] at c1
    cases B with
    | true =>
      rw [hpart hT] at c4
      rcases hcs with ⟨_, _, hX1, hX2⟩ | ⟨h, _⟩
      · have bX := near_bound ra hN1
        have mu1 := scale_mono u1 N
        have mu2 := scale_mono u2 N
        obtain ⟨X, hX⟩ : ∃ X, nearI (a * scaleQ N) = X := ⟨_, rfl⟩
        rw [← hX1, hX] at mu2
        rw [hX] at mu1 bX hX2
        have hXu : nearI (u * scaleQ N) = X := by omega
        have hlen := digT_len hN1 bX
        have c5 := f20_ok L (s := T) (by rw [hX2]; omega)
        unfold rePq at c5
        rw [hX2, parse_dig hlen, ← hX2] at c5
        dsimp only at c5
        obtain ⟨un, cv2, p1, p2, p3, p4, p5, p6⟩ := prv_cmp (J := J) hN1 ru bX hXu
        obtain ⟨Q, hQ⟩ : ∃ Q, mkRat X (10 ^ N) = Q := ⟨_, rfl⟩
        rw [hQ] at c5 p2 p3 p5
        have k1 := f61_ok J (n := 1) (by omega) (by omega)
        have k2 := f61_ok J (n := 10) (by omega) (by omega)
        have r10 : rl ((10 : Int) : Rat) ≤ 2 := by
          have := rl_int 10
          have := lh_le (n := (10 : Int).natAbs) (k := 1) (by decide)
          omega
        have k3 := powC (J := J) (a := ((10 : Int) : Rat)) (by omega) (N : Int)
        have hNN : intoN (N : Int) 1000 = N := by unfold intoN; omega
        rw [hNN] at k3
        have k4 := fineC (J := J) 1
        have hTT : (T == T) = true := beq_self_eq_true T
        have hTn : (!(T == T)) = false := by rw [hTT]; rfl
        obtain ⟨f1, hf1⟩ : ∃ q, fk 1 = q := ⟨_, rfl⟩
        rw [hf1] at k4 p4 p5
        obtain ⟨t10, ht10⟩ : ∃ q, ((10 : Int) : Rat) ^ N = q := ⟨_, rfl⟩
        rw [ht10] at k3 p1
        clear hpart hT hT' hX1 hX2 hX hQ hXu mu1 mu2 bX hlen n1 n2 n3 m1 m2 l1 l2 qlo qhi qu qv ru rv hu hv ra rb qa qb ha hb hx u1 u2 w1 w2 hN hNN r10 hf1 ht10 hlo hhi hTT hab hN1
        by_cases h1 : k < 0
        · have hs : SV.iv (.int .i64 0) = SV.iv (.int .i64 (N : Nat)) := by rw [hN2 h1]
          clear hN2 hN3 hN4
          repeat (first | (refine W.wkRS (id := 4) (σ' := mkA [(1, .iv (.int .u8 (i : Nat))), (2, .iv (.int .u8 (j : Nat))), (3, .iv (.int .i64 k)), (9, .ptr 0 0)] [(0, .var (sd a b))] 20) (Wk.tab [(0, 7)] ⟨⟨rfl, rfl⟩, ⟨rfl, rfl⟩, ⟨rfl, rfl⟩, ⟨rfl, rfl⟩, trivial⟩ ⟨rfl, trivial⟩ rfl) (by kernel_rfl) ?_; conv => whnf) | (refine W.wkRS (id := 6) (σ' := mkA [(3, .iv (.int .i64 k)), (11, .iv (.str T)), (12, .iv (.bool true)), (13, .ptr 0 0), (14, .ptr 1 0)] [(0, .var (qr u)), (1, .var (qr v))] 50) (Wk.tab [(0, 34), (1, 35)] ⟨⟨rfl, rfl⟩, ⟨rfl, rfl⟩, ⟨rfl, rfl⟩, ⟨rfl, rfl⟩, ⟨rfl, rfl⟩, trivial⟩ ⟨rfl, rfl, trivial⟩ rfl) (by kernel_rfl) ?_; conv => whnf) | (refine W.wkRS (id := 11) (σ' := mkA [(3, .iv (.int .i64 k)), (11, .iv (.str T)), (13, .ptr 0 0)] [(0, .var (qr u))] 100) (Wk.tab [] ⟨⟨rfl, rfl⟩, ⟨rfl, rfl⟩, ⟨rfl, rfl⟩, trivial⟩ ⟨rfl, trivial⟩ rfl) (by kernel_rfl) ?_; conv => whnf) | (refine W.wkRS (id := 12) (σ' := mkA [(3, .iv (.int .i64 k)), (13, .ptr 0 0), (17, .ptr 1 0), (18, .iv (.int .i64 0))] [(0, .var (qr u)), (1, .var (qr Q))] 120) (Wk.tab [(1, 105)] ⟨⟨rfl, rfl⟩, ⟨rfl, rfl⟩, ⟨rfl, rfl⟩, ⟨rfl, rfl⟩, trivial⟩ ⟨rfl, rfl, trivial⟩ rfl) (by kernel_rfl) ?_; conv => whnf) | (refine W.wkRS (id := 17) (σ' := mkA [(13, .ptr 0 0), (17, .ptr 1 0), (18, .iv (.int .i64 0)), (19, .iv (.int .i64 (N : Nat)))] [(0, .var (qr u)), (1, .var (qr Q))] 150) (Wk.tab [] ⟨⟨rfl, rfl⟩, ⟨rfl, rfl⟩, ⟨rfl, rfl⟩, ⟨hs, rfl⟩, trivial⟩ ⟨rfl, rfl, trivial⟩ rfl) (by kernel_rfl) ?_; conv => whnf) | (refine W.RS (by kernel_rfl) ?_; conv => whnf) | (refine W.R (by kernel_rfl) ?_; conv => whnf) | (refine W.S ?_) | (refine W.ret ?_; conv => whnf) | (refine W.skip ?_; conv => whnf) | (refine W.condF rfl ?_) | (refine W.condT rfl ?_) | (refine ⟨_, cx, ?_⟩; conv => whnf) | (refine ⟨_, v1, ?_⟩; conv => whnf) | (refine ⟨_, c1, ?_⟩; conv => whnf) | (refine ⟨_, cu, ?_⟩; conv => whnf) | (refine ⟨_, cv, ?_⟩; conv => whnf) | (refine ⟨_, c2, ?_⟩; conv => whnf) | (refine ⟨_, c3, ?_⟩; conv => whnf) | (refine ⟨_, c4, ?_⟩; conv => whnf) | (refine ⟨_, c5, ?_⟩; conv => whnf) | (refine ⟨_, k1, ?_⟩; conv => whnf) | (refine ⟨_, k2, ?_⟩; conv => whnf) | (refine ⟨_, k3, ?_⟩; conv => whnf) | (refine ⟨_, k4, ?_⟩; conv => whnf) | (refine ⟨_, p1, ?_⟩; conv => whnf) | (refine ⟨_, p2, ?_⟩; conv => whnf) | (refine ⟨_, p3, ?_⟩; conv => whnf) | (refine ⟨_, p4, ?_⟩; conv => whnf) | (refine ⟨_, p5, ?_⟩; conv => whnf) | (refine ⟨_, aw, ?_⟩; conv => whnf) | (refine ⟨_, hTn, ?_⟩; conv => whnf) | (refine ⟨true, decide_eq_true (by omega), ?_⟩; conv => whnf) | (refine ⟨false, decide_eq_false (by omega), ?_⟩; conv => whnf) | (refine ⟨_, rfl, ?_⟩; conv => whnf) | (refine ⟨rfl, ?_⟩; conv => whnf) | (refine ⟨_, fun h => absurd h Bool.false_ne_true, fun _ => rfl, ?_⟩; conv => whnf) | (refine ⟨_, fun _ => rfl, fun h => absurd h.symm Bool.false_ne_true, ?_⟩; conv => whnf))
          rfl
        · by_cases h2 : k > 100
          · have hs : SV.iv (.int .i64 100) = SV.iv (.int .i64 (N : Nat)) := by rw [hN4 h2]
            clear hN2 hN3 hN4
            repeat (first | (refine W.wkRS (id := 4) (σ' := mkA [(1, .iv (.int .u8 (i : Nat))), (2, .iv (.int .u8 (j : Nat))), (3, .iv (.int .i64 k)), (9, .ptr 0 0)] [(0, .var (sd a b))] 20) (Wk.tab [(0, 7)] ⟨⟨rfl, rfl⟩, ⟨rfl, rfl⟩, ⟨rfl, rfl⟩, ⟨rfl, rfl⟩, trivial⟩ ⟨rfl, trivial⟩ rfl) (by kernel_rfl) ?_; conv => whnf) | (refine W.wkRS (id := 6) (σ' := mkA [(3, .iv (.int .i64 k)), (11, .iv (.str T)), (12, .iv (.bool true)), (13, .ptr 0 0), (14, .ptr 1 0)] [(0, .var (qr u)), (1, .var (qr v))] 50) (Wk.tab [(0, 34), (1, 35)] ⟨⟨rfl, rfl⟩, ⟨rfl, rfl⟩, ⟨rfl, rfl⟩, ⟨rfl, rfl⟩, ⟨rfl, rfl⟩, trivial⟩ ⟨rfl, rfl, trivial⟩ rfl) (by kernel_rfl) ?_; conv => whnf) | (refine W.wkRS (id := 11) (σ' := mkA [(3, .iv (.int .i64 k)), (11, .iv (.str T)), (13, .ptr 0 0)] [(0, .var (qr u))] 100) (Wk.tab [] ⟨⟨rfl, rfl⟩, ⟨rfl, rfl⟩, ⟨rfl, rfl⟩, trivial⟩ ⟨rfl, trivial⟩ rfl) (by kernel_rfl) ?_; conv => whnf) | (refine W.wkRS (id := 12) (σ' := mkA [(3, .iv (.int .i64 k)), (13, .ptr 0 0), (17, .ptr 1 0), (18, .iv (.int .i64 0))] [(0, .var (qr u)), (1, .var (qr Q))] 120) (Wk.tab [(1, 105)] ⟨⟨rfl, rfl⟩, ⟨rfl, rfl⟩, ⟨rfl, rfl⟩, ⟨rfl, rfl⟩, trivial⟩ ⟨rfl, rfl, trivial⟩ rfl) (by kernel_rfl) ?_; conv => whnf) | (refine W.wkRS (id := 17) (σ' := mkA [(13, .ptr 0 0), (17, .ptr 1 0), (18, .iv (.int .i64 0)), (19, .iv (.int .i64 (N : Nat)))] [(0, .var (qr u)), (1, .var (qr Q))] 150) (Wk.tab [] ⟨⟨rfl, rfl⟩, ⟨rfl, rfl⟩, ⟨rfl, rfl⟩, ⟨hs, rfl⟩, trivial⟩ ⟨rfl, rfl, trivial⟩ rfl) (by kernel_rfl) ?_; conv => whnf) | (refine W.RS (by kernel_rfl) ?_; conv => whnf) | (refine W.R (by kernel_rfl) ?_; conv => whnf) | (refine W.S ?_) | (refine W.ret ?_; conv => whnf) | (refine W.skip ?_; conv => whnf) | (refine W.condF rfl ?_) | (refine W.condT rfl ?_) | (refine ⟨_, cx, ?_⟩; conv => whnf) | (refine ⟨_, v1, ?_⟩; conv => whnf) | (refine ⟨_, c1, ?_⟩; conv => whnf) | (refine ⟨_, cu, ?_⟩; conv => whnf) | (refine ⟨_, cv, ?_⟩; conv => whnf) | (refine ⟨_, c2, ?_⟩; conv => whnf) | (refine ⟨_, c3, ?_⟩; conv => whnf) | (refine ⟨_, c4, ?_⟩; conv => whnf) | (refine ⟨_, c5, ?_⟩; conv => whnf) | (refine ⟨_, k1, ?_⟩; conv => whnf) | (refine ⟨_, k2, ?_⟩; conv => whnf) | (refine ⟨_, k3, ?_⟩; conv => whnf) | (refine ⟨_, k4, ?_⟩; conv => whnf) | (refine ⟨_, p1, ?_⟩; conv => whnf) | (refine ⟨_, p2, ?_⟩; conv => whnf) | (refine ⟨_, p3, ?_⟩; conv => whnf) | (refine ⟨_, p4, ?_⟩; conv => whnf) | (refine ⟨_, p5, ?_⟩; conv => whnf) | (refine ⟨_, aw, ?_⟩; conv => whnf) | (refine ⟨_, hTn, ?_⟩; conv => whnf) | (refine ⟨true, decide_eq_true (by omega), ?_⟩; conv => whnf) | (refine ⟨false, decide_eq_false (by omega), ?_⟩; conv => whnf) | (refine ⟨_, rfl, ?_⟩; conv => whnf) | (refine ⟨rfl, ?_⟩; conv => whnf) | (refine ⟨_, fun h => absurd h Bool.false_ne_true, fun _ => rfl, ?_⟩; conv => whnf) | (refine ⟨_, fun _ => rfl, fun h => absurd h.symm Bool.false_ne_true, ?_⟩; conv => whnf))
            rfl
          · have hs : SV.iv (.int .i64 k) = SV.iv (.int .i64 (N : Nat)) := by rw [← hN3 h1 h2]
            clear hN2 hN3 hN4
            repeat (first | (refine W.wkRS (id := 4) (σ' := mkA [(1, .iv (.int .u8 (i : Nat))), (2, .iv (.int .u8 (j : Nat))), (3, .iv (.int .i64 k)), (9, .ptr 0 0)] [(0, .var (sd a b))] 20) (Wk.tab [(0, 7)] ⟨⟨rfl, rfl⟩, ⟨rfl, rfl⟩, ⟨rfl, rfl⟩, ⟨rfl, rfl⟩, trivial⟩ ⟨rfl, trivial⟩ rfl) (by kernel_rfl) ?_; conv => whnf) | (refine W.wkRS (id := 6) (σ' := mkA [(3, .iv (.int .i64 k)), (11, .iv (.str T)), (12, .iv (.bool true)), (13, .ptr 0 0), (14, .ptr 1 0)] [(0, .var (qr u)), (1, .var (qr v))] 50) (Wk.tab [(0, 34), (1, 35)] ⟨⟨rfl, rfl⟩, ⟨rfl, rfl⟩, ⟨rfl, rfl⟩, ⟨rfl, rfl⟩, ⟨rfl, rfl⟩, trivial⟩ ⟨rfl, rfl, trivial⟩ rfl) (by kernel_rfl) ?_; conv => whnf) | (refine W.wkRS (id := 11) (σ' := mkA [(3, .iv (.int .i64 k)), (11, .iv (.str T)), (13, .ptr 0 0)] [(0, .var (qr u))] 100) (Wk.tab [] ⟨⟨rfl, rfl⟩, ⟨rfl, rfl⟩, ⟨rfl, rfl⟩, trivial⟩ ⟨rfl, trivial⟩ rfl) (by kernel_rfl) ?_; conv => whnf) | (refine W.wkRS (id := 12) (σ' := mkA [(3, .iv (.int .i64 k)), (13, .ptr 0 0), (17, .ptr 1 0), (18, .iv (.int .i64 0))] [(0, .var (qr u)), (1, .var (qr Q))] 120) (Wk.tab [(1, 105)] ⟨⟨rfl, rfl⟩, ⟨rfl, rfl⟩, ⟨rfl, rfl⟩, ⟨rfl, rfl⟩, trivial⟩ ⟨rfl, rfl, trivial⟩ rfl) (by kernel_rfl) ?_; conv => whnf) | (refine W.wkRS (id := 17) (σ' := mkA [(13, .ptr 0 0), (17, .ptr 1 0), (18, .iv (.int .i64 0)), (19, .iv (.int .i64 (N : Nat)))] [(0, .var (qr u)), (1, .var (qr Q))] 150) (Wk.tab [] ⟨⟨rfl, rfl⟩, ⟨rfl, rfl⟩, ⟨rfl, rfl⟩, ⟨hs, rfl⟩, trivial⟩ ⟨rfl, rfl, trivial⟩ rfl) (by kernel_rfl) ?_; conv => whnf) | (refine W.RS (by kernel_rfl) ?_; conv => whnf) | (refine W.S ?_) | (refine W.ret ?_; conv => whnf) | (refine W.skip ?_; conv => whnf) | (refine W.condF rfl ?_) | (refine ⟨_, cx, ?_⟩; conv => whnf) | (refine ⟨_, v1, ?_⟩; conv => whnf) | (refine ⟨_, c1, ?_⟩; conv => whnf) | (refine ⟨_, cu, ?_⟩; conv => whnf) | (refine ⟨_, cv, ?_⟩; conv => whnf) | (refine ⟨_, c2, ?_⟩; conv => whnf) | (refine ⟨_, c3, ?_⟩; conv => whnf) | (refine ⟨_, c4, ?_⟩; conv => whnf) | (refine ⟨_, c5, ?_⟩; conv => whnf) | (refine ⟨_, k1, ?_⟩; conv => whnf) | (refine ⟨_, k2, ?_⟩; conv => whnf) | (refine ⟨_, k3, ?_⟩; conv => whnf) | (refine ⟨_, k4, ?_⟩; conv => whnf) | (refine ⟨_, p1, ?_⟩; conv => whnf) | (refine ⟨_, p2, ?_⟩; conv => whnf) | (refine ⟨_, p3, ?_⟩; conv => whnf) | (refine ⟨_, p4, ?_⟩; conv => whnf) | (refine ⟨_, p5, ?_⟩; conv => whnf) | (refine ⟨_, aw, ?_⟩; conv => whnf) | (refine ⟨_, hTn, ?_⟩; conv => whnf) | (refine ⟨true, decide_eq_true (by omega), ?_⟩; conv => whnf) | (refine ⟨false, decide_eq_false (by omega), ?_⟩; conv => whnf) | (refine ⟨_, rfl, ?_⟩; conv => whnf) | (refine ⟨rfl, ?_⟩; conv => whnf) | (refine ⟨_, fun h => absurd h Bool.false_ne_true, fun _ => rfl, ?_⟩; conv => whnf) | (refine ⟨_, fun _ => rfl, fun h => absurd h.symm Bool.false_ne_true, ?_⟩; conv => whnf))
            rfl
      · cases h
    | false =>
      rcases hcs with ⟨h, _⟩ | ⟨_, rfl⟩
      · cases h
      · obtain ⟨U, B2, hU, hc2⟩ := digR_form lo hi N
        rw [hU] at c4
        clear hpart hT hT' hU n1 n2 n3 m1 m2 l1 l2 qlo qhi qu qv ru rv hu hv ra rb qa qb ha hb hx u1 u2 w1 w2 hN hlo hhi hab hN1 hN2 hN3 hN4
        rcases hc2 with ⟨rfl, _⟩ | ⟨rfl, rfl⟩
        · repeat (first | (refine W.wkRS (id := 4) (σ' := mkA [(1, .iv (.int .u8 (i : Nat))), (2, .iv (.int .u8 (j : Nat))), (3, .iv (.int .i64 k)), (9, .ptr 0 0)] [(0, .var (sd a b))] 20) (Wk.tab [(0, 7)] ⟨⟨rfl, rfl⟩, ⟨rfl, rfl⟩, ⟨rfl, rfl⟩, ⟨rfl, rfl⟩, trivial⟩ ⟨rfl, trivial⟩ rfl) (by kernel_rfl) ?_; conv => whnf) | (refine W.wkRS (id := 6) (σ' := mkA [(3, .iv (.int .i64 k)), (11, .iv (.str [])), (12, .iv (.bool false)), (13, .ptr 0 0), (14, .ptr 1 0)] [(0, .var (qr u)), (1, .var (qr v))] 50) (Wk.tab [(0, 34), (1, 35)] ⟨⟨rfl, rfl⟩, ⟨rfl, rfl⟩, ⟨rfl, rfl⟩, ⟨rfl, rfl⟩, ⟨rfl, rfl⟩, trivial⟩ ⟨rfl, rfl, trivial⟩ rfl) (by kernel_rfl) ?_; conv => whnf) | (refine W.RS (by kernel_rfl) ?_; conv => whnf) | (refine W.S ?_) | (refine W.ret ?_; conv => whnf) | (refine W.skip ?_; conv => whnf) | (refine W.condF rfl ?_) | (refine W.condT rfl ?_) | (refine ⟨_, cx, ?_⟩; conv => whnf) | (refine ⟨_, v1, ?_⟩; conv => whnf) | (refine ⟨_, c1, ?_⟩; conv => whnf) | (refine ⟨_, cu, ?_⟩; conv => whnf) | (refine ⟨_, cv, ?_⟩; conv => whnf) | (refine ⟨_, c2, ?_⟩; conv => whnf) | (refine ⟨_, c3, ?_⟩; conv => whnf) | (refine ⟨_, c4, ?_⟩; conv => whnf) | (refine ⟨_, aw, ?_⟩; conv => whnf) | (refine ⟨true, beq_iff_eq.2 (by omega), ?_⟩; conv => whnf) | (refine ⟨_, rfl, ?_⟩; conv => whnf) | (refine ⟨rfl, ?_⟩; conv => whnf) | (refine ⟨_, fun _ => rfl, fun h => absurd h.symm Bool.false_ne_true, ?_⟩; conv => whnf))
          rfl
        · repeat (first | (refine W.wkRS (id := 4) (σ' := mkA [(1, .iv (.int .u8 (i : Nat))), (2, .iv (.int .u8 (j : Nat))), (3, .iv (.int .i64 k)), (9, .ptr 0 0)] [(0, .var (sd a b))] 20) (Wk.tab [(0, 7)] ⟨⟨rfl, rfl⟩, ⟨rfl, rfl⟩, ⟨rfl, rfl⟩, ⟨rfl, rfl⟩, trivial⟩ ⟨rfl, trivial⟩ rfl) (by kernel_rfl) ?_; conv => whnf) | (refine W.wkRS (id := 6) (σ' := mkA [(3, .iv (.int .i64 k)), (11, .iv (.str [])), (12, .iv (.bool false)), (13, .ptr 0 0), (14, .ptr 1 0)] [(0, .var (qr u)), (1, .var (qr v))] 50) (Wk.tab [(0, 34), (1, 35)] ⟨⟨rfl, rfl⟩, ⟨rfl, rfl⟩, ⟨rfl, rfl⟩, ⟨rfl, rfl⟩, ⟨rfl, rfl⟩, trivial⟩ ⟨rfl, rfl, trivial⟩ rfl) (by kernel_rfl) ?_; conv => whnf) | (refine W.RS (by kernel_rfl) ?_; conv => whnf) | (refine W.S ?_) | (refine W.ret ?_; conv => whnf) | (refine W.skip ?_; conv => whnf) | (refine W.condF rfl ?_) | (refine W.condT rfl ?_) | (refine ⟨_, cx, ?_⟩; conv => whnf) | (refine ⟨_, v1, ?_⟩; conv => whnf) | (refine ⟨_, c1, ?_⟩; conv => whnf) | (refine ⟨_, cu, ?_⟩; conv => whnf) | (refine ⟨_, cv, ?_⟩; conv => whnf) | (refine ⟨_, c2, ?_⟩; conv => whnf) | (refine ⟨_, c3, ?_⟩; conv => whnf) | (refine ⟨_, c4, ?_⟩; conv => whnf) | (refine ⟨_, aw, ?_⟩; conv => whnf) | (refine ⟨true, beq_iff_eq.2 (by omega), ?_⟩; conv => whnf) | (refine ⟨_, rfl, ?_⟩; conv => whnf) | (refine ⟨rfl, ?_⟩; conv => whnf) | (refine ⟨_, fun h => absurd h Bool.false_ne_true, fun _ => rfl, ?_⟩; conv => whnf) | (refine ⟨_, fun _ => rfl, fun h => absurd h.symm Bool.false_ne_true, ?_⟩; conv => whnf))
          rfl
  · rw [decide_eq_false (fun h => hab (cmpR_le.1 h))] at v1
    clear ha hb hx ra rb qa qb
    repeat (first | (refine W.RS (by kernel_rfl) ?_; conv => whnf) | (refine W.S ?_) | (refine W.ret ?_; conv => whnf) | (refine W.condT rfl ?_) | (refine ⟨_, cx, ?_⟩; conv => whnf) | (refine ⟨_, v1, ?_⟩; conv => whnf) | (refine ⟨_, aw, ?_⟩; conv => whnf) | (refine ⟨_, rfl, ?_⟩; conv => whnf))
    rfl
end Go.Proofs.Fl
