/-
  Contracts of the functions of num and of its reference, and the join to a row (no conditions of ours).
-/
import Derived.Test.YtdheblnjmnlpfaaGreatDoorB9
namespace Go.Proofs.Fl
open Go.RowKit Go.Proofs.Dig
attribute [local irreducible] IntKind.wrap PureC MutC MakC IterC
section
variable {g f : Rat}
theorem grid_f (hg : 0 < g) (h : g * f = 1) : 0 < f := by
  apply Classical.byContradiction
  intro hn
  have h1 : f ≤ 0 := Rat.not_lt.1 hn
  have h2 : f * g ≤ 0 * g := Rat.mul_le_mul_of_nonneg_right h1 (by grind)
  grind
theorem mulf_le (hf : 0 < f) {x y : Rat} : x * f ≤ y * f ↔ x ≤ y := by
  rw [← Rat.not_lt, ← Rat.not_lt, Rat.mul_lt_mul_right hf]
theorem mulf_eq (hf : 0 < f) {x y : Rat} : x * f = y * f ↔ x = y := by
  constructor
  · intro h
    exact Rat.le_antisymm ((mulf_le hf).1 (by rw [h]; exact Rat.le_refl)) ((mulf_le hf).1 (by rw [h]; exact Rat.le_refl))
  · intro h; rw [h]
def ceilI (q : Rat) : Int := -((-q).floor)
theorem le_ceilI {q : Rat} : q ≤ (ceilI q : Rat) := by
  unfold ceilI
  have := Rat.floor_le (-q)
  rw [Rat.intCast_neg]; grind
theorem ceilI_le {q : Rat} {n : Int} : ceilI q ≤ n ↔ q ≤ (n : Rat) := by
  unfold ceilI
  have h := @Rat.le_floor_iff (-n) (-q)
  rw [Rat.intCast_neg] at h
  constructor
  · intro h1
    have := h.1 (by omega)
    grind
  · intro h1
    have := h.2 (by grind)
    omega
theorem ceilI_int (n : Int) : ceilI (n : Rat) = n := by
  unfold ceilI
  rw [← Rat.intCast_neg, Rat.floor_intCast]; omega
theorem floor_le_ceilI (q : Rat) : q.floor ≤ ceilI q := by
  have h1 := Rat.floor_le q
  have h2 := @le_ceilI q
  exact Rat.intCast_le_intCast.1 (Rat.le_trans h1 h2)
theorem ceilI_floor (q : Rat) : ceilI q ≤ q.floor + 1 := by
  rw [ceilI_le]
  have h := @Rat.lt_floor q
  rw [Rat.intCast_add]
  have : ((1 : Int) : Rat) = 1 := rfl
  grind
theorem floor_eq_ceilI {q : Rat} : ceilI q = q.floor ↔ q = (q.floor : Rat) := by
  constructor
  · intro h
    have h1 := Rat.floor_le q
    have h2 := @le_ceilI q
    rw [h] at h2
    exact Rat.le_antisymm h2 h1
  · intro h
    have h2 : ceilI q ≤ q.floor := ceilI_le.2 (by rw [← h]; exact Rat.le_refl)
    have := floor_le_ceilI q
    omega
def dnG (g f a : Rat) : Rat := ((a * g).floor : Rat) * f
def upG (g f a : Rat) : Rat := ((ceilI (a * g) : Int) : Rat) * f
noncomputable def rdG (g f a : Rat) : Rat := ((nearI (a * g) : Int) : Rat) * f
theorem scale_back (h : g * f = 1) (a : Rat) : a * g * f = a := by rw [Rat.mul_assoc, h, Rat.mul_one]
theorem scale_on (h : g * f = 1) (x : Rat) : x * f * g = x := by rw [Rat.mul_assoc, Rat.mul_comm f, h, Rat.mul_one]
theorem dnG_le (hg : 0 < g) (h : g * f = 1) (a : Rat) : dnG g f a ≤ a := by
  have := (mulf_le (grid_f hg h)).2 (Rat.floor_le (a * g))
  rw [scale_back h] at this
  exact this
theorem le_upG (hg : 0 < g) (h : g * f = 1) (a : Rat) : a ≤ upG g f a := by
  have := (mulf_le (grid_f hg h)).2 (@le_ceilI (a * g))
  rw [scale_back h] at this
  exact this
theorem width_G (hg : 0 < g) (h : g * f = 1) (a : Rat) : (upG g f a - dnG g f a = 0 ∧ dnG g f a = a) ∨ (upG g f a - dnG g f a = f ∧ dnG g f a ≠ a) := by
  have hf := grid_f hg h
  have h1 := floor_le_ceilI (a * g)
  have h2 := ceilI_floor (a * g)
  have hb := scale_back h a
  by_cases e : ceilI (a * g) = (a * g).floor
  · left
    unfold upG dnG
    rw [e]
    refine ⟨by grind, ?_⟩
    rw [← floor_eq_ceilI.1 e, hb]
  · right
    have e1 : ceilI (a * g) = (a * g).floor + 1 := by omega
    unfold upG dnG
    refine ⟨?_, fun e2 => e ?_⟩
    · rw [e1, Rat.intCast_add]
      have : ((1 : Int) : Rat) = 1 := rfl
      grind
    · refine floor_eq_ceilI.2 ?_
      refine (mulf_eq hf).1 ?_
      rw [hb, e2]
theorem dn_dn (h : g * f = 1) (a : Rat) : dnG g f (dnG g f a) = dnG g f a := by
  unfold dnG
  rw [scale_on h, Rat.floor_intCast]
theorem up_up (h : g * f = 1) (a : Rat) : upG g f (upG g f a) = upG g f a := by
  unfold upG
  rw [scale_on h, ceilI_int]
theorem up_dn (h : g * f = 1) (a : Rat) : upG g f (dnG g f a) = dnG g f a := by
  unfold upG dnG
  rw [scale_on h, ceilI_int]
theorem fine_dn {m : Int} {g' f' : Rat} (hg : 0 < g) (h : g * f = 1) (hm : 0 < m) (e : g' = g * (m : Rat)) (h' : g' * f' = 1) (a : Rat) : dnG g f a ≤ dnG g' f' a := by
  have hm0 : (0 : Rat) < (m : Rat) := Rat.intCast_pos.2 hm
  have hg' : 0 < g' := by rw [e]; exact Rat.mul_pos hg hm0
  have hf := grid_f hg h
  have hf' := grid_f hg' h'
  have h1 : (a * g).floor * m ≤ (a * g').floor := by
    rw [Rat.le_floor_iff, Rat.intCast_mul, e, ← Rat.mul_assoc]
    exact Rat.mul_le_mul_of_nonneg_right (Rat.floor_le _) (by grind)
  have h2 := (mulf_le hf').2 (Rat.intCast_le_intCast.2 h1)
  have e2 : (m : Rat) * f' = f := by
    have h3 : g * ((m : Rat) * f') = g * f := by rw [← Rat.mul_assoc, ← e, h', h]
    have h4 : (g * ((m : Rat) * f')) * f = (g * f) * f := by rw [h3]
    have h5 : (g * ((m : Rat) * f')) * f = ((m : Rat) * f') * (g * f) := by grind
    rw [h5, h, Rat.mul_one, Rat.one_mul] at h4
    exact h4
  rw [Rat.intCast_mul, Rat.mul_assoc, e2] at h2
  exact h2
theorem fine_up {m : Int} {g' f' : Rat} (hg : 0 < g) (h : g * f = 1) (hm : 0 < m) (e : g' = g * (m : Rat)) (h' : g' * f' = 1) (a : Rat) : upG g' f' a ≤ upG g f a := by
  have h1 := fine_dn hg h hm e h' (-a)
  have e1 : ∀ g f : Rat, upG g f a = -(dnG g f (-a)) := fun g f => by
    unfold upG dnG ceilI
    rw [Rat.neg_mul, Rat.intCast_neg, Rat.neg_mul]
  rw [e1, e1]
  exact Rat.neg_le_neg h1
theorem near_two (q : Rat) : (nearI q = q.floor ∧ q - q.floor ≤ 1 / 2) ∨ (nearI q = q.floor + 1 ∧ 1 / 2 ≤ q - q.floor) := by
  unfold nearI
  split
  · rename_i h
    refine .inl ⟨rfl, ?_⟩
    rcases h with h | h
    · exact Rat.le_of_lt h
    · rw [h.1]; exact Rat.le_refl
  · rename_i h
    exact .inr ⟨rfl, by
      rcases Classical.em (q - (q.floor : Rat) < 1 / 2) with h1 | h1
      · exact absurd (.inl h1) h
      · exact Rat.not_lt.1 h1⟩
theorem rd_G (hg : 0 < g) (h : g * f = 1) (a : Rat) : (rdG g f a = dnG g f a ∨ rdG g f a = upG g f a) ∧ (rdG g f a - a ≤ a - dnG g f a ∧ a - rdG g f a ≤ a - dnG g f a) ∧ (rdG g f a - a ≤ upG g f a - a ∧ a - rdG g f a ≤ upG g f a - a) := by
  have hf := grid_f hg h
  have hb := scale_back h a
  have h1 := floor_le_ceilI (a * g)
  have h2 := ceilI_floor (a * g)
  have hfl := Rat.floor_le (a * g)
  unfold rdG dnG upG
  have key : ∀ x y : Rat, x ≤ y → x * f ≤ y * f := fun x y hxy => (mulf_le hf).2 hxy
  have one : ((1 : Int) : Rat) = 1 := rfl
  rcases near_two (a * g) with ⟨e, hh⟩ | ⟨e, hh⟩
  · rw [e]
    refine ⟨.inl rfl, ⟨?_, ?_⟩, ?_, ?_⟩
    · have := key _ _ hfl
      grind
    · grind
    · have := key _ _ (Rat.intCast_le_intCast.2 h1)
      grind
    · have k1 : (a * g) - ((a * g).floor : Rat) ≤ ((ceilI (a * g) : Int) : Rat) - a * g := by
        by_cases e2 : ceilI (a * g) = (a * g).floor
        · have := floor_eq_ceilI.1 e2
          rw [e2]; grind
        · have e3 : ceilI (a * g) = (a * g).floor + 1 := by omega
          rw [e3, Rat.intCast_add]; grind
      have := key _ _ k1
      grind
  · have e2 : ceilI (a * g) = (a * g).floor + 1 := by
      have h3 : ¬ ceilI (a * g) = (a * g).floor := fun e2 => by
        have := floor_eq_ceilI.1 e2
        grind
      omega
    rw [e, e2]
    have hl := @Rat.lt_floor (a * g)
    refine ⟨.inr rfl, ⟨?_, ?_⟩, ?_, ?_⟩
    · have := key ((((a * g).floor + 1 : Int) : Rat) - a * g) (a * g - ((a * g).floor : Rat)) (by rw [Rat.intCast_add]; grind)
      grind
    · have := key (a * g - (((a * g).floor + 1 : Int) : Rat)) (a * g - ((a * g).floor : Rat)) (by rw [Rat.intCast_add]; grind)
      grind
    · grind
    · have := key (a * g - (((a * g).floor + 1 : Int) : Rat)) ((((a * g).floor + 1 : Int) : Rat) - a * g) (by rw [Rat.intCast_add]; grind)
      grind
end
end Go.Proofs.Fl
namespace Go.Proofs.Fl
open Go.RowKit Go.Proofs.Dig
attribute [local irreducible] IntKind.wrap PureC MutC MakC IterC
def Gk (k : Int) : Rat := (((gk k : Nat) : Int) : Rat)
def fk (k : Int) : Rat := mkRat 1 (gk k)
def dnK (a : Rat) (k : Int) : Rat := dnG (Gk k) (fk k) a
def upK (a : Rat) (k : Int) : Rat := upG (Gk k) (fk k) a
noncomputable def rdK (a : Rat) (k : Int) : Rat := rdG (Gk k) (fk k) a
theorem Gk_pos (k : Int) : 0 < Gk k := Rat.intCast_pos.2 (by have := gk_pos k; omega)
theorem Gk_fk (k : Int) : Gk k * fk k = 1 := by
  unfold Gk fk
  have h0 : ((((gk k : Nat) : Int)) : Rat) ≠ 0 := fun e => by
    have := Rat.intCast_eq_zero_iff.1 e
    have := gk_pos k
    omega
  rw [Rat.mkRat_eq_div, Rat.div_def]
  have : ((1 : Int) : Rat) = 1 := rfl
  rw [this, Rat.one_mul]
  exact Rat.mul_inv_cancel _ h0
theorem Gk_finer {k z : Int} (h : intoN k 256 ≤ intoN z 256) : ∃ m : Int, 0 < m ∧ Gk z = Gk k * (m : Rat) := by
  refine ⟨((2 ^ (intoN z 256 - intoN k 256) : Nat) : Int), by have := Nat.pow_pos (n := intoN z 256 - intoN k 256) (show 0 < 2 by decide); omega, ?_⟩
  unfold Gk gk
  rw [← Rat.intCast_mul, ← Int.natCast_mul, ← Nat.pow_add]
  congr 4
  omega
section
variable {J : Keep} {a : Rat}
theorem dnC (ha : rl a < 2 ^ 20) (k : Int) : C J 40 [qr a, .int .i64 k] (qr (dnK a k)) := f40_ok (base J) (by have := qr_lt ha; omega) k
theorem upK_eq (a : Rat) (k : Int) : upK a k = (-((-(a * (((gk k : Nat) : Int) : Rat))).floor : Rat) * mkRat 1 (gk k)) := by
  unfold upK upG ceilI
  rw [Rat.intCast_neg]
  rfl
theorem upC (ha : rl a < 2 ^ 20) (k : Int) : C J 41 [qr a, .int .i64 k] (qr (upK a k)) := by
  rw [upK_eq]
  exact f41_ok (base J) (by have := qr_lt ha; omega) k
theorem rdC (ha : rl a < 2 ^ 20) (k : Int) : C J 42 [qr a, .int .i64 k] (qr (rdK a k)) := f42_ok (base J) (by have := qr_lt ha; omega) k
theorem spC (ha : rl a < 2 ^ 20) (k : Int) : C J 45 [qr a, .int .i64 k] (sd (dnK a k) (upK a k)) := by
  rw [upK_eq]
  exact f45_ok (base J) (by have := qr_lt ha; omega) k
theorem fineC (k : Int) : C J 46 [.int .i64 k] (qr (fk k)) := f46_ok (base J) k
theorem rl_dnK (a : Rat) (k : Int) : rl (dnK a k) ≤ rl a + 600 := rl_down a k
theorem rl_upK (a : Rat) (k : Int) : rl (upK a k) ≤ rl a + 600 := by rw [upK_eq]; exact rl_up a k
theorem rl_rdK (a : Rat) (k : Int) : rl (rdK a k) ≤ rl a + 600 := rl_round a k
theorem rl_fk (k : Int) : rl (fk k) ≤ 258 := rl_fine k
theorem qabs_le {q b : Rat} : qabs q ≤ b ↔ q ≤ b ∧ -q ≤ b := by
  unfold qabs
  have h : q.num < 0 ↔ q < 0 := by
    have := @rat_num_nonneg q
    constructor
    · intro h; exact Rat.not_le.1 fun e => by have := this.2 e; omega
    · intro h; exact Int.not_le.1 fun e => Rat.not_le.2 h (this.1 e)
  by_cases h1 : q.num < 0
  · rw [if_pos h1]
    have := h.1 h1
    constructor
    · intro h2; exact ⟨by grind, h2⟩
    · exact fun h2 => h2.2
  · rw [if_neg h1]
    have : ¬ q < 0 := fun e => h1 (h.2 e)
    constructor
    · intro h2; exact ⟨h2, by grind⟩
    · exact fun h2 => h2.1
theorem absC (a : Rat) : C J 54 [qr a] (qr (qabs a)) := by
  have h := f54_ok J a
  have e : qr (qabs a) = qd (a.num.natAbs : Int) a.den := by
    unfold qr qabs
    split
    · rw [Rat.neg_num, Rat.neg_den]; congr 1; omega
    · congr 1; omega
  rw [e]; exact h
theorem rl_qabs (q : Rat) : rl (qabs q) = rl q := by
  unfold qabs
  split
  · exact rl_neg q
  · rfl
end
end Go.Proofs.Fl
namespace Go.Proofs.Fl
open Go.RowKit Go.Proofs.Dig
attribute [local irreducible] IntKind.wrap PureC MutC MakC IterC
theorem index_none {x : UInt8} : ∀ {u : List UInt8}, ¬ x ∈ u → Lib.index u [x] = -1
  | [], _ => rfl
  | y :: u, h => by
    simp only [List.mem_cons, not_or] at h
    unfold Lib.index
    rw [if_neg (by simp [h.1]), index_none h.2]
    rfl
theorem index_at {x : UInt8} : ∀ {u v : List UInt8}, ¬ x ∈ u → Lib.index (u ++ x :: v) [x] = (u.length : Int)
  | [], v, _ => by
    show Lib.index (x :: v) [x] = _
    unfold Lib.index
    rw [if_pos (by simp)]; rfl
  | y :: u, v, h => by
    simp only [List.mem_cons, not_or] at h
    show Lib.index (y :: (u ++ x :: v)) [x] = _
    unfold Lib.index
    rw [if_neg (by simp [h.1]), index_at h.2, if_neg (by simp)]
    simp
theorem cut_none {x : UInt8} {u : List UInt8} (h : ¬ x ∈ u) : Lib.cut u [x] = (u, [], false) := by
  unfold Lib.cut
  rw [index_none h, if_neg (by decide)]
theorem cut_at {x : UInt8} {u v : List UInt8} (h : ¬ x ∈ u) : Lib.cut (u ++ x :: v) [x] = (u, v, true) := by
  unfold Lib.cut
  rw [index_at h, if_pos (by omega)]
  simp
theorem pre_none {x : UInt8} {u : List UInt8} (h : ¬ x ∈ u) : Lib.hasPrefix u [x] = false ∧ Lib.trimPrefix u [x] = u := by
  have e : Lib.hasPrefix u [x] = false := by
    unfold Lib.hasPrefix
    cases u with
    | nil => rfl
    | cons y u =>
      have h1 : x ≠ y := fun e => h (by rw [e]; exact List.mem_cons_self)
      show (x == y && List.isPrefixOf [] u) = false
      rw [beq_eq_false_iff_ne.2 h1]; rfl
  exact ⟨e, by unfold Lib.trimPrefix; rw [e]; rfl⟩
theorem pre_at {x : UInt8} {u : List UInt8} : Lib.hasPrefix (x :: u) [x] = true ∧ Lib.trimPrefix (x :: u) [x] = u := by
  have e : Lib.hasPrefix (x :: u) [x] = true := by unfold Lib.hasPrefix; simp
  exact ⟨e, by unfold Lib.trimPrefix; rw [e]; rfl⟩
theorem dec_all (n : Nat) : (decN n).all digB = true := by
  rw [List.all_eq_true]
  intro c hc
  exact decide_eq_true (decN_digits n c hc)
theorem dec_head {n : Nat} (h : 10 ≤ n) : (decN n).head? ≠ some 48 := by
  induction n using Nat.strongRecOn with
  | _ n ih =>
    rw [decN_big h, List.head?_append]
    by_cases h2 : 10 ≤ n / 10
    · have h3 := ih (n / 10) (by omega) h2
      cases hd : (decN (n / 10)).head? with
      | none => exact absurd (List.head?_eq_none_iff.1 hd) (decN_ne _)
      | some x => rw [hd] at h3; simpa using h3
    · rw [decN_small (by omega)]
      simp only [List.head?_cons, Option.some_or, ne_eq, Option.some.injEq]
      intro e
      have := congrArg UInt8.toNat e
      rw [dig8_toNat (by omega)] at this
      have h4 : (48 : UInt8).toNat = 48 := rfl
      omega
theorem dec_int (n : Nat) : intS (decN n) = true := by
  unfold intS digs
  rw [dec_all, Bool.and_true]
  have h0 := decN_ne n
  have e0 : (decN n).isEmpty = false := by
    cases hd : decN n with
    | nil => exact absurd hd h0
    | cons => rfl
  rw [e0]
  by_cases h : n < 10
  · rw [decN_small h]; rfl
  · rw [decide_eq_true (dec_head (by omega)), Bool.or_true]; rfl
theorem dec_zero {n : Nat} (h : decN n = [48]) : n = 0 := by
  have := dv_decN n
  rw [h] at this
  exact this.symm
theorem tail_parse {m : Bool} {s t : List UInt8} {q : Rat} (hl : s.length ≤ 1000) (h1 : Lib.hasPrefix s [45] = m) (h2 : Lib.trimPrefix s [45] = t) (ht : t = decN q.num.natAbs ++ (if q.den = 1 then [] else 47 :: decN q.den)) (hm : sv m q.num.natAbs = q.num) : parseQ s = (q, 0) := by
  unfold parseQ
  rw [if_neg (by omega), h1, h2]
  have n47 := @decN_no q.num.natAbs 47 (by decide)
  have n101 : ¬ (101 : UInt8) ∈ decN q.num.natAbs := fun h => by have := decN_digits _ _ h; revert this; decide
  have n46 := @decN_no q.num.natAbs 46 (by decide)
  by_cases hd : q.den = 1
  · rw [if_pos hd, List.append_nil] at ht
    rw [ht, cut_none n47]
    dsimp only
    rw [if_neg (by simp), cut_none n101]
    dsimp only
    rw [cut_none n46]
    dsimp only
    rw [dec_int]
    have e1 : Lib.hasPrefix ([] : List UInt8) [45] = false := rfl
    have e2 : Lib.trimPrefix ([] : List UInt8) [45] = [] := rfl
    rw [e1, e2]
    rw [if_neg (by simp), if_neg (by decide)]
    have e3 : (if false = true then -((dv [] : Nat) : Int) else ((dv [] : Nat) : Int)) - (([] : List UInt8).length : Int) = 0 := rfl
    rw [e3]
    have e4 : (0 : Int).toNat = 0 := rfl
    have e5 : (-0 : Int).toNat = 0 := rfl
    rw [e4, e5, List.append_nil, dv_decN, Nat.pow_zero, Nat.mul_one, hm]
    rw [← hd, Rat.mkRat_self]
  · rw [if_neg hd] at ht
    rw [ht, cut_at n47]
    dsimp only
    rw [if_pos rfl, dec_int, dec_int, if_neg (by simp), if_neg (fun h => q.den_nz (dec_zero h)), dv_decN, dv_decN, hm, Rat.mkRat_self]
theorem parse_text {q : Rat} (hl : (qtext q).length ≤ 1000) : parseQ (qtext q) = (q, 0) := by
  have e : qtext q = (if q.num < 0 then [45] else []) ++ (decN q.num.natAbs ++ (if q.den = 1 then [] else 47 :: decN q.den)) := by
    unfold qtext ztext
    split <;> split <;> simp
  by_cases h : q.num < 0
  · rw [if_pos h] at e
    have e' : qtext q = 45 :: (decN q.num.natAbs ++ (if q.den = 1 then [] else 47 :: decN q.den)) := e
    refine tail_parse (m := true) hl (by rw [e']; exact pre_at.1) (by rw [e']; exact pre_at.2) rfl ?_
    unfold sv
    rw [if_pos rfl]; omega
  · rw [if_neg h, List.nil_append] at e
    have hn : ¬ (45 : UInt8) ∈ qtext q := by
      rw [e, List.mem_append]
      intro h1
      rcases h1 with h1 | h1
      · exact decN_no (by decide) h1
      · split at h1
        · simp at h1
        · simp only [List.mem_cons] at h1
          rcases h1 with h1 | h1
          · exact absurd h1 (by decide)
          · exact decN_no (by decide) h1
    refine tail_parse (m := false) hl (pre_none hn).1 (pre_none hn).2 e ?_
    unfold sv
    rw [if_neg (by simp)]; omega
end Go.Proofs.Fl
namespace Go.Proofs.Fl
open Go.RowKit Go.Proofs.Dig
attribute [local irreducible] IntKind.wrap PureC MutC MakC IterC
theorem dh_zero' : dh 0 = [] := by
  have h := lh_le (n := 0) (k := 0) (by decide)
  unfold lh at h
  exact List.length_eq_zero_iff.1 (by omega)
theorem rx_none : rx none = .agg [.int .i64 0, .sl [], .int .i64 0, .sl []] := by
  show IV.agg [.int .i64 0, .sl ((dh 0).map d64), .int .i64 0, .sl []] = _
  rw [dh_zero']; rfl
theorem sx_none : sx none none = .agg [.int .i64 0, .sl [], .int .i64 0, .sl [], .int .i64 0, .sl [], .int .i64 0, .sl []] := by
  show IV.agg [.int .i64 0, .sl ((dh 0).map d64), .int .i64 0, .sl [], .int .i64 0, .sl ((dh 0).map d64), .int .i64 0, .sl []] = _
  rw [dh_zero']; rfl
theorem f44_e {J : Keep} (L : LibI J) {a b : Rat} {e f : Option Rat} (ha : rl a < 2 ^ 26) (hb : rl b < 2 ^ 26) (he : rl (vx e) < 2 ^ 26) (hf : rl (vx f) < 2 ^ 26) (h1 : a = vx e) (h2 : b = vx f) : C J 44 [sd a b, sx e f] (.bool true) := by
  refine fn_ok Tryz.func44 rfl rfl rfl ?_
  have c1 := f23_ok L (p := a) (rx_ok e) (by have := qr_lt ha; omega) (by omega)
  have c2 := f23_ok L (p := b) (rx_ok f) (by have := qr_lt hb; omega) (by omega)
  rw [decide_eq_true h1] at c1
  rw [decide_eq_true h2] at c2
  repeat (first | (refine W.RS (by kernel_rfl) ?_; conv => whnf) | (refine W.ret ?_; conv => whnf) | (refine ⟨_, c1, ?_⟩; conv => whnf) | (refine ⟨_, c2, ?_⟩; conv => whnf) | (refine ⟨_, fun _ => rfl, fun h => absurd h.symm Bool.false_ne_true, ?_⟩; conv => whnf))
  rfl
theorem pow_even {a : Rat} : ∀ m : Nat, 0 ≤ a ^ (2 * m)
  | 0 => by rw [Nat.mul_zero, Rat.pow_zero]; decide
  | m + 1 => by
    rw [show 2 * (m + 1) = 2 * m + 1 + 1 by omega, Rat.pow_succ, Rat.pow_succ, Rat.mul_assoc]
    exact Rat.mul_nonneg (pow_even m) (sq_nonneg a)
theorem choose3 {x y : Rat} (hx : 0 ≤ x) (hy : 0 ≤ y) : chooseL (fun c => decide (c < 0)) [x, y, 0] = 0 ∧ chooseL (fun c => decide (c > 0)) [x, y, 0] = chooseL (fun c => decide (c > 0)) [x, y] := by
  constructor
  · have e : chooseL (fun c => decide (c < 0)) [x, y, 0] = if decide (cmpR 0 (chooseL (fun c => decide (c < 0)) [x, y]) < 0) = true then 0 else chooseL (fun c => decide (c < 0)) [x, y] := rfl
    rw [e]
    have hm : 0 ≤ chooseL (fun c => decide (c < 0)) [x, y] := chooseL_all _ (P := fun q => 0 ≤ q) Rat.le_refl (by intro z hz; simp at hz; rcases hz with rfl | rfl <;> assumption)
    split
    · rfl
    · rename_i h
      have h1 : ¬ cmpR 0 (chooseL (fun c => decide (c < 0)) [x, y]) < 0 := fun e => h (decide_eq_true e)
      have h2 := cmpR_ge.1 (show 0 ≤ cmpR 0 (chooseL (fun c => decide (c < 0)) [x, y]) by omega)
      exact Rat.le_antisymm h2 hm
  · have e : chooseL (fun c => decide (c > 0)) [x, y, 0] = if decide (cmpR 0 (chooseL (fun c => decide (c > 0)) [x, y]) > 0) = true then 0 else chooseL (fun c => decide (c > 0)) [x, y] := rfl
    rw [e]
    have hm : 0 ≤ chooseL (fun c => decide (c > 0)) [x, y] := chooseL_all _ (P := fun q => 0 ≤ q) Rat.le_refl (by intro z hz; simp at hz; rcases hz with rfl | rfl <;> assumption)
    rw [if_neg (fun h => by
      have h1 := of_decide_eq_true h
      exact Rat.not_le.2 (cmpR_gt.1 h1) hm)]
theorem powE_val (a b : Rat) (n : Nat) : vx (chooseE (fun c => decide (c < 0)) (powE a b n)) = (powS a b n).1 ∧ vx (chooseE (fun c => decide (c > 0)) (powE a b n)) = (powS a b n).2 := by
  rw [chooseE_val, chooseE_val]
  unfold powE powS
  by_cases h : 0 < n ∧ n % 2 = 0 ∧ a.num < 0 ∧ 0 < b.num
  · rw [if_pos h, if_pos h]
    obtain ⟨m, rfl⟩ : ∃ m, n = 2 * m := ⟨n / 2, by omega⟩
    exact choose3 (pow_even m) (pow_even m)
  · rw [if_neg h, if_neg h]
    exact ⟨rfl, rfl⟩
end Go.Proofs.Fl
namespace Go.Proofs.Fl
open Go.RowKit Go.Proofs.Dig
attribute [local irreducible] IntKind.wrap PureC MutC MakC IterC
theorem divR_form (a b c d : Rat) : ∃ (p q : Rat) (e : Int), divR a b c d = .tup [sd p q, .int .i64 e] ∧ ((e = 2 ∧ p = 0 ∧ q = 0 ∧ (¬ cmpR a b ≤ 0 ∨ ¬ cmpR c d ≤ 0)) ∨ (e = 9 ∧ p = 0 ∧ q = 0 ∧ cmpR a b ≤ 0 ∧ cmpR c d ≤ 0 ∧ cmpR c 0 ≤ 0 ∧ cmpR 0 d ≤ 0) ∨
    (e = 0 ∧ p = minL (divE a b c d) ∧ q = maxL (divE a b c d) ∧ cmpR a b ≤ 0 ∧ cmpR c d ≤ 0 ∧ ¬ (cmpR c 0 ≤ 0 ∧ cmpR 0 d ≤ 0))) := by
  unfold divR
  by_cases h1 : ¬ cmpR a b ≤ 0 ∨ ¬ cmpR c d ≤ 0
  · rw [if_pos h1]
    exact ⟨0, 0, 2, rfl, .inl ⟨rfl, rfl, rfl, h1⟩⟩
  · rw [if_neg h1]
    by_cases h2 : cmpR c 0 ≤ 0 ∧ cmpR 0 d ≤ 0
    · rw [if_pos h2]
      exact ⟨0, 0, 9, rfl, .inr (.inl ⟨rfl, rfl, rfl, by omega, by omega, h2.1, h2.2⟩)⟩
    · rw [if_neg h2]
      exact ⟨_, _, 0, rfl, .inr (.inr ⟨rfl, rfl, rfl, by omega, by omega, h2⟩)⟩
theorem rl_list {l : List Rat} {N : Nat} (h0 : 1 < N) (h : ∀ x ∈ l, rl x < N) (b : Int → Bool) : rl (chooseL b l) < N := rl_max h h0 b
theorem rl_divE {a b c d : Rat} (ha : rl a ≤ 52) (hb : rl b ≤ 52) (hc : rl c ≤ 52) (hd : rl d ≤ 52) : ∀ x ∈ divE a b c d, rl x < 200 := by
  intro x hx
  simp only [divE, List.mem_cons, List.not_mem_nil, or_false] at hx
  have h1 := rl_div a c
  have h2 := rl_div a d
  have h3 := rl_div b c
  have h4 := rl_div b d
  rcases hx with rfl | rfl | rfl | rfl <;> omega
def powW (p : Int) : Int := if p > 40 then p.tmod 40 else p
theorem absP_form (a b : Rat) : ∃ p q e f, (if 0 ≤ a.num then sd a b else if b.num ≤ 0 then sd (-b) (-a) else sd 0 (maxL [-a, b])) = sd p q ∧ (if 0 ≤ a.num then sx (some a) (some b) else if b.num ≤ 0 then sx (some (-b)) (some (-a)) else sx none (some (maxL [-a, b]))) = sx e f ∧ p = vx e ∧ q = vx f ∧
    (rl a ≤ 52 → rl b ≤ 52 → rl p ≤ 52 ∧ rl q ≤ 52) := by
  by_cases h1 : 0 ≤ a.num
  · rw [if_pos h1, if_pos h1]
    exact ⟨a, b, some a, some b, rfl, rfl, rfl, rfl, fun h k => ⟨h, k⟩⟩
  · rw [if_neg h1, if_neg h1]
    by_cases h2 : b.num ≤ 0
    · rw [if_pos h2, if_pos h2]
      exact ⟨-b, -a, some (-b), some (-a), rfl, rfl, rfl, rfl, fun h k => ⟨by rw [rl_neg]; exact k, by rw [rl_neg]; exact h⟩⟩
    · rw [if_neg h2, if_neg h2]
      refine ⟨0, maxL [-a, b], none, some (maxL [-a, b]), rfl, rfl, rfl, rfl, fun h k => ⟨by have := rl_zero; omega, ?_⟩⟩
      have := rl_list (l := [-a, b]) (N := 53) (by decide) (by intro x hx; simp at hx; rcases hx with rfl | rfl; (rw [rl_neg]; omega); omega) (fun c => decide (c > 0))
      show rl (chooseL _ _) ≤ 52
      omega
theorem rl_powS {a b : Rat} (ha : rl a ≤ 52) (hb : rl b ≤ 52) {n : Nat} (hn : n ≤ 1000) : rl (powS a b n).1 < 2 ^ 20 ∧ rl (powS a b n).2 < 2 ^ 20 := by
  have h1 := rl_pow a n
  have h2 := rl_pow b n
  have h3 := Nat.mul_le_mul hn ha
  have h4 := Nat.mul_le_mul hn hb
  have h5 : ∀ x ∈ [a ^ n, b ^ n], rl x < 2 ^ 20 := by
    intro x hx
    simp only [List.mem_cons, List.not_mem_nil, or_false] at hx
    rcases hx with rfl | rfl <;> omega
  unfold powS
  refine ⟨?_, rl_list (by decide) h5 _⟩
  dsimp only
  split
  · have := rl_zero; omega
  · exact rl_list (by decide) h5 _
end Go.Proofs.Fl
