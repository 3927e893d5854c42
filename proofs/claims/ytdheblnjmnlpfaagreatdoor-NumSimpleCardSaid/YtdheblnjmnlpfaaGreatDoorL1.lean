/-
  The card of NumSimple is proved: the law's function returns true at every argument of its shape; no condition.
-/
import Derived.Test.YtdheblnjmnlpfaaGreatDoorB10
namespace Go.Proofs.Fl
open Go.RowKit Go.Proofs.Dig
attribute [local irreducible] IntKind.wrap PureC MutC MakC IterC
theorem hvt (v : Bool) : (v == v) = true := by cases v <;> rfl
end Go.Proofs.Fl
namespace Go.Proofs.Fl
open Go.RowKit Go.Proofs.Dig
attribute [local irreducible] IntKind.wrap PureC MutC MakC IterC
def Hold (p : Prop) : Prop := p
theorem W.joinH {J : Keep} {nt : Nat} {σ : AS} {K : Exit → AS → Prop} {G : Type} (inv : G → AS) {x y : Code} (h1 : Hold (W J nt x σ (joinK inv K))) (h2 : ∀ g, W J nt y (inv g) K) : W J nt (.seq x y) σ K := W.join inv (by unfold Hold at h1; exact h1) h2
attribute [irreducible] Hold
theorem of_form (J : Keep) {n d : Int} (h1 : -9223372036854775808 ≤ n) (h2 : n ≤ 9223372036854775807) (h3 : -9223372036854775808 ≤ d) (h4 : d ≤ 9223372036854775807) : ∃ c e, C J 57 [.int .i64 n, .int .i64 d] (.tup [qr c, .int .i64 e]) ∧ ((d = 0 ∧ e = 9 ∧ c = 0) ∨ (d ≠ 0 ∧ e = 0 ∧ C J 29 [.int .i64 n, .int .i64 d] (rr c) ∧ rl c ≤ 13)) := by
  by_cases h : d = 0
  · subst h
    exact ⟨0, 9, f57_zero J h1 h2, .inl ⟨rfl, rfl, rfl⟩⟩
  · have hb := rl_base h1 h2 h3 h4
    unfold baseN at hb
    rw [if_neg h] at hb
    exact ⟨_, 0, f57_ok (base J) h1 h2 h3 h4 h, .inr ⟨h, rfl, f29_ok J h1 h2 h3 h4 h, hb⟩⟩
end Go.Proofs.Fl
namespace Go.Proofs.Fl
open Go.RowKit Go.Proofs.Dig
attribute [local irreducible] IntKind.wrap PureC MutC MakC IterC
theorem rl_parts (q : Rat) : rl ((q.num : Int) : Rat) ≤ rl q + 1 ∧ rl (((q.den : Int)) : Rat) ≤ rl q + 1 := by
  have h1 := rl_int q.num
  have h2 := rl_int (q.den : Int)
  rw [Int.natAbs_natCast] at h2
  have e : rl q = lh q.num.natAbs + lh q.den := rfl
  omega
end Go.Proofs.Fl
namespace Go.Proofs.Fl
open Go.RowKit Go.Proofs.Dig
attribute [local irreducible] IntKind.wrap PureC MutC MakC IterC
def ptQ (p : Nat) : Rat := ((((p % 101 : Nat) : Int)) : Rat) / ((100 : Int) : Rat)
def wiQ (a b : Rat) (p : Nat) : Rat := a + (b - a) * ptQ p
theorem ptQ_in (p : Nat) : 0 ≤ ptQ p ∧ ptQ p ≤ 101 / 100 ∧ (p % 101 ≤ 100 → ptQ p ≤ 1) := by
  have h0 : (0 : Rat) < ((100 : Int) : Rat) := by decide
  have h1 : ptQ p * ((100 : Int) : Rat) = (((p % 101 : Nat) : Int) : Rat) := by
    unfold ptQ
    rw [Rat.div_def, Rat.mul_assoc, Rat.inv_mul_cancel _ (by decide), Rat.mul_one]
  have hc : ((100 : Int) : Rat) = 100 := rfl
  rw [hc] at h1
  have h2 : (0 : Rat) ≤ (((p % 101 : Nat) : Int) : Rat) := Rat.intCast_nonneg.2 (by omega)
  have h3 : (((p % 101 : Nat) : Int) : Rat) ≤ ((100 : Int) : Rat) := Rat.intCast_le_intCast.2 (by omega)
  rw [hc] at h3
  refine ⟨?_, ?_, fun _ => ?_⟩ <;> grind
theorem wiQ_in {a b : Rat} (h : a ≤ b) (p : Nat) : a ≤ wiQ a b p ∧ wiQ a b p ≤ b := by
  obtain ⟨h1, _, h3⟩ := ptQ_in p
  have h3 := h3 (by omega)
  unfold wiQ
  have hw : 0 ≤ b - a := by grind
  have k1 := Rat.mul_nonneg hw h1
  have k2 : (b - a) * ptQ p ≤ (b - a) * 1 := by
    rw [Rat.mul_comm (b - a), Rat.mul_comm (b - a)]
    exact Rat.mul_le_mul_of_nonneg_right h3 hw
  constructor <;> grind
theorem rl_ptQ (p : Nat) : rl (ptQ p) ≤ 13 := by
  have := rl_base (n := ((p % 101 : Nat) : Int)) (d := 100) (by omega) (by omega) (by omega) (by omega)
  unfold baseN at this
  rw [if_neg (by decide)] at this
  exact this
theorem rl_wiQ {a b : Rat} (ha : rl a ≤ 52) (hb : rl b ≤ 52) (p : Nat) : rl (wiQ a b p) ≤ 2000 := by
  unfold wiQ
  have h1 := rl_sub b a
  have h2 := rl_mul (b - a) (ptQ p)
  have h3 := rl_ptQ p
  have h4 := rl_add a ((b - a) * ptQ p)
  omega
theorem f56_ok (J : Keep) {a b : Rat} (ha : rl a ≤ 52) (hb : rl b ≤ 52) (p : Nat) : C J 56 [sd a b, .int .u8 (p : Int)] (qr (wiQ a b p)) := by
  have hm : ((p : Nat) : Int).tmod 101 = ((p % 101 : Nat) : Int) := tmodN p 101
  have h3 := rl_ptQ p
  unfold wiQ
  have h1 := rl_sub b a
  have h2 := rl_mul (b - a) (ptQ p)
  have c1 := f57_ok (base J) (n := ((p % 101 : Nat) : Int)) (d := 100) (by omega) (by omega) (by omega) (by omega) (by omega)
  change C J 57 _ (.tup [qr (ptQ p), .int .i64 0]) at c1
  have qa := qln_rl a
  have qb := qln_rl b
  have c2 := f93_ok (base J) (a := a) (b := b) (by omega) (by omega)
  have c3 := mulC (J := J) (a := b - a) (b := ptQ p) (by omega) (by omega)
  have c4 := addC (J := J) (a := a) (b := (b - a) * ptQ p) (by omega) (by omega)
  have w1 : IntKind.wrap .i64 (((p % 101 : Nat) : Int)) = ((p % 101 : Nat) : Int) := w64 (by omega)
  refine fn_ok Tryz.func56 rfl rfl rfl ?_
  repeat (first | (refine W.RS (by kernel_rfl) ?_; conv => whnf) | (refine W.ret ?_; conv => whnf) | (refine ⟨by omega, _, hm, ?_⟩; conv => whnf) | (refine ⟨_, w1, ?_⟩; conv => whnf) | (refine ⟨_, c1, ?_⟩; conv => whnf) | (refine ⟨_, c2, ?_⟩; conv => whnf) | (refine ⟨_, c3, ?_⟩; conv => whnf) | (refine ⟨_, c4, ?_⟩; conv => whnf) | (refine ⟨rfl, ?_⟩; conv => whnf))
  rfl
def simB (a b : Rat) : Bool := decide (a.den < b.den) || (decide (a.den = b.den) && decide (qabs a < qabs b))
theorem f58_ok (J : Keep) {a b : Rat} (ha : rl a < 2 ^ 20) (hb : rl b < 2 ^ 20) : C J 58 [qr a, qr b] (.bool (simB a b)) := by
  have qa := qln_rl a
  have qb := qln_rl b
  have c1 := f84_ok J (q := a) (by omega)
  have c2 := f84_ok J (q := b) (by omega)
  have p1 := (rl_parts a).2
  have p2 := (rl_parts b).2
  have c3 := cmpC (J := J) (a := ((a.den : Int) : Rat)) (b := ((b.den : Int) : Rat)) (by omega) (by omega)
  have c4 := absC (J := J) a
  have c5 := absC (J := J) b
  have c6 := cmpC (J := J) (a := qabs a) (b := qabs b) (by rw [rl_qabs]; omega) (by rw [rl_qabs]; omega)
  have e1 : cmpR ((a.den : Int) : Rat) ((b.den : Int) : Rat) < 0 ↔ a.den < b.den := by
    rw [cmpR_lt, Rat.intCast_lt_intCast]; omega
  have e2 : cmpR ((a.den : Int) : Rat) ((b.den : Int) : Rat) = 0 ↔ a.den = b.den := by
    rw [cmpR_eq, Rat.intCast_inj]; omega
  have e3 := @cmpR_lt (qabs a) (qabs b)
  obtain ⟨v1, h1⟩ : ∃ v, cmpR ((a.den : Int) : Rat) ((b.den : Int) : Rat) = v := ⟨_, rfl⟩
  obtain ⟨v2, h2⟩ : ∃ v, cmpR (qabs a) (qabs b) = v := ⟨_, rfl⟩
  rw [h1] at c3 e1 e2
  rw [h2] at c6 e3
  unfold simB
  refine fn_ok Tryz.func58 rfl rfl rfl ?_
  by_cases k1 : v1 < 0
  · rw [decide_eq_true (e1.1 k1), Bool.true_or]
    repeat (first | (refine W.RS (by kernel_rfl) ?_; conv => whnf) | (refine W.ret ?_; conv => whnf) | (refine ⟨_, c1, ?_⟩; conv => whnf) | (refine ⟨_, c2, ?_⟩; conv => whnf) | (refine ⟨_, c3, ?_⟩; conv => whnf) | (refine ⟨true, decide_eq_true (by omega), ?_⟩; conv => whnf) | (refine ⟨rfl, ?_⟩; conv => whnf) | (refine ⟨_, fun _ => rfl, fun h => absurd h.symm Bool.false_ne_true, ?_⟩; conv => whnf))
    rfl
  · rw [decide_eq_false (fun h => k1 (e1.2 h)), Bool.false_or]
    by_cases k2 : v1 = 0
    · rw [decide_eq_true (e2.1 k2), Bool.true_and]
      by_cases k3 : v2 < 0
      · rw [decide_eq_true (e3.1 k3)]
        repeat (first | (refine W.RS (by kernel_rfl) ?_; conv => whnf) | (refine W.ret ?_; conv => whnf) | (refine ⟨_, c1, ?_⟩; conv => whnf) | (refine ⟨_, c2, ?_⟩; conv => whnf) | (refine ⟨_, c3, ?_⟩; conv => whnf) | (refine ⟨_, c4, ?_⟩; conv => whnf) | (refine ⟨_, c5, ?_⟩; conv => whnf) | (refine ⟨_, c6, ?_⟩; conv => whnf) | (refine ⟨true, decide_eq_true (by omega), ?_⟩; conv => whnf) | (refine ⟨false, decide_eq_false (by omega), ?_⟩; conv => whnf) | (refine ⟨rfl, ?_⟩; conv => whnf) | (refine ⟨_, fun h => absurd h Bool.false_ne_true, fun _ => rfl, ?_⟩; conv => whnf) | (refine ⟨_, fun _ => rfl, fun h => absurd h.symm Bool.false_ne_true, ?_⟩; conv => whnf))
        rfl
      · rw [decide_eq_false (fun h => k3 (e3.2 h))]
        repeat (first | (refine W.RS (by kernel_rfl) ?_; conv => whnf) | (refine W.ret ?_; conv => whnf) | (refine ⟨_, c1, ?_⟩; conv => whnf) | (refine ⟨_, c2, ?_⟩; conv => whnf) | (refine ⟨_, c3, ?_⟩; conv => whnf) | (refine ⟨_, c4, ?_⟩; conv => whnf) | (refine ⟨_, c5, ?_⟩; conv => whnf) | (refine ⟨_, c6, ?_⟩; conv => whnf) | (refine ⟨true, decide_eq_true (by omega), ?_⟩; conv => whnf) | (refine ⟨false, decide_eq_false (by omega), ?_⟩; conv => whnf) | (refine ⟨rfl, ?_⟩; conv => whnf) | (refine ⟨_, fun h => absurd h Bool.false_ne_true, fun _ => rfl, ?_⟩; conv => whnf) | (refine ⟨_, fun _ => rfl, fun h => absurd h.symm Bool.false_ne_true, ?_⟩; conv => whnf))
        rfl
    · rw [decide_eq_false (fun h => k2 (e2.2 h)), Bool.false_and]
      repeat (first | (refine W.RS (by kernel_rfl) ?_; conv => whnf) | (refine W.ret ?_; conv => whnf) | (refine ⟨_, c1, ?_⟩; conv => whnf) | (refine ⟨_, c2, ?_⟩; conv => whnf) | (refine ⟨_, c3, ?_⟩; conv => whnf) | (refine ⟨false, decide_eq_false (by omega), ?_⟩; conv => whnf) | (refine ⟨rfl, ?_⟩; conv => whnf) | (refine ⟨_, fun h => absurd h Bool.false_ne_true, fun _ => rfl, ?_⟩; conv => whnf))
      rfl
theorem qabs_parts (q : Rat) : (qabs q).num = (q.num.natAbs : Int) ∧ (qabs q).den = q.den := by
  unfold qabs
  split
  · rw [Rat.neg_num, Rat.neg_den]; exact ⟨by omega, rfl⟩
  · exact ⟨by omega, rfl⟩
theorem simB_no {x q : Rat} (h : q.den ≤ x.den ∧ q.num.natAbs ≤ x.num.natAbs) : simB x q = false := by
  unfold simB
  rw [decide_eq_false (by omega), Bool.false_or]
  by_cases hd : x.den = q.den
  · rw [decide_eq_true hd, Bool.true_and, decide_eq_false_iff_not, Rat.not_lt, Rat.le_iff]
    rw [(qabs_parts x).1, (qabs_parts x).2, (qabs_parts q).1, (qabs_parts q).2, hd]
    have := Nat.mul_le_mul_right q.den h.2
    exact_mod_cast this
  · rw [decide_eq_false hd, Bool.false_and]
theorem rl_simpR {a b : Rat} (h : a ≤ b) : rl (simpR a b) ≤ rl a := by
  obtain ⟨_, _, h3⟩ := simpR_spec h
  obtain ⟨k1, k2⟩ := h3 a Rat.le_refl h
  have l1 := lh_mono k1
  have l2 := lh_mono k2
  unfold rl
  omega
set_option maxHeartbeats 8000000 in
theorem f10_ok {J : Keep} (L : LibI J) {x : Gap6} (hx : x.ok) {p : Nat} {n d : Int} (hn : -9223372036854775808 ≤ n ∧ n ≤ 9223372036854775807) (hd : -9223372036854775808 ≤ d ∧ d ≤ 9223372036854775807) : C J 10 [x.iv, .int .u8 (p : Int), .int .i64 n, .int .i64 d] (.bool true) := by
  have cx := f24_ok J hx
  have ra := bothL hx.1
  have rb := bothL hx.2
  obtain ⟨a, ha⟩ : ∃ a, x.lo.q = a := ⟨_, rfl⟩
  obtain ⟨b, hb⟩ : ∃ b, x.hi.q = b := ⟨_, rfl⟩
  rw [ha, hb] at cx
  rw [ha] at ra
  rw [hb] at rb
  have qa := qln_rl a
  have qb := qln_rl b
  have aw := f19_ok L
  have c1 := f55_ok (J := J) (a := a) (b := b) (by omega) (by omega)
  by_cases hab : a ≤ b
  · rw [decide_eq_true (cmpR_le.2 hab)] at c1
    have c2 := f25_ok J (a := a) (b := b) (by omega) (by omega)
    unfold simpT at c2
    rw [if_pos hab] at c2
    have rq := rl_simpR hab
    obtain ⟨sp1, sp2, sp3⟩ := simpR_spec hab
    obtain ⟨q, hq⟩ : ∃ q, simpR a b = q := ⟨_, rfl⟩
    simp only [hq] at c2 rq sp1 sp2 sp3
    have c3 := f30_ok (J := J) (a := a) (b := b) (q := q) (by omega) (by omega) (by have := qln_rl q; omega)
    rw [decide_eq_true (cmpR_le.2 sp1), decide_eq_true (cmpR_le.2 sp2)] at c3
    have c4 := f56_ok J ra rb p
    obtain ⟨w1, w2⟩ := wiQ_in hab p
    have rw1 := rl_wiQ ra rb p
    obtain ⟨c, e, co, hco⟩ := of_form J hn.1 hn.2 hd.1 hd.2
    have rc : rl c ≤ 13 := by
      rcases hco with ⟨_, _, h⟩ | ⟨_, _, _, h⟩
      · rw [h]; have := rl_zero; omega
      · exact h
    have c5 := rdC (J := J) (a := wiQ a b p) (by omega) (((p % 16 : Nat)) : Int)
    have rr1 := rl_rdK (wiQ a b p) (((p % 16 : Nat)) : Int)
    have hm16 : ((p : Nat) : Int).tmod 16 = ((p % 16 : Nat) : Int) := tmodN p 16
    have wp16 : IntKind.wrap .i64 (((p % 16 : Nat) : Int)) = ((p % 16 : Nat) : Int) := w64 (by omega)
    obtain ⟨wi, hwi⟩ : ∃ q, wiQ a b p = q := ⟨_, rfl⟩
    rw [hwi] at c4 w1 w2 rw1 c5 rr1
    obtain ⟨rd, hrd⟩ : ∃ q, rdK wi (((p % 16 : Nat)) : Int) = q := ⟨_, rfl⟩
    rw [hrd] at c5 rr1
    have c6 := f58_ok J (a := wi) (b := q) (by omega) (by omega)
    rw [simB_no (sp3 wi w1 w2)] at c6
    have c7 := f30_ok (J := J) (a := a) (b := b) (q := c) (by omega) (by omega) (by have := qln_rl c; omega)
    have c8 := f58_ok J (a := c) (b := q) (by omega) (by omega)
    have k8 : (decide (cmpR a c ≤ 0) && decide (cmpR c b ≤ 0)) = true → simB c q = false := fun h => by
      simp only [Bool.and_eq_true, decide_eq_true_eq] at h
      exact simB_no (sp3 c (cmpR_le.1 h.1) (cmpR_le.1 h.2))
    have c9 := f30_ok (J := J) (a := a) (b := b) (q := rd) (by omega) (by omega) (by have := qln_rl rd; omega)
    have c10 := f58_ok J (a := rd) (b := q) (by omega) (by omega)
    have k10 : (decide (cmpR a rd ≤ 0) && decide (cmpR rd b ≤ 0)) = true → simB rd q = false := fun h => by
      simp only [Bool.and_eq_true, decide_eq_true_eq] at h
      exact simB_no (sp3 rd (cmpR_le.1 h.1) (cmpR_le.1 h.2))
    obtain ⟨B1, hB1⟩ : ∃ B, (decide (cmpR a c ≤ 0) && decide (cmpR c b ≤ 0)) = B := ⟨_, rfl⟩
    obtain ⟨B2, hB2⟩ : ∃ B, (decide (cmpR a rd ≤ 0) && decide (cmpR rd b ≤ 0)) = B := ⟨_, rfl⟩
    obtain ⟨B3, hB3⟩ : ∃ B, simB c q = B := ⟨_, rfl⟩
    obtain ⟨B4, hB4⟩ : ∃ B, simB rd q = B := ⟨_, rfl⟩
    rw [hB1] at c7 k8
    rw [hB2] at c9 k10
    rw [hB3] at c8 k8
    rw [hB4] at c10 k10
    refine fn_ok Tryz.func10 rfl rfl rfl ?_
    clear hB1 hB2 hB3 hB4 hwi hrd sp1 sp2 sp3 hq rq w1 w2 rw1 rr1 hco rc qa qb ra rb ha hb hx
    repeat (first | (refine W.joinH (x := .seq (.region 10 _ _) _) (G := Unit) (fun _ => mkA [] [] 100) ?_ (fun _ => ?_)) | (refine W.wkRS (id := 7) (σ' := mkA [(1, .iv (.int .u8 (p : Nat))), (2, .iv (.int .i64 n)), (3, .iv (.int .i64 d)), (9, .ptr 0 0), (11, .ptr 1 0)] [(0, .var (sd a b)), (1, .var (qr q))] 40) (Wk.tab [(0, 7), (1, 19)] ⟨⟨rfl, rfl⟩, ⟨rfl, rfl⟩, ⟨rfl, rfl⟩, ⟨rfl, rfl⟩, ⟨rfl, rfl⟩, trivial⟩ ⟨rfl, rfl, trivial⟩ rfl) (by kernel_rfl) ?_; conv => whnf) | (refine W.RS (by kernel_rfl) ?_; conv => whnf) | (refine W.S ?_) | (refine W.skip ?_; conv => whnf) | (refine W.condF rfl ?_) | (refine ⟨_, cx, ?_⟩; conv => whnf) | (refine ⟨_, c1, ?_⟩; conv => whnf) | (refine ⟨_, c2, ?_⟩; conv => whnf) | (refine ⟨_, c3, ?_⟩; conv => whnf) | (refine ⟨_, c4, ?_⟩; conv => whnf) | (refine ⟨_, co, ?_⟩; conv => whnf) | (refine ⟨_, c5, ?_⟩; conv => whnf) | (refine ⟨by omega, _, hm16, ?_⟩; conv => whnf) | (refine ⟨_, wp16, ?_⟩; conv => whnf) | (refine ⟨false, bne_eq_false_iff_eq.2 (by omega), ?_⟩; conv => whnf) | (refine ⟨_, rfl, ?_⟩; conv => whnf) | (refine ⟨rfl, ?_⟩; conv => whnf) | (refine ⟨_, fun h => absurd h Bool.false_ne_true, fun _ => rfl, ?_⟩; conv => whnf))
    · unfold Hold
      refine W.weak (σ' := mkA [(9, .ptr 0 0), (11, .ptr 1 0), (13, .ptr 2 0), (14, .ptr 3 0), (15, .iv (.int .i64 e)), (16, .ptr 4 0)] [(0, .var (sd a b)), (1, .var (qr q)), (2, .var (qr wi)), (3, .var (qr c)), (4, .var (qr rd))] 90) (Wk.tab [(2, 43), (3, 51), (4, 61)] ⟨⟨rfl, rfl⟩, ⟨rfl, rfl⟩, ⟨rfl, rfl⟩, ⟨rfl, rfl⟩, ⟨rfl, rfl⟩, ⟨rfl, rfl⟩, trivial⟩ ⟨rfl, rfl, rfl, rfl, rfl, trivial⟩ rfl) ?_
      by_cases he : e = 0
      · cases B1 with
        | true =>
          rw [k8 rfl] at c8
          cases B2 with
          | true =>
            rw [k10 rfl] at c10
            repeat (first | (refine W.RS (by kernel_rfl) ?_; conv => whnf) | (refine W.skip ?_; conv => whnf) | (refine W.condF rfl ?_) | (refine ⟨_, c6, ?_⟩; conv => whnf) | (refine ⟨_, c7, ?_⟩; conv => whnf) | (refine ⟨_, c8, ?_⟩; conv => whnf) | (refine ⟨_, c9, ?_⟩; conv => whnf) | (refine ⟨_, c10, ?_⟩; conv => whnf) | (refine ⟨true, decide_eq_true (by omega), ?_⟩; conv => whnf) | (refine ⟨rfl, ?_⟩; conv => whnf) | (refine ⟨_, fun h => absurd h Bool.false_ne_true, fun _ => rfl, ?_⟩; conv => whnf) | (refine ⟨_, fun _ => rfl, fun h => absurd h.symm Bool.false_ne_true, ?_⟩; conv => whnf))
            exact ⟨(), Wk.tab [] trivial trivial rfl⟩
          | false =>
            repeat (first | (refine W.RS (by kernel_rfl) ?_; conv => whnf) | (refine W.skip ?_; conv => whnf) | (refine W.condF rfl ?_) | (refine ⟨_, c6, ?_⟩; conv => whnf) | (refine ⟨_, c7, ?_⟩; conv => whnf) | (refine ⟨_, c8, ?_⟩; conv => whnf) | (refine ⟨_, c9, ?_⟩; conv => whnf) | (refine ⟨true, decide_eq_true (by omega), ?_⟩; conv => whnf) | (refine ⟨rfl, ?_⟩; conv => whnf) | (refine ⟨_, fun h => absurd h Bool.false_ne_true, fun _ => rfl, ?_⟩; conv => whnf) | (refine ⟨_, fun _ => rfl, fun h => absurd h.symm Bool.false_ne_true, ?_⟩; conv => whnf))
            exact ⟨(), Wk.tab [] trivial trivial rfl⟩
        | false =>
          cases B2 with
          | true =>
            rw [k10 rfl] at c10
            repeat (first | (refine W.RS (by kernel_rfl) ?_; conv => whnf) | (refine W.skip ?_; conv => whnf) | (refine W.condF rfl ?_) | (refine ⟨_, c6, ?_⟩; conv => whnf) | (refine ⟨_, c7, ?_⟩; conv => whnf) | (refine ⟨_, c9, ?_⟩; conv => whnf) | (refine ⟨_, c10, ?_⟩; conv => whnf) | (refine ⟨true, decide_eq_true (by omega), ?_⟩; conv => whnf) | (refine ⟨rfl, ?_⟩; conv => whnf) | (refine ⟨_, fun h => absurd h Bool.false_ne_true, fun _ => rfl, ?_⟩; conv => whnf) | (refine ⟨_, fun _ => rfl, fun h => absurd h.symm Bool.false_ne_true, ?_⟩; conv => whnf))
            exact ⟨(), Wk.tab [] trivial trivial rfl⟩
          | false =>
            repeat (first | (refine W.RS (by kernel_rfl) ?_; conv => whnf) | (refine W.skip ?_; conv => whnf) | (refine W.condF rfl ?_) | (refine ⟨_, c6, ?_⟩; conv => whnf) | (refine ⟨_, c7, ?_⟩; conv => whnf) | (refine ⟨_, c9, ?_⟩; conv => whnf) | (refine ⟨true, decide_eq_true (by omega), ?_⟩; conv => whnf) | (refine ⟨rfl, ?_⟩; conv => whnf) | (refine ⟨_, fun h => absurd h Bool.false_ne_true, fun _ => rfl, ?_⟩; conv => whnf) | (refine ⟨_, fun _ => rfl, fun h => absurd h.symm Bool.false_ne_true, ?_⟩; conv => whnf))
            exact ⟨(), Wk.tab [] trivial trivial rfl⟩
      · cases B2 with
        | true =>
          rw [k10 rfl] at c10
          repeat (first | (refine W.RS (by kernel_rfl) ?_; conv => whnf) | (refine W.skip ?_; conv => whnf) | (refine W.condF rfl ?_) | (refine ⟨_, c6, ?_⟩; conv => whnf) | (refine ⟨_, c9, ?_⟩; conv => whnf) | (refine ⟨_, c10, ?_⟩; conv => whnf) | (refine ⟨false, decide_eq_false (by omega), ?_⟩; conv => whnf) | (refine ⟨rfl, ?_⟩; conv => whnf) | (refine ⟨_, fun h => absurd h Bool.false_ne_true, fun _ => rfl, ?_⟩; conv => whnf) | (refine ⟨_, fun _ => rfl, fun h => absurd h.symm Bool.false_ne_true, ?_⟩; conv => whnf))
          exact ⟨(), Wk.tab [] trivial trivial rfl⟩
        | false =>
          repeat (first | (refine W.RS (by kernel_rfl) ?_; conv => whnf) | (refine W.skip ?_; conv => whnf) | (refine W.condF rfl ?_) | (refine ⟨_, c6, ?_⟩; conv => whnf) | (refine ⟨_, c9, ?_⟩; conv => whnf) | (refine ⟨false, decide_eq_false (by omega), ?_⟩; conv => whnf) | (refine ⟨rfl, ?_⟩; conv => whnf) | (refine ⟨_, fun h => absurd h Bool.false_ne_true, fun _ => rfl, ?_⟩; conv => whnf))
          exact ⟨(), Wk.tab [] trivial trivial rfl⟩
    · repeat (first | (refine W.RS (by kernel_rfl) ?_; conv => whnf) | (refine W.ret ?_; conv => whnf) | (refine ⟨_, aw, ?_⟩; conv => whnf))
      rfl
  · rw [decide_eq_false (fun h => hab (cmpR_le.1 h))] at c1
    refine fn_ok Tryz.func10 rfl rfl rfl ?_
    repeat (first | (refine W.RS (by kernel_rfl) ?_; conv => whnf) | (refine W.S ?_) | (refine W.ret ?_; conv => whnf) | (refine W.condT rfl ?_) | (refine ⟨_, cx, ?_⟩; conv => whnf) | (refine ⟨_, c1, ?_⟩; conv => whnf) | (refine ⟨_, aw, ?_⟩; conv => whnf) | (refine ⟨_, rfl, ?_⟩; conv => whnf))
    rfl
end Go.Proofs.Fl
