/-
  The card of NumGrids is proved: the law's function returns true at every argument of its shape; no condition.
-/
import Derived.Test.YtdheblnjmnlpfaaGreatDoorB10
namespace Go.Proofs.Fl
open Go.RowKit Go.Proofs.Dig
attribute [local irreducible] IntKind.wrap PureC MutC MakC IterC
theorem f53_t {J : Keep} {a b c d : Rat} (ha : rl a < 2 ^ 26) (hb : rl b < 2 ^ 26) (hc : rl c < 2 ^ 26) (hd : rl d < 2 ^ 26) (h1 : c ≤ a) (h2 : b ≤ d) : C J 53 [sd a b, sd c d] (.bool true) := by
  have h := f53_ok (J := J) (a := a) (b := b) (c := c) (d := d) (by have := qr_lt ha; omega) (by have := qr_lt hb; omega) (by have := qr_lt hc; omega) (by have := qr_lt hd; omega)
  rw [decide_eq_true (cmpR_le.2 h1), decide_eq_true (cmpR_le.2 h2)] at h
  exact h
def finZ (k m : Int) : Int := if 0 < m ∧ (if k < 0 then 0 else k) < 256 then (if k < 0 then 0 else k) + m.tmod 300 else (if k < 0 then 0 else k)
theorem tmod_pos {m : Int} (h : 0 < m) : 0 ≤ m.tmod 300 ∧ m.tmod 300 < 300 := ⟨Int.tmod_nonneg _ (by omega), Int.tmod_lt_of_pos _ (by omega)⟩
theorem finZ_ok (k m : Int) : intoN k 256 ≤ intoN (finZ k m) 256 := by
  unfold finZ intoN
  have h := @tmod_pos m
  split <;> split <;> omega
set_option maxHeartbeats 8000000 in
theorem f9_ok {J : Keep} (L : LibI J) {x : Num3} (hx : x.ok) {k m : Int} (hk : -9223372036854775808 ≤ k ∧ k ≤ 9223372036854775807) : C J 9 [x.iv, .int .i64 k, .int .i64 m] (.bool true) := by
  refine fn_ok Tryz.func9 rfl rfl rfl ?_
  have cx := bothC J hx
  have ra := bothL hx
  obtain ⟨a, ha⟩ : ∃ a, x.q = a := ⟨_, rfl⟩
  rw [ha] at cx ra
  unfold Num3.iv at *
  have hz0 := finZ_ok k m
  obtain ⟨z, hz⟩ : ∃ z, finZ k m = z := ⟨_, rfl⟩
  rw [hz] at hz0
  obtain ⟨μ, hm0, hm⟩ := Gk_finer hz0
  have g1 := Gk_pos k
  have g2 := Gk_fk k
  have f1 := dnG_le g1 g2 a
  have f2 := le_upG g1 g2 a
  have f3 := width_G g1 g2 a
  have f4 := dn_dn g2 a
  have f5 := up_up g2 a
  have f6 := up_dn g2 a
  have f7 := fine_dn g1 g2 hm0 hm (Gk_fk z) a
  have f8 := fine_up g1 g2 hm0 hm (Gk_fk z) a
  obtain ⟨f9, ⟨f10, f11⟩, f12, f13⟩ := rd_G g1 g2 a
  have r1 := rl_dnK a k
  have r2 := rl_upK a k
  have r3 := rl_dnK a z
  have r4 := rl_upK a z
  have r5 := rl_rdK a k
  have r6 := rl_fk k
  have c1 := dnC (J := J) (a := a) (by omega) k
  have c2 := upC (J := J) (a := a) (by omega) k
  have c3 := dnC (J := J) (a := dnK a k) (by omega) k
  have c4 := upC (J := J) (a := upK a k) (by omega) k
  have c5 := upC (J := J) (a := dnK a k) (by omega) k
  have c6 := spC (J := J) (a := a) (by omega) k
  have c7 := spC (J := J) (a := a) (by omega) z
  have c8 := dnC (J := J) (a := a) (by omega) z
  have c9 := rdC (J := J) (a := a) (by omega) k
  have c10 := fineC (J := J) k
  rw [show dnK (dnK a k) k = dnK a k from f4] at c3
  rw [show upK (upK a k) k = upK a k from f5] at c4
  rw [show upK (dnK a k) k = dnK a k from f6] at c5
  obtain ⟨lo, hlo⟩ : ∃ l, dnK a k = l := ⟨_, rfl⟩
  obtain ⟨hi, hhi⟩ : ∃ l, upK a k = l := ⟨_, rfl⟩
  obtain ⟨lz, hlz⟩ : ∃ l, dnK a z = l := ⟨_, rfl⟩
  obtain ⟨uz, huz⟩ : ∃ l, upK a z = l := ⟨_, rfl⟩
  obtain ⟨rd, hrd⟩ : ∃ l, rdK a k = l := ⟨_, rfl⟩
  obtain ⟨fi, hfi⟩ : ∃ l, fk k = l := ⟨_, rfl⟩
  change dnK a k ≤ a at f1
  change a ≤ upK a k at f2
  change (upK a k - dnK a k = 0 ∧ dnK a k = a) ∨ (upK a k - dnK a k = fk k ∧ dnK a k ≠ a) at f3
  change dnK a k ≤ dnK a z at f7
  change upK a z ≤ upK a k at f8
  change rdK a k = dnK a k ∨ rdK a k = upK a k at f9
  change rdK a k - a ≤ a - dnK a k at f10
  change a - rdK a k ≤ a - dnK a k at f11
  change rdK a k - a ≤ upK a k - a at f12
  change a - rdK a k ≤ upK a k - a at f13
  simp only [hlo, hhi, hlz, huz, hrd, hfi] at f1 f2 f3 f7 f8 f9 f10 f11 f12 f13 r1 r2 r3 r4 r5 r6 c1 c2 c3 c4 c5 c6 c7 c8 c9 c10
  clear f4 f5 f6 hlo hhi hlz huz hrd hfi hm g1 g2
  have s1 := rl_sub hi lo
  have s2 := rl_sub rd a
  have s3 := rl_qabs (rd - a)
  have s4 := rl_sub a lo
  have s5 := rl_sub hi a
  have d1 := subC (J := J) (a := hi) (b := lo) (by omega) (by omega)
  have d2 := cmpC (J := J) (a := lo) (b := a) (by omega) (by omega)
  have d3 := cmpC (J := J) (a := hi) (b := a) (by omega) (by omega)
  have k2 : cmpR lo a ≤ 0 := cmpR_le.2 f1
  have k3 : 0 ≤ cmpR hi a := cmpR_ge.2 f2
  have d4 := cmpC (J := J) (a := hi - lo) (b := fi) (by omega) (by omega)
  have d5 := sgnC' (J := J) (a := hi - lo) rfl
  have d6 := sameC' (J := J) L (a := lo) (b := a) (by omega) (by omega)
  have d7 := sameC (J := J) L (a := lo) (b := lo) rfl (by omega)
  have d8 := sameC (J := J) L (a := hi) (b := hi) rfl (by omega)
  have d9 := f53_t (J := J) (a := lz) (b := uz) (c := lo) (d := hi) (by omega) (by omega) (by omega) (by omega) f7 f8
  have d10 := cmpC (J := J) (a := lz) (b := lo) (by omega) (by omega)
  have k10 : 0 ≤ cmpR lz lo := cmpR_ge.2 f7
  have d11 := cmpC (J := J) (a := rd) (b := lo) (by omega) (by omega)
  have d12 := cmpC (J := J) (a := rd) (b := hi) (by omega) (by omega)
  have d13 := subC (J := J) (a := rd) (b := a) (by omega) (by omega)
  have d14 := absC (J := J) (rd - a)
  have d15 := subC (J := J) (a := a) (b := lo) (by omega) (by omega)
  have d16 := subC (J := J) (a := hi) (b := a) (by omega) (by omega)
  have d17 := cmpC (J := J) (a := qabs (rd - a)) (b := a - lo) (by omega) (by omega)
  have d18 := cmpC (J := J) (a := qabs (rd - a)) (b := hi - a) (by omega) (by omega)
  have k17 : cmpR (qabs (rd - a)) (a - lo) ≤ 0 := cmpR_le.2 (qabs_le.2 ⟨f10, by grind⟩)
  have k18 : cmpR (qabs (rd - a)) (hi - a) ≤ 0 := cmpR_le.2 (qabs_le.2 ⟨f12, by grind⟩)
  have k11 : cmpR rd lo = 0 ∨ cmpR rd hi = 0 := f9.imp cmpR_eq.2 cmpR_eq.2
  have k5 : (cmpR (hi - lo) 0 = 0 ∧ decide (lo = a) = true) ∨ (cmpR (hi - lo) 0 ≠ 0 ∧ cmpR (hi - lo) fi = 0 ∧ decide (lo = a) = false) := by
    rcases f3 with ⟨e1, e2⟩ | ⟨e1, e2⟩
    · exact .inl ⟨cmpR_eq.2 e1, decide_eq_true e2⟩
    · refine .inr ⟨fun e => e2 ?_, cmpR_eq.2 e1, decide_eq_false e2⟩
      have := cmpR_eq.1 e
      grind
  obtain ⟨v2, e2⟩ : ∃ v, cmpR lo a = v := ⟨_, rfl⟩
  obtain ⟨v3, e3⟩ : ∃ v, cmpR hi a = v := ⟨_, rfl⟩
  obtain ⟨v4, e4⟩ : ∃ v, cmpR (hi - lo) fi = v := ⟨_, rfl⟩
  obtain ⟨v5, e5⟩ : ∃ v, cmpR (hi - lo) 0 = v := ⟨_, rfl⟩
  obtain ⟨v6, e6⟩ : ∃ v, decide (lo = a) = v := ⟨_, rfl⟩
  obtain ⟨v10, e10⟩ : ∃ v, cmpR lz lo = v := ⟨_, rfl⟩
  obtain ⟨v11, e11⟩ : ∃ v, cmpR rd lo = v := ⟨_, rfl⟩
  obtain ⟨v12, e12⟩ : ∃ v, cmpR rd hi = v := ⟨_, rfl⟩
  obtain ⟨v17, e17⟩ : ∃ v, cmpR (qabs (rd - a)) (a - lo) = v := ⟨_, rfl⟩
  obtain ⟨v18, e18⟩ : ∃ v, cmpR (qabs (rd - a)) (hi - a) = v := ⟨_, rfl⟩
  have aw := f19_ok L
  simp only [e2, e3, e4, e5, e6, e10, e11, e12, e17, e18] at d2 d3 d4 d5 d6 d10 d11 d12 d17 d18 k2 k3 k5 k10 k11 k17 k18
  clear e2 e3 e4 e5 e6 e10 e11 e12 e17 e18 s1 s2 s3 s4 s5 r1 r2 r3 r4 r5 r6 f1 f2 f3 f7 f8 f9 f10 f11 f12 f13 hz0 hm0 ra hx ha
  have hr := @tmod_pos m
  obtain ⟨μr, hμ⟩ : ∃ r, m.tmod 300 = r := ⟨_, rfl⟩
  unfold finZ at hz
  rw [hμ] at hz hr
  obtain ⟨kz, hkz⟩ : ∃ v, (if k < 0 then 0 else k) = v := ⟨_, rfl⟩
  rw [hkz] at hz
  repeat (first | (refine W.join (x := .seq (.region 4 _ _) _) (G := Unit) (fun _ => mkA [(1, .iv (.int .i64 k)), (2, .iv (.int .i64 m)), (7, .ptr 0 0), (9, .ptr 1 0), (10, .ptr 2 0), (11, .ptr 3 0)] [(0, .var (qr a)), (1, .var (qr lo)), (2, .var (qr hi)), (3, .var (qr (hi - lo)))] 40) (W.weak (σ' := mkA [(1, .iv (.int .i64 k)), (2, .iv (.int .i64 m)), (7, .ptr 0 0), (9, .ptr 1 0), (10, .ptr 2 0), (11, .ptr 3 0)] [(0, .var (qr a)), (1, .var (qr lo)), (2, .var (qr hi)), (3, .var (qr (hi - lo)))] 40) (Wk.tab [(0, 7), (1, 17), (2, 18), (3, 24)] ⟨⟨rfl, rfl⟩, ⟨rfl, rfl⟩, ⟨rfl, rfl⟩, ⟨rfl, rfl⟩, ⟨rfl, rfl⟩, ⟨rfl, rfl⟩, trivial⟩ ⟨rfl, rfl, rfl, rfl, trivial⟩ rfl) ?_) (fun _ => ?_)) | (refine W.RS (by kernel_rfl) ?_; conv => whnf) | (refine ⟨_, cx, ?_⟩; conv => whnf) | (refine ⟨_, c1, ?_⟩; conv => whnf) | (refine ⟨_, c2, ?_⟩; conv => whnf) | (refine ⟨_, d1, ?_⟩; conv => whnf) | (refine ⟨rfl, ?_⟩; conv => whnf))
  · rcases k5 with ⟨k5, k6⟩ | ⟨k5, k6, k7⟩
    · subst k6
      repeat (first | (refine W.skip ?_; conv => whnf) | (refine W.condF rfl ?_) | (refine ⟨_, d2, ?_⟩; conv => whnf) | (refine ⟨_, d3, ?_⟩; conv => whnf) | (refine ⟨_, d5, ?_⟩; conv => whnf) | (refine ⟨_, d6, ?_⟩; conv => whnf) | (refine ⟨_, c3, ?_⟩; conv => whnf) | (refine ⟨_, c4, ?_⟩; conv => whnf) | (refine ⟨_, c5, ?_⟩; conv => whnf) | (refine ⟨_, d7, ?_⟩; conv => whnf) | (refine ⟨_, d8, ?_⟩; conv => whnf) | (refine ⟨true, decide_eq_true (by omega), ?_⟩; conv => whnf) | (refine ⟨false, decide_eq_false (by omega), ?_⟩; conv => whnf) | (refine ⟨false, bne_eq_false_iff_eq.2 (by omega), ?_⟩; conv => whnf) | (refine ⟨_, rfl, ?_⟩; conv => whnf) | (refine ⟨rfl, ?_⟩; conv => whnf) | (refine ⟨_, fun h => absurd h Bool.false_ne_true, fun _ => rfl, ?_⟩; conv => whnf))
      exact ⟨(), Wk.tab [] ⟨⟨rfl, rfl⟩, ⟨rfl, rfl⟩, ⟨rfl, rfl⟩, ⟨rfl, rfl⟩, ⟨rfl, rfl⟩, ⟨rfl, rfl⟩, trivial⟩ ⟨rfl, rfl, rfl, rfl, trivial⟩ rfl⟩
    · subst k7
      repeat (first | (refine W.skip ?_; conv => whnf) | (refine W.condF rfl ?_) | (refine ⟨_, d2, ?_⟩; conv => whnf) | (refine ⟨_, d3, ?_⟩; conv => whnf) | (refine ⟨_, d4, ?_⟩; conv => whnf) | (refine ⟨_, d5, ?_⟩; conv => whnf) | (refine ⟨_, d6, ?_⟩; conv => whnf) | (refine ⟨_, c3, ?_⟩; conv => whnf) | (refine ⟨_, c4, ?_⟩; conv => whnf) | (refine ⟨_, c5, ?_⟩; conv => whnf) | (refine ⟨_, c10, ?_⟩; conv => whnf) | (refine ⟨_, d7, ?_⟩; conv => whnf) | (refine ⟨_, d8, ?_⟩; conv => whnf) | (refine ⟨false, decide_eq_false (by omega), ?_⟩; conv => whnf) | (refine ⟨true, bne_iff_ne.2 (by omega), ?_⟩; conv => whnf) | (refine ⟨false, bne_eq_false_iff_eq.2 (by omega), ?_⟩; conv => whnf) | (refine ⟨_, rfl, ?_⟩; conv => whnf) | (refine ⟨rfl, ?_⟩; conv => whnf) | (refine ⟨_, fun h => absurd h Bool.false_ne_true, fun _ => rfl, ?_⟩; conv => whnf) | (refine ⟨_, fun _ => rfl, fun h => absurd h.symm Bool.false_ne_true, ?_⟩; conv => whnf))
      exact ⟨(), Wk.tab [] ⟨⟨rfl, rfl⟩, ⟨rfl, rfl⟩, ⟨rfl, rfl⟩, ⟨rfl, rfl⟩, ⟨rfl, rfl⟩, ⟨rfl, rfl⟩, trivial⟩ ⟨rfl, rfl, rfl, rfl, trivial⟩ rfl⟩
  · show W J _ _ (mkA [(1, .iv (.int .i64 k)), (2, .iv (.int .i64 m)), (7, .ptr 0 0), (9, .ptr 1 0), (10, .ptr 2 0), (11, .ptr 3 0)] [(0, .var (qr a)), (1, .var (qr lo)), (2, .var (qr hi)), (3, .var (qr (hi - lo)))] 40) _
    clear cx c1 c2 d1 d2 d3 d4 d5 d6 c3 c4 c5 c10 d7 d8 k5 k2 k3
    repeat (first | (refine W.join (x := .seq (.region 7 _ _) _) (G := Unit) (fun _ => mkA [(1, .iv (.int .i64 k)), (2, .iv (.int .i64 m)), (7, .ptr 0 0), (9, .ptr 1 0), (10, .ptr 2 0), (12, .iv (.int .i64 kz))] [(0, .var (qr a)), (1, .var (qr lo)), (2, .var (qr hi))] 60) ?_ (fun _ => ?_)) | (refine W.RS (by kernel_rfl) ?_; conv => whnf) | (refine ⟨_, rfl, ?_⟩; conv => whnf) | (refine ⟨rfl, ?_⟩; conv => whnf))
    · refine W.cond rfl (fun h0 => ?_) (fun h0 => ?_)
      · rw [if_pos (of_decide_eq_true h0)] at hkz
        subst hkz
        repeat ((refine W.R (by kernel_rfl) ?_; conv => whnf))
        exact ⟨(), Wk.tab [] ⟨⟨rfl, rfl⟩, ⟨rfl, rfl⟩, ⟨rfl, rfl⟩, ⟨rfl, rfl⟩, ⟨rfl, rfl⟩, ⟨rfl, rfl⟩, trivial⟩ ⟨rfl, rfl, rfl, trivial⟩ rfl⟩
      · rw [if_neg (of_decide_eq_false h0)] at hkz
        subst hkz
        repeat ((refine W.skip ?_; conv => whnf))
        exact ⟨(), Wk.tab [] ⟨⟨rfl, rfl⟩, ⟨rfl, rfl⟩, ⟨rfl, rfl⟩, ⟨rfl, rfl⟩, ⟨rfl, rfl⟩, ⟨rfl, rfl⟩, trivial⟩ ⟨rfl, rfl, rfl, trivial⟩ rfl⟩
    · show W J _ _ (mkA [(1, .iv (.int .i64 k)), (2, .iv (.int .i64 m)), (7, .ptr 0 0), (9, .ptr 1 0), (10, .ptr 2 0), (12, .iv (.int .i64 kz))] [(0, .var (qr a)), (1, .var (qr lo)), (2, .var (qr hi))] 60) _
      have hkb : -9223372036854775808 ≤ kz ∧ kz ≤ 9223372036854775807 := by rw [← hkz]; split <;> omega
      have hμ' : m.tmod 300 = μr := hμ
      skip
      refine W.join (G := Unit) (fun _ => mkA [(1, .iv (.int .i64 k)), (2, .iv (.int .i64 m)), (7, .ptr 0 0), (9, .ptr 1 0), (10, .ptr 2 0), (12, .iv (.int .i64 z))] [(0, .var (qr a)), (1, .var (qr lo)), (2, .var (qr hi))] 80) ?_ (fun _ => ?_)
      · by_cases h1 : 0 < m
        · have := hr h1
          by_cases h2 : kz < 256
          · rw [if_pos ⟨h1, h2⟩] at hz
            subst hz
            repeat (first | (refine W.RS (by kernel_rfl) ?_; conv => whnf) | (refine W.R (by kernel_rfl) ?_; conv => whnf) | (refine W.condT rfl ?_) | (refine ⟨by omega, _, hμ', ?_⟩; conv => whnf) | (refine ⟨rfl, _, w64 (by omega), ?_⟩; conv => whnf) | (refine ⟨true, decide_eq_true (by omega), ?_⟩; conv => whnf) | (refine ⟨rfl, ?_⟩; conv => whnf) | (refine ⟨_, fun _ => rfl, fun h => absurd h.symm Bool.false_ne_true, ?_⟩; conv => whnf))
            exact ⟨(), Wk.tab [] ⟨⟨rfl, rfl⟩, ⟨rfl, rfl⟩, ⟨rfl, rfl⟩, ⟨rfl, rfl⟩, ⟨rfl, rfl⟩, ⟨rfl, rfl⟩, trivial⟩ ⟨rfl, rfl, rfl, trivial⟩ rfl⟩
          · rw [if_neg (fun h => h2 h.2)] at hz
            subst hz
            repeat (first | (refine W.RS (by kernel_rfl) ?_; conv => whnf) | (refine W.skip ?_; conv => whnf) | (refine W.condF rfl ?_) | (refine ⟨true, decide_eq_true (by omega), ?_⟩; conv => whnf) | (refine ⟨false, decide_eq_false (by omega), ?_⟩; conv => whnf) | (refine ⟨rfl, ?_⟩; conv => whnf) | (refine ⟨_, fun _ => rfl, fun h => absurd h.symm Bool.false_ne_true, ?_⟩; conv => whnf))
            exact ⟨(), Wk.tab [] ⟨⟨rfl, rfl⟩, ⟨rfl, rfl⟩, ⟨rfl, rfl⟩, ⟨rfl, rfl⟩, ⟨rfl, rfl⟩, ⟨rfl, rfl⟩, trivial⟩ ⟨rfl, rfl, rfl, trivial⟩ rfl⟩
        · rw [if_neg (fun h => h1 h.1)] at hz
          subst hz
          repeat (first | (refine W.RS (by kernel_rfl) ?_; conv => whnf) | (refine W.skip ?_; conv => whnf) | (refine W.condF rfl ?_) | (refine ⟨false, decide_eq_false (by omega), ?_⟩; conv => whnf) | (refine ⟨rfl, ?_⟩; conv => whnf) | (refine ⟨_, fun h => absurd h Bool.false_ne_true, fun _ => rfl, ?_⟩; conv => whnf))
          exact ⟨(), Wk.tab [] ⟨⟨rfl, rfl⟩, ⟨rfl, rfl⟩, ⟨rfl, rfl⟩, ⟨rfl, rfl⟩, ⟨rfl, rfl⟩, ⟨rfl, rfl⟩, trivial⟩ ⟨rfl, rfl, rfl, trivial⟩ rfl⟩
      · show W J _ _ (mkA [(1, .iv (.int .i64 k)), (2, .iv (.int .i64 m)), (7, .ptr 0 0), (9, .ptr 1 0), (10, .ptr 2 0), (12, .iv (.int .i64 z))] [(0, .var (qr a)), (1, .var (qr lo)), (2, .var (qr hi))] 80) _
        rcases k11 with k11 | k11
        · repeat (first | (refine W.wkRS (id := 14) (σ' := mkA [(7, .ptr 0 0), (9, .ptr 1 0), (10, .ptr 2 0), (13, .ptr 3 0)] [(0, .var (qr a)), (1, .var (qr lo)), (2, .var (qr hi)), (3, .var (qr rd))] 40) (Wk.tab [(3, 99)] ⟨⟨rfl, rfl⟩, ⟨rfl, rfl⟩, ⟨rfl, rfl⟩, ⟨rfl, rfl⟩, trivial⟩ ⟨rfl, rfl, rfl, rfl, trivial⟩ rfl) (by kernel_rfl) ?_; conv => whnf) | (refine W.RS (by kernel_rfl) ?_; conv => whnf) | (refine W.S ?_) | (refine W.ret ?_; conv => whnf) | (refine W.skip ?_; conv => whnf) | (refine W.condF rfl ?_) | (refine ⟨_, c6, ?_⟩; conv => whnf) | (refine ⟨_, c7, ?_⟩; conv => whnf) | (refine ⟨_, c8, ?_⟩; conv => whnf) | (refine ⟨_, c9, ?_⟩; conv => whnf) | (refine ⟨_, d9, ?_⟩; conv => whnf) | (refine ⟨_, d10, ?_⟩; conv => whnf) | (refine ⟨_, d11, ?_⟩; conv => whnf) | (refine ⟨_, d13, ?_⟩; conv => whnf) | (refine ⟨_, d14, ?_⟩; conv => whnf) | (refine ⟨_, d15, ?_⟩; conv => whnf) | (refine ⟨_, d16, ?_⟩; conv => whnf) | (refine ⟨_, d17, ?_⟩; conv => whnf) | (refine ⟨_, d18, ?_⟩; conv => whnf) | (refine ⟨_, aw, ?_⟩; conv => whnf) | (refine ⟨true, decide_eq_true (by omega), ?_⟩; conv => whnf) | (refine ⟨false, decide_eq_false (by omega), ?_⟩; conv => whnf) | (refine ⟨false, bne_eq_false_iff_eq.2 (by omega), ?_⟩; conv => whnf) | (refine ⟨_, rfl, ?_⟩; conv => whnf) | (refine ⟨rfl, ?_⟩; conv => whnf) | (refine ⟨_, fun h => absurd h Bool.false_ne_true, fun _ => rfl, ?_⟩; conv => whnf) | (refine ⟨_, fun _ => rfl, fun h => absurd h.symm Bool.false_ne_true, ?_⟩; conv => whnf))
          rfl
        · by_cases k12 : v11 = 0
          · repeat (first | (refine W.wkRS (id := 14) (σ' := mkA [(7, .ptr 0 0), (9, .ptr 1 0), (10, .ptr 2 0), (13, .ptr 3 0)] [(0, .var (qr a)), (1, .var (qr lo)), (2, .var (qr hi)), (3, .var (qr rd))] 40) (Wk.tab [(3, 99)] ⟨⟨rfl, rfl⟩, ⟨rfl, rfl⟩, ⟨rfl, rfl⟩, ⟨rfl, rfl⟩, trivial⟩ ⟨rfl, rfl, rfl, rfl, trivial⟩ rfl) (by kernel_rfl) ?_; conv => whnf) | (refine W.RS (by kernel_rfl) ?_; conv => whnf) | (refine W.S ?_) | (refine W.ret ?_; conv => whnf) | (refine W.skip ?_; conv => whnf) | (refine W.condF rfl ?_) | (refine ⟨_, c6, ?_⟩; conv => whnf) | (refine ⟨_, c7, ?_⟩; conv => whnf) | (refine ⟨_, c8, ?_⟩; conv => whnf) | (refine ⟨_, c9, ?_⟩; conv => whnf) | (refine ⟨_, d9, ?_⟩; conv => whnf) | (refine ⟨_, d10, ?_⟩; conv => whnf) | (refine ⟨_, d11, ?_⟩; conv => whnf) | (refine ⟨_, d13, ?_⟩; conv => whnf) | (refine ⟨_, d14, ?_⟩; conv => whnf) | (refine ⟨_, d15, ?_⟩; conv => whnf) | (refine ⟨_, d16, ?_⟩; conv => whnf) | (refine ⟨_, d17, ?_⟩; conv => whnf) | (refine ⟨_, d18, ?_⟩; conv => whnf) | (refine ⟨_, aw, ?_⟩; conv => whnf) | (refine ⟨true, decide_eq_true (by omega), ?_⟩; conv => whnf) | (refine ⟨false, decide_eq_false (by omega), ?_⟩; conv => whnf) | (refine ⟨false, bne_eq_false_iff_eq.2 (by omega), ?_⟩; conv => whnf) | (refine ⟨_, rfl, ?_⟩; conv => whnf) | (refine ⟨rfl, ?_⟩; conv => whnf) | (refine ⟨_, fun h => absurd h Bool.false_ne_true, fun _ => rfl, ?_⟩; conv => whnf) | (refine ⟨_, fun _ => rfl, fun h => absurd h.symm Bool.false_ne_true, ?_⟩; conv => whnf))
            rfl
          · repeat (first | (refine W.wkRS (id := 14) (σ' := mkA [(7, .ptr 0 0), (9, .ptr 1 0), (10, .ptr 2 0), (13, .ptr 3 0)] [(0, .var (qr a)), (1, .var (qr lo)), (2, .var (qr hi)), (3, .var (qr rd))] 40) (Wk.tab [(3, 99)] ⟨⟨rfl, rfl⟩, ⟨rfl, rfl⟩, ⟨rfl, rfl⟩, ⟨rfl, rfl⟩, trivial⟩ ⟨rfl, rfl, rfl, rfl, trivial⟩ rfl) (by kernel_rfl) ?_; conv => whnf) | (refine W.RS (by kernel_rfl) ?_; conv => whnf) | (refine W.S ?_) | (refine W.ret ?_; conv => whnf) | (refine W.skip ?_; conv => whnf) | (refine W.condF rfl ?_) | (refine ⟨_, c6, ?_⟩; conv => whnf) | (refine ⟨_, c7, ?_⟩; conv => whnf) | (refine ⟨_, c8, ?_⟩; conv => whnf) | (refine ⟨_, c9, ?_⟩; conv => whnf) | (refine ⟨_, d9, ?_⟩; conv => whnf) | (refine ⟨_, d10, ?_⟩; conv => whnf) | (refine ⟨_, d11, ?_⟩; conv => whnf) | (refine ⟨_, d12, ?_⟩; conv => whnf) | (refine ⟨_, d13, ?_⟩; conv => whnf) | (refine ⟨_, d14, ?_⟩; conv => whnf) | (refine ⟨_, d15, ?_⟩; conv => whnf) | (refine ⟨_, d16, ?_⟩; conv => whnf) | (refine ⟨_, d17, ?_⟩; conv => whnf) | (refine ⟨_, d18, ?_⟩; conv => whnf) | (refine ⟨_, aw, ?_⟩; conv => whnf) | (refine ⟨true, decide_eq_true (by omega), ?_⟩; conv => whnf) | (refine ⟨false, decide_eq_false (by omega), ?_⟩; conv => whnf) | (refine ⟨true, bne_iff_ne.2 (by omega), ?_⟩; conv => whnf) | (refine ⟨false, bne_eq_false_iff_eq.2 (by omega), ?_⟩; conv => whnf) | (refine ⟨_, rfl, ?_⟩; conv => whnf) | (refine ⟨rfl, ?_⟩; conv => whnf) | (refine ⟨_, fun h => absurd h Bool.false_ne_true, fun _ => rfl, ?_⟩; conv => whnf) | (refine ⟨_, fun _ => rfl, fun h => absurd h.symm Bool.false_ne_true, ?_⟩; conv => whnf))
            rfl
end Go.Proofs.Fl
