/-
  The card of NumPowers is proved: the law's function returns true at every argument of its shape; no condition.
-/
import Derived.Test.YtdheblnjmnlpfaaGreatDoorB10
namespace Go.Proofs.Fl
open Go.RowKit Go.Proofs.Dig
attribute [local irreducible] IntKind.wrap PureC MutC MakC IterC
set_option maxHeartbeats 8000000 in
theorem f16_ok {J : Keep} (L : LibI J) {x y : Gap6} (hx : x.ok) (hy : y.ok) {k : Int} : C J 16 [x.iv, y.iv, .int .i64 k] (.bool true) := by
  refine fn_ok Tryz.func16 rfl rfl rfl ?_
  have cx := f24_ok J hx
  have cy := f24_ok J hy
  have ra := bothL hx.1
  have rb := bothL hx.2
  have rc := bothL hy.1
  have rd := bothL hy.2
  obtain ⟨a, ha⟩ : ∃ a, x.lo.q = a := ⟨_, rfl⟩
  obtain ⟨b, hb⟩ : ∃ b, x.hi.q = b := ⟨_, rfl⟩
  obtain ⟨c, hc⟩ : ∃ c, y.lo.q = c := ⟨_, rfl⟩
  obtain ⟨d, hd⟩ : ∃ d, y.hi.q = d := ⟨_, rfl⟩
  rw [ha, hb] at cx
  rw [hc, hd] at cy
  rw [ha] at ra
  rw [hb] at rb
  rw [hc] at rc
  rw [hd] at rd
  have qa := qln_rl a
  have qb := qln_rl b
  have qc := qln_rl c
  have qd := qln_rl d
  have c1 := f115_ok (base J) (a := a) (b := b) (c := c) (d := d) (by omega) (by omega) (by omega) (by omega)
  obtain ⟨p, q, e, hdv, hcs⟩ := divR_form a b c d
  rw [hdv] at c1
  have c2 := f26_ok (J := J) (e := some a) (f := some b) (by show rl a < _; omega) (by show rl b < _; omega)
  have c3 := f26_ok (J := J) (e := some c) (f := some d) (by show rl c < _; omega) (by show rl d < _; omega)
  have c4 := f92_ok (J := J) (a := c) (b := d) (g := none) (by omega) (by omega) (by show rl 0 < _; have := rl_zero; omega)
  rw [rx_none] at c4
  change C J 26 [sx (some a) (some b)] (.bool (decide (cmpR a b ≤ 0))) at c2
  change C J 26 [sx (some c) (some d)] (.bool (decide (cmpR c d ≤ 0))) at c3
  change C J 92 [sx (some c) (some d), _] (.bool (decide (cmpR c 0 ≤ 0) && decide (cmpR 0 d ≤ 0))) at c4
  have c5 := f44_e L (a := 0) (b := 0) (e := none) (f := none) (by have := rl_zero; omega) (by have := rl_zero; omega) (by show rl 0 < _; have := rl_zero; omega) (by show rl 0 < _; have := rl_zero; omega) rfl rfl
  rw [sx_none] at c5
  have aw := f19_ok L
  have c6 := f117_ok (J := J) (a := a) (b := b) (by omega) (by omega)
  have c7 := f118_ok (J := J) (a := a) (b := b) (by omega) (by omega)
  obtain ⟨p1, q1, e1, f1, h1, h2, h3, h4, h5⟩ := absP_form a b
  rw [h1] at c6
  rw [h2] at c7
  obtain ⟨h6, h7⟩ := h5 ra rb
  have c8 := f44_e L (a := p1) (b := q1) (e := e1) (f := f1) (by omega) (by omega) (by rw [← h3]; omega) (by rw [← h4]; omega) h3 h4
  obtain ⟨w, hw⟩ : ∃ w, powW k = w := ⟨_, rfl⟩
  have c9 := f119_ok (J := J) (a := a) (b := b) (by omega) (by omega) w
  have c10 := f120_ok (J := J) (a := a) (b := b) (by omega) (by omega) w
  obtain ⟨v1, v2⟩ := powE_val a b (intoN w 1000)
  obtain ⟨l1, l2⟩ := rl_powS ra rb (n := intoN w 1000) (by unfold intoN; omega)
  have c11 := f44_e L (a := (powS a b (intoN w 1000)).1) (b := (powS a b (intoN w 1000)).2) (e := chooseE (fun c => decide (c < 0)) (powE a b (intoN w 1000))) (f := chooseE (fun c => decide (c > 0)) (powE a b (intoN w 1000)))
    (by omega) (by omega) (by rw [v1]; omega) (by rw [v2]; omega) v1.symm v2.symm
  obtain ⟨u1, hu1⟩ : ∃ u, (powS a b (intoN w 1000)).1 = u := ⟨_, rfl⟩
  obtain ⟨u2, hu2⟩ : ∃ u, (powS a b (intoN w 1000)).2 = u := ⟨_, rfl⟩
  obtain ⟨z1, hz1⟩ : ∃ u, chooseE (fun c => decide (c < 0)) (powE a b (intoN w 1000)) = u := ⟨_, rfl⟩
  obtain ⟨z2, hz2⟩ : ∃ u, chooseE (fun c => decide (c > 0)) (powE a b (intoN w 1000)) = u := ⟨_, rfl⟩
  rw [hu1, hu2] at c9
  rw [hz1, hz2] at c10
  rw [hu1, hu2, hz1, hz2] at c11
  have r1 := rl_divE ra rb rc rd
  have r2 := rl_list (by decide) r1 (fun c => decide (c < 0))
  have r3 := rl_list (by decide) r1 (fun c => decide (c > 0))
  have c12 : (e = 0 → C J 116 [sx (some a) (some b), sx (some c) (some d)] (sx (some p) (some q)) ∧ C J 44 [sd p q, sx (some p) (some q)] (.bool true)) := fun he => by
    rcases hcs with ⟨h, _⟩ | ⟨h, _⟩ | ⟨_, hp, hq, _, hcd, hn⟩
    · omega
    · omega
    · have hc0 : c ≠ 0 := fun e0 => hn ⟨by rw [e0]; exact cmpR_le.2 Rat.le_refl, by rw [← e0]; exact hcd⟩
      have hd0 : d ≠ 0 := fun e0 => hn ⟨by rw [← e0]; exact hcd, by rw [e0]; exact cmpR_le.2 Rat.le_refl⟩
      rw [hp, hq]
      refine ⟨f116_ok (by omega) (by omega) (by omega) (by omega) hc0 hd0, f44_t L (by show rl (chooseL _ _) < _; omega) (by show rl (chooseL _ _) < _; omega)⟩
  obtain ⟨v, hv⟩ : ∃ v, cmpR a b = v := ⟨_, rfl⟩
  obtain ⟨v', hv'⟩ : ∃ v, cmpR c d = v := ⟨_, rfl⟩
  obtain ⟨g1, hg1⟩ : ∃ v, cmpR c 0 = v := ⟨_, rfl⟩
  obtain ⟨g2, hg2⟩ : ∃ v, cmpR 0 d = v := ⟨_, rfl⟩
  rw [hv] at c2
  rw [hv'] at c3
  rw [hg1, hg2] at c4
  rw [hv, hv', hg1, hg2] at hcs
  unfold powW at hw
  clear hv hv' hg1 hg2 hu1 hu2 hz1 hz2 v1 v2 l1 l2 r1 r2 r3 h1 h2 h3 h4 h5 h6 h7 hdv qa qb qc qd ra rb rc rd ha hb hc hd hx hy
  obtain ⟨kr, hkr⟩ : ∃ r, k.tmod 40 = r := ⟨_, rfl⟩
  rw [hkr] at hw
  iterate 1 ((refine W.RS (by kernel_rfl) ?_; conv => whnf))
  refine W.join (G := Unit) (fun _ => mkA [(2, .iv (.int .i64 w)), (3, .ptr 0 0), (4, .ptr 1 0)] [(0, .var x.iv), (1, .var y.iv)] 10) ?_ (fun _ => ?_)
  · by_cases hk : k > 40
    · rw [if_pos hk] at hw
      subst hw
      repeat (first | (refine W.RS (by kernel_rfl) ?_; conv => whnf) | (refine W.R (by kernel_rfl) ?_; conv => whnf) | (refine W.condT rfl ?_) | (refine ⟨by omega, _, hkr, ?_⟩; conv => whnf) | (refine ⟨true, decide_eq_true (by omega), ?_⟩; conv => whnf) | (refine ⟨rfl, ?_⟩; conv => whnf))
      exact ⟨(), Wk.tab [] ⟨⟨rfl, rfl⟩, ⟨rfl, rfl⟩, ⟨rfl, rfl⟩, trivial⟩ ⟨rfl, rfl, trivial⟩ rfl⟩
    · rw [if_neg hk] at hw
      subst hw
      repeat (first | (refine W.RS (by kernel_rfl) ?_; conv => whnf) | (refine W.skip ?_; conv => whnf) | (refine W.condF rfl ?_) | (refine ⟨false, decide_eq_false (by omega), ?_⟩; conv => whnf) | (refine ⟨rfl, ?_⟩; conv => whnf))
      exact ⟨(), Wk.tab [] ⟨⟨rfl, rfl⟩, ⟨rfl, rfl⟩, ⟨rfl, rfl⟩, trivial⟩ ⟨rfl, rfl, trivial⟩ rfl⟩
  · show W J _ _ (mkA [(2, .iv (.int .i64 w)), (3, .ptr 0 0), (4, .ptr 1 0)] [(0, .var x.iv), (1, .var y.iv)] 10) _
    repeat (first | (refine W.join (x := .region 6 _ _) (G := Unit) (fun _ => mkA [(2, .iv (.int .i64 w)), (7, .ptr 0 0), (8, .ptr 1 0), (9, .ptr 2 0), (10, .ptr 3 0), (11, .ptr 4 0), (12, .iv (.int .i64 e)), (13, .iv (.int .i64 0))] [(0, .var (sd a b)), (1, .var (sx (some a) (some b))), (2, .var (sd c d)), (3, .var (sx (some c) (some d))), (4, .var (sd p q))] 40) ?_ (fun _ => ?_)) | (refine W.RS (by kernel_rfl) ?_; conv => whnf) | (refine W.R (by kernel_rfl) ?_; conv => whnf) | (refine ⟨_, cx, ?_⟩; conv => whnf) | (refine ⟨_, cy, ?_⟩; conv => whnf) | (refine ⟨_, c1, ?_⟩; conv => whnf))
    · exact ⟨(), Wk.tab [(0, 15), (1, 16), (2, 24), (3, 25), (4, 34)] ⟨⟨rfl, rfl⟩, ⟨rfl, rfl⟩, ⟨rfl, rfl⟩, ⟨rfl, rfl⟩, ⟨rfl, rfl⟩, ⟨rfl, rfl⟩, ⟨rfl, rfl⟩, ⟨rfl, rfl⟩, trivial⟩ ⟨rfl, rfl, rfl, rfl, rfl, trivial⟩ rfl⟩
    · show W J _ _ (mkA [(2, .iv (.int .i64 w)), (7, .ptr 0 0), (8, .ptr 1 0), (9, .ptr 2 0), (10, .ptr 3 0), (11, .ptr 4 0), (12, .iv (.int .i64 e)), (13, .iv (.int .i64 0))] [(0, .var (sd a b)), (1, .var (sx (some a) (some b))), (2, .var (sd c d)), (3, .var (sx (some c) (some d))), (4, .var (sd p q))] 40) _
      refine W.join (G := Unit) (fun _ => mkA [(2, .iv (.int .i64 w)), (7, .ptr 0 0), (8, .ptr 1 0), (10, .ptr 3 0), (11, .ptr 4 0), (12, .iv (.int .i64 e)), (13, .iv (.int .i64 e))] [(0, .var (sd a b)), (1, .var (sx (some a) (some b))), (3, .var (sx (some c) (some d))), (4, .var (sd p q))] 60) ?_ (fun _ => ?_)
      · rcases hcs with ⟨rfl, _, _, h⟩ | ⟨rfl, _, _, h1, h2, h3, h4⟩ | ⟨rfl, _, _, h1, h2, h3⟩
        · by_cases hv : v ≤ 0
          · rw [decide_eq_true hv] at c2
            have hv2 : ¬ v' ≤ 0 := by omega
            rw [decide_eq_false hv2] at c3
            repeat (first | (refine W.RS (by kernel_rfl) ?_; conv => whnf) | (refine W.R (by kernel_rfl) ?_; conv => whnf) | (refine W.condT rfl ?_) | (refine ⟨_, c2, ?_⟩; conv => whnf) | (refine ⟨_, c3, ?_⟩; conv => whnf) | (refine ⟨_, rfl, ?_⟩; conv => whnf) | (refine ⟨_, fun h => absurd h Bool.false_ne_true, fun _ => rfl, ?_⟩; conv => whnf))
            exact ⟨(), Wk.tab [] ⟨⟨rfl, rfl⟩, ⟨rfl, rfl⟩, ⟨rfl, rfl⟩, ⟨rfl, rfl⟩, ⟨rfl, rfl⟩, ⟨rfl, rfl⟩, ⟨rfl, rfl⟩, trivial⟩ ⟨rfl, rfl, rfl, rfl, trivial⟩ rfl⟩
          · rw [decide_eq_false hv] at c2
            repeat (first | (refine W.RS (by kernel_rfl) ?_; conv => whnf) | (refine W.R (by kernel_rfl) ?_; conv => whnf) | (refine W.condT rfl ?_) | (refine ⟨_, c2, ?_⟩; conv => whnf) | (refine ⟨_, rfl, ?_⟩; conv => whnf) | (refine ⟨_, fun _ => rfl, fun h => absurd h.symm Bool.false_ne_true, ?_⟩; conv => whnf))
            exact ⟨(), Wk.tab [] ⟨⟨rfl, rfl⟩, ⟨rfl, rfl⟩, ⟨rfl, rfl⟩, ⟨rfl, rfl⟩, ⟨rfl, rfl⟩, ⟨rfl, rfl⟩, ⟨rfl, rfl⟩, trivial⟩ ⟨rfl, rfl, rfl, rfl, trivial⟩ rfl⟩
        · rw [decide_eq_true h1] at c2
          rw [decide_eq_true h2] at c3
          rw [decide_eq_true h3, decide_eq_true h4] at c4
          repeat (first | (refine W.RS (by kernel_rfl) ?_; conv => whnf) | (refine W.R (by kernel_rfl) ?_; conv => whnf) | (refine W.condF rfl ?_) | (refine W.condT rfl ?_) | (refine ⟨_, c2, ?_⟩; conv => whnf) | (refine ⟨_, c3, ?_⟩; conv => whnf) | (refine ⟨_, c4, ?_⟩; conv => whnf) | (refine ⟨_, rfl, ?_⟩; conv => whnf) | (refine ⟨_, fun h => absurd h Bool.false_ne_true, fun _ => rfl, ?_⟩; conv => whnf))
          exact ⟨(), Wk.tab [] ⟨⟨rfl, rfl⟩, ⟨rfl, rfl⟩, ⟨rfl, rfl⟩, ⟨rfl, rfl⟩, ⟨rfl, rfl⟩, ⟨rfl, rfl⟩, ⟨rfl, rfl⟩, trivial⟩ ⟨rfl, rfl, rfl, rfl, trivial⟩ rfl⟩
        · rw [decide_eq_true h1] at c2
          rw [decide_eq_true h2] at c3
          have h4 : (decide (g1 ≤ 0) && decide (g2 ≤ 0)) = false := by
            by_cases h5 : g1 ≤ 0
            · rw [decide_eq_false (p := g2 ≤ 0) (fun h6 => h3 ⟨h5, h6⟩), Bool.and_false]
            · rw [decide_eq_false h5, Bool.false_and]
          rw [h4] at c4
          repeat (first | (refine W.RS (by kernel_rfl) ?_; conv => whnf) | (refine W.skip ?_; conv => whnf) | (refine W.condF rfl ?_) | (refine ⟨_, c2, ?_⟩; conv => whnf) | (refine ⟨_, c3, ?_⟩; conv => whnf) | (refine ⟨_, c4, ?_⟩; conv => whnf) | (refine ⟨_, rfl, ?_⟩; conv => whnf) | (refine ⟨_, fun h => absurd h Bool.false_ne_true, fun _ => rfl, ?_⟩; conv => whnf))
          exact ⟨(), Wk.tab [] ⟨⟨rfl, rfl⟩, ⟨rfl, rfl⟩, ⟨rfl, rfl⟩, ⟨rfl, rfl⟩, ⟨rfl, rfl⟩, ⟨rfl, rfl⟩, ⟨rfl, rfl⟩, trivial⟩ ⟨rfl, rfl, rfl, rfl, trivial⟩ rfl⟩
      · show W J _ _ (mkA [(2, .iv (.int .i64 w)), (7, .ptr 0 0), (8, .ptr 1 0), (10, .ptr 3 0), (11, .ptr 4 0), (12, .iv (.int .i64 e)), (13, .iv (.int .i64 e))] [(0, .var (sd a b)), (1, .var (sx (some a) (some b))), (3, .var (sx (some c) (some d))), (4, .var (sd p q))] 60) _
        refine W.join (G := Unit) (fun _ => mkA [(2, .iv (.int .i64 w)), (7, .ptr 0 0), (8, .ptr 1 0)] [(0, .var (sd a b)), (1, .var (sx (some a) (some b)))] 80) ?_ (fun _ => ?_)
        · by_cases he : e = 0
          · obtain ⟨c13, c14⟩ := c12 he
            subst he
            repeat (first | (refine W.RS (by kernel_rfl) ?_; conv => whnf) | (refine W.skip ?_; conv => whnf) | (refine W.condF rfl ?_) | (refine ⟨_, c13, ?_⟩; conv => whnf) | (refine ⟨_, c14, ?_⟩; conv => whnf) | (refine ⟨false, bne_eq_false_iff_eq.2 (by omega), ?_⟩; conv => whnf) | (refine ⟨_, rfl, ?_⟩; conv => whnf) | (refine ⟨rfl, ?_⟩; conv => whnf) | (refine ⟨_, fun h => absurd h Bool.false_ne_true, fun _ => rfl, ?_⟩; conv => whnf))
            exact ⟨(), Wk.tab [] ⟨⟨rfl, rfl⟩, ⟨rfl, rfl⟩, ⟨rfl, rfl⟩, trivial⟩ ⟨rfl, rfl, trivial⟩ rfl⟩
          · have hpq : p = 0 ∧ q = 0 := by
              rcases hcs with ⟨_, h1, h2, _⟩ | ⟨_, h1, h2, _⟩ | ⟨h, _⟩
              · exact ⟨h1, h2⟩
              · exact ⟨h1, h2⟩
              · omega
            obtain ⟨rfl, rfl⟩ := hpq
            repeat (first | (refine W.RS (by kernel_rfl) ?_; conv => whnf) | (refine W.skip ?_; conv => whnf) | (refine W.condF rfl ?_) | (refine W.condT rfl ?_) | (refine ⟨_, c5, ?_⟩; conv => whnf) | (refine ⟨true, bne_iff_ne.2 (by omega), ?_⟩; conv => whnf) | (refine ⟨false, bne_eq_false_iff_eq.2 (by omega), ?_⟩; conv => whnf) | (refine ⟨_, rfl, ?_⟩; conv => whnf) | (refine ⟨rfl, ?_⟩; conv => whnf) | (refine ⟨_, fun h => absurd h Bool.false_ne_true, fun _ => rfl, ?_⟩; conv => whnf))
            exact ⟨(), Wk.tab [] ⟨⟨rfl, rfl⟩, ⟨rfl, rfl⟩, ⟨rfl, rfl⟩, trivial⟩ ⟨rfl, rfl, trivial⟩ rfl⟩
        · show W J _ _ (mkA [(2, .iv (.int .i64 w)), (7, .ptr 0 0), (8, .ptr 1 0)] [(0, .var (sd a b)), (1, .var (sx (some a) (some b)))] 80) _
          repeat (first | (refine W.RS (by kernel_rfl) ?_; conv => whnf) | (refine W.ret ?_; conv => whnf) | (refine ⟨_, c6, ?_⟩; conv => whnf) | (refine ⟨_, c7, ?_⟩; conv => whnf) | (refine ⟨_, c8, ?_⟩; conv => whnf) | (refine ⟨_, c9, ?_⟩; conv => whnf) | (refine ⟨_, c10, ?_⟩; conv => whnf) | (refine ⟨_, c11, ?_⟩; conv => whnf) | (refine ⟨_, aw, ?_⟩; conv => whnf) | (refine ⟨rfl, ?_⟩; conv => whnf) | (refine ⟨_, fun _ => rfl, fun h => absurd h.symm Bool.false_ne_true, ?_⟩; conv => whnf))
          rfl
end Go.Proofs.Fl
