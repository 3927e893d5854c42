/-
  The card of NumOps is proved: the law's function returns true at every argument of its shape; no condition.
-/
import Derived.Test.YtdheblnjmnlpfaaGreatDoorB10
namespace Go.Proofs.Fl
open Go.RowKit Go.Proofs.Dig
attribute [local irreducible] IntKind.wrap PureC MutC MakC IterC
theorem hvt (v : Bool) : (v == v) = true := by cases v <;> rfl
end Go.Proofs.Fl
namespace Go.Proofs.Fl
open Go.RowKit Go.Proofs.Dig
attribute [local irreducible] IntKind.wrap PureC MutC MakC IterC
def Hold (p : Prop) : Prop := p
theorem W.joinH {J : Keep} {nt : Nat} {σ : AS} {K : Exit → AS → Prop} {G : Type} (inv : G → AS) {x y : Code} (h1 : Hold (W J nt x σ (joinK inv K))) (h2 : ∀ g, W J nt y (inv g) K) : W J nt (.seq x y) σ K := W.join inv (by unfold Hold at h1; exact h1) h2
attribute [irreducible] Hold
theorem sgn_sign (q : Rat) : cmpR q 0 = q.num.sign := by
  rw [← sign_cmp]
  unfold cmpI
  rcases Int.lt_trichotomy q.num 0 with h | h | h
  · rw [Int.sign_eq_neg_one_of_neg h, if_pos h]
  · rw [h]; rfl
  · rw [Int.sign_eq_one_of_pos h, if_neg (by omega), if_pos h]
theorem of_form (J : Keep) {n d : Int} (h1 : -9223372036854775808 ≤ n) (h2 : n ≤ 9223372036854775807) (h3 : -9223372036854775808 ≤ d) (h4 : d ≤ 9223372036854775807) : ∃ c e, C J 57 [.int .i64 n, .int .i64 d] (.tup [qr c, .int .i64 e]) ∧ ((d = 0 ∧ e = 9 ∧ c = 0) ∨ (d ≠ 0 ∧ e = 0 ∧ C J 29 [.int .i64 n, .int .i64 d] (rr c) ∧ rl c ≤ 13)) := by
  by_cases h : d = 0
  · subst h
    exact ⟨0, 9, f57_zero J h1 h2, .inl ⟨rfl, rfl, rfl⟩⟩
  · have hb := rl_base h1 h2 h3 h4
    unfold baseN at hb
    rw [if_neg h] at hb
    exact ⟨_, 0, f57_ok (base J) h1 h2 h3 h4 h, .inr ⟨h, rfl, f29_ok J h1 h2 h3 h4 h, hb⟩⟩
theorem div_form (J : Keep) {a b : Rat} (ha : rl a ≤ 52) (hb : rl b ≤ 52) : ∃ z f, C J 52 [qr a, qr b] (.tup [qr z, .int .i64 f]) ∧ ((b = 0 ∧ f = 9 ∧ z = 0) ∨ (b ≠ 0 ∧ f = 0 ∧ C J 60 [rr a, rr b] (rr z) ∧ rl z ≤ 105)) := by
  by_cases h : b = 0
  · subst h
    exact ⟨0, 9, f52_zero J a, .inl ⟨rfl, rfl, rfl⟩⟩
  · refine ⟨_, 0, divC (by omega) (by omega) h, .inr ⟨h, rfl, f60_ok J (DOk.rr a) (DOk.rr b) (by omega) (by omega) h, ?_⟩⟩
    have := rl_div a b
    omega
set_option maxHeartbeats 16000000 in
theorem f11_ok {J : Keep} (L : LibI J) {x y : Num3} (hx : x.ok) (hy : y.ok) {n d k : Int} (hn : -9223372036854775808 ≤ n ∧ n ≤ 9223372036854775807) (hd : -9223372036854775808 ≤ d ∧ d ≤ 9223372036854775807) : C J 11 [x.iv, y.iv, .int .i64 n, .int .i64 d, .int .i64 k] (.bool true) := by
  refine fn_ok Tryz.func11 rfl rfl rfl ?_
  have cx := bothC J hx
  have cy := bothC J hy
  have ra := bothL hx
  have rb := bothL hy
  obtain ⟨a, ha⟩ : ∃ a, x.q = a := ⟨_, rfl⟩
  obtain ⟨b, hb⟩ : ∃ a, y.q = a := ⟨_, rfl⟩
  rw [ha] at cx ra
  rw [hb] at cy rb
  have aw := f19_ok L
  obtain ⟨c, e, co, hco⟩ := of_form J hn.1 hn.2 hd.1 hd.2
  obtain ⟨z, f, cq, hcq⟩ := div_form J ra rb
  clear ha hb
  iterate 1 ((refine W.RS (by kernel_rfl) ?_; conv => whnf))
  refine W.join (G := Int) (fun w => mkA [(2, .iv (.int .i64 n)), (3, .iv (.int .i64 d)), (4, .iv (.int .i64 w)), (5, .ptr 0 0), (6, .ptr 1 0)] [(0, .var x.iv), (1, .var y.iv)] 10) ?_ (fun v => ?_)
  · obtain ⟨pm, hpm⟩ : ∃ p, x.p % 4 = p := ⟨_, rfl⟩
    have hmod : ((x.p : Nat) : Int).tmod 4 = ((pm : Nat) : Int) := by rw [← hpm]; exact tmodN x.p 4
    by_cases h1 : pm > 1
    · by_cases h2 : k > 60
      · repeat (first | (refine W.RS (by kernel_rfl) ?_; conv => whnf) | (refine W.R (by kernel_rfl) ?_; conv => whnf) | (refine W.condT rfl ?_) | (refine ⟨by omega, _, hmod, ?_⟩; conv => whnf) | (refine ⟨true, decide_eq_true (by omega), ?_⟩; conv => whnf) | (refine ⟨_, rfl, ?_⟩; conv => whnf) | (refine ⟨rfl, ?_⟩; conv => whnf) | (refine And.intro (by omega) ?_; conv => whnf) | (refine ⟨_, fun _ => rfl, fun h => absurd h.symm Bool.false_ne_true, ?_⟩; conv => whnf))
        exact ⟨_, Wk.tab [] ⟨⟨rfl, rfl⟩, ⟨rfl, rfl⟩, ⟨rfl, rfl⟩, ⟨rfl, rfl⟩, ⟨rfl, rfl⟩, trivial⟩ ⟨rfl, rfl, trivial⟩ rfl⟩
      · repeat (first | (refine W.RS (by kernel_rfl) ?_; conv => whnf) | (refine W.skip ?_; conv => whnf) | (refine W.condF rfl ?_) | (refine ⟨by omega, _, hmod, ?_⟩; conv => whnf) | (refine ⟨true, decide_eq_true (by omega), ?_⟩; conv => whnf) | (refine ⟨false, decide_eq_false (by omega), ?_⟩; conv => whnf) | (refine ⟨rfl, ?_⟩; conv => whnf) | (refine ⟨_, fun h => absurd h Bool.false_ne_true, fun _ => rfl, ?_⟩; conv => whnf) | (refine ⟨_, fun _ => rfl, fun h => absurd h.symm Bool.false_ne_true, ?_⟩; conv => whnf))
        exact ⟨_, Wk.tab [] ⟨⟨rfl, rfl⟩, ⟨rfl, rfl⟩, ⟨rfl, rfl⟩, ⟨rfl, rfl⟩, ⟨rfl, rfl⟩, trivial⟩ ⟨rfl, rfl, trivial⟩ rfl⟩
    · by_cases h2 : k > 300
      · by_cases h3 : k < 1000
        · repeat (first | (refine W.RS (by kernel_rfl) ?_; conv => whnf) | (refine W.R (by kernel_rfl) ?_; conv => whnf) | (refine W.condT rfl ?_) | (refine ⟨by omega, _, hmod, ?_⟩; conv => whnf) | (refine ⟨true, decide_eq_true (by omega), ?_⟩; conv => whnf) | (refine ⟨false, decide_eq_false (by omega), ?_⟩; conv => whnf) | (refine ⟨_, rfl, ?_⟩; conv => whnf) | (refine ⟨rfl, ?_⟩; conv => whnf) | (refine And.intro (by omega) ?_; conv => whnf) | (refine ⟨_, fun h => absurd h Bool.false_ne_true, fun _ => rfl, ?_⟩; conv => whnf) | (refine ⟨_, fun _ => rfl, fun h => absurd h.symm Bool.false_ne_true, ?_⟩; conv => whnf))
          exact ⟨_, Wk.tab [] ⟨⟨rfl, rfl⟩, ⟨rfl, rfl⟩, ⟨rfl, rfl⟩, ⟨rfl, rfl⟩, ⟨rfl, rfl⟩, trivial⟩ ⟨rfl, rfl, trivial⟩ rfl⟩
        · repeat (first | (refine W.RS (by kernel_rfl) ?_; conv => whnf) | (refine W.skip ?_; conv => whnf) | (refine W.condF rfl ?_) | (refine ⟨by omega, _, hmod, ?_⟩; conv => whnf) | (refine ⟨true, decide_eq_true (by omega), ?_⟩; conv => whnf) | (refine ⟨false, decide_eq_false (by omega), ?_⟩; conv => whnf) | (refine ⟨rfl, ?_⟩; conv => whnf) | (refine ⟨_, fun h => absurd h Bool.false_ne_true, fun _ => rfl, ?_⟩; conv => whnf) | (refine ⟨_, fun _ => rfl, fun h => absurd h.symm Bool.false_ne_true, ?_⟩; conv => whnf))
          exact ⟨_, Wk.tab [] ⟨⟨rfl, rfl⟩, ⟨rfl, rfl⟩, ⟨rfl, rfl⟩, ⟨rfl, rfl⟩, ⟨rfl, rfl⟩, trivial⟩ ⟨rfl, rfl, trivial⟩ rfl⟩
      · repeat (first | (refine W.RS (by kernel_rfl) ?_; conv => whnf) | (refine W.skip ?_; conv => whnf) | (refine W.condF rfl ?_) | (refine ⟨by omega, _, hmod, ?_⟩; conv => whnf) | (refine ⟨false, decide_eq_false (by omega), ?_⟩; conv => whnf) | (refine ⟨rfl, ?_⟩; conv => whnf) | (refine ⟨_, fun h => absurd h Bool.false_ne_true, fun _ => rfl, ?_⟩; conv => whnf))
        exact ⟨_, Wk.tab [] ⟨⟨rfl, rfl⟩, ⟨rfl, rfl⟩, ⟨rfl, rfl⟩, ⟨rfl, rfl⟩, ⟨rfl, rfl⟩, trivial⟩ ⟨rfl, rfl, trivial⟩ rfl⟩
  · show W J _ _ (mkA [(2, .iv (.int .i64 n)), (3, .iv (.int .i64 d)), (4, .iv (.int .i64 v)), (5, .ptr 0 0), (6, .ptr 1 0)] [(0, .var x.iv), (1, .var y.iv)] 10) _
    refine W.join (G := Int) (fun w => mkA [(2, .iv (.int .i64 n)), (3, .iv (.int .i64 d)), (4, .iv (.int .i64 w)), (5, .ptr 0 0), (6, .ptr 1 0)] [(0, .var x.iv), (1, .var y.iv)] 20) ?_ (fun w => ?_)
    · by_cases h1 : v ≥ 1000
      · by_cases h2 : x.n > 9
        · repeat (first | (refine W.RS (by kernel_rfl) ?_; conv => whnf) | (refine W.R (by kernel_rfl) ?_; conv => whnf) | (refine W.condT rfl ?_) | (refine ⟨true, decide_eq_true (by omega), ?_⟩; conv => whnf) | (refine ⟨_, rfl, ?_⟩; conv => whnf) | (refine ⟨rfl, ?_⟩; conv => whnf) | (refine And.intro (by omega) ?_; conv => whnf) | (refine ⟨_, fun _ => rfl, fun h => absurd h.symm Bool.false_ne_true, ?_⟩; conv => whnf))
          exact ⟨_, Wk.tab [] ⟨⟨rfl, rfl⟩, ⟨rfl, rfl⟩, ⟨rfl, rfl⟩, ⟨rfl, rfl⟩, ⟨rfl, rfl⟩, trivial⟩ ⟨rfl, rfl, trivial⟩ rfl⟩
        · by_cases h3 : x.n < -9
          · repeat (first | (refine W.RS (by kernel_rfl) ?_; conv => whnf) | (refine W.R (by kernel_rfl) ?_; conv => whnf) | (refine W.condT rfl ?_) | (refine ⟨true, decide_eq_true (by omega), ?_⟩; conv => whnf) | (refine ⟨false, decide_eq_false (by omega), ?_⟩; conv => whnf) | (refine ⟨_, rfl, ?_⟩; conv => whnf) | (refine ⟨rfl, ?_⟩; conv => whnf) | (refine And.intro (by omega) ?_; conv => whnf) | (refine ⟨_, fun h => absurd h Bool.false_ne_true, fun _ => rfl, ?_⟩; conv => whnf) | (refine ⟨_, fun _ => rfl, fun h => absurd h.symm Bool.false_ne_true, ?_⟩; conv => whnf))
            exact ⟨_, Wk.tab [] ⟨⟨rfl, rfl⟩, ⟨rfl, rfl⟩, ⟨rfl, rfl⟩, ⟨rfl, rfl⟩, ⟨rfl, rfl⟩, trivial⟩ ⟨rfl, rfl, trivial⟩ rfl⟩
          · by_cases h4 : x.d > 9
            · repeat (first | (refine W.RS (by kernel_rfl) ?_; conv => whnf) | (refine W.R (by kernel_rfl) ?_; conv => whnf) | (refine W.condT rfl ?_) | (refine ⟨true, decide_eq_true (by omega), ?_⟩; conv => whnf) | (refine ⟨false, decide_eq_false (by omega), ?_⟩; conv => whnf) | (refine ⟨_, rfl, ?_⟩; conv => whnf) | (refine ⟨rfl, ?_⟩; conv => whnf) | (refine And.intro (by omega) ?_; conv => whnf) | (refine ⟨_, fun h => absurd h Bool.false_ne_true, fun _ => rfl, ?_⟩; conv => whnf) | (refine ⟨_, fun _ => rfl, fun h => absurd h.symm Bool.false_ne_true, ?_⟩; conv => whnf))
              exact ⟨_, Wk.tab [] ⟨⟨rfl, rfl⟩, ⟨rfl, rfl⟩, ⟨rfl, rfl⟩, ⟨rfl, rfl⟩, ⟨rfl, rfl⟩, trivial⟩ ⟨rfl, rfl, trivial⟩ rfl⟩
            · by_cases h5 : x.d < -9
              · repeat (first | (refine W.RS (by kernel_rfl) ?_; conv => whnf) | (refine W.R (by kernel_rfl) ?_; conv => whnf) | (refine W.condT rfl ?_) | (refine ⟨true, decide_eq_true (by omega), ?_⟩; conv => whnf) | (refine ⟨false, decide_eq_false (by omega), ?_⟩; conv => whnf) | (refine ⟨_, rfl, ?_⟩; conv => whnf) | (refine ⟨rfl, ?_⟩; conv => whnf) | (refine And.intro (by omega) ?_; conv => whnf) | (refine ⟨_, fun h => absurd h Bool.false_ne_true, fun _ => rfl, ?_⟩; conv => whnf) | (refine ⟨_, fun _ => rfl, fun h => absurd h.symm Bool.false_ne_true, ?_⟩; conv => whnf))
                exact ⟨_, Wk.tab [] ⟨⟨rfl, rfl⟩, ⟨rfl, rfl⟩, ⟨rfl, rfl⟩, ⟨rfl, rfl⟩, ⟨rfl, rfl⟩, trivial⟩ ⟨rfl, rfl, trivial⟩ rfl⟩
              · repeat (first | (refine W.RS (by kernel_rfl) ?_; conv => whnf) | (refine W.skip ?_; conv => whnf) | (refine W.condF rfl ?_) | (refine ⟨true, decide_eq_true (by omega), ?_⟩; conv => whnf) | (refine ⟨false, decide_eq_false (by omega), ?_⟩; conv => whnf) | (refine ⟨rfl, ?_⟩; conv => whnf) | (refine ⟨_, fun h => absurd h Bool.false_ne_true, fun _ => rfl, ?_⟩; conv => whnf) | (refine ⟨_, fun _ => rfl, fun h => absurd h.symm Bool.false_ne_true, ?_⟩; conv => whnf))
                exact ⟨_, Wk.tab [] ⟨⟨rfl, rfl⟩, ⟨rfl, rfl⟩, ⟨rfl, rfl⟩, ⟨rfl, rfl⟩, ⟨rfl, rfl⟩, trivial⟩ ⟨rfl, rfl, trivial⟩ rfl⟩
      · repeat (first | (refine W.RS (by kernel_rfl) ?_; conv => whnf) | (refine W.skip ?_; conv => whnf) | (refine W.condF rfl ?_) | (refine ⟨false, decide_eq_false (by omega), ?_⟩; conv => whnf) | (refine ⟨rfl, ?_⟩; conv => whnf) | (refine ⟨_, fun h => absurd h Bool.false_ne_true, fun _ => rfl, ?_⟩; conv => whnf))
        exact ⟨_, Wk.tab [] ⟨⟨rfl, rfl⟩, ⟨rfl, rfl⟩, ⟨rfl, rfl⟩, ⟨rfl, rfl⟩, ⟨rfl, rfl⟩, trivial⟩ ⟨rfl, rfl, trivial⟩ rfl⟩
    · show W J _ _ (mkA [(2, .iv (.int .i64 n)), (3, .iv (.int .i64 d)), (4, .iv (.int .i64 w)), (5, .ptr 0 0), (6, .ptr 1 0)] [(0, .var x.iv), (1, .var y.iv)] 20) _
      repeat (first | (refine W.joinH (x := .seq (.region 9 _ _) _) (G := Unit) (fun _ => mkA [(2, .iv (.int .i64 n)), (3, .iv (.int .i64 d)), (4, .iv (.int .i64 w)), (11, .ptr 0 0), (12, .ptr 1 0), (13, .ptr 2 0), (14, .ptr 3 0), (17, .ptr 5 0), (18, .iv (.int .i64 f))] [(0, .var (qr a)), (1, .var (rr a)), (2, .var (qr b)), (3, .var (rr b)), (5, .var (qr z))] 80) ?_ (fun _ => ?_)) | (refine W.RS (by kernel_rfl) ?_; conv => whnf) | (refine ⟨_, cx, ?_⟩; conv => whnf) | (refine ⟨_, cy, ?_⟩; conv => whnf) | (refine ⟨_, co, ?_⟩; conv => whnf) | (refine ⟨_, cq, ?_⟩; conv => whnf))
      · unfold Hold
        refine W.weak (σ' := mkA [(2, .iv (.int .i64 n)), (3, .iv (.int .i64 d)), (4, .iv (.int .i64 w)), (11, .ptr 0 0), (12, .ptr 1 0), (13, .ptr 2 0), (14, .ptr 3 0), (15, .ptr 4 0), (16, .iv (.int .i64 e)), (17, .ptr 5 0), (18, .iv (.int .i64 f))] [(0, .var (qr a)), (1, .var (rr a)), (2, .var (qr b)), (3, .var (rr b)), (4, .var (qr c)), (5, .var (qr z))] 60) (Wk.tab [(0, 25), (1, 26), (2, 34), (3, 35), (4, 44), (5, 53)] ⟨⟨rfl, rfl⟩, ⟨rfl, rfl⟩, ⟨rfl, rfl⟩, ⟨rfl, rfl⟩, ⟨rfl, rfl⟩, ⟨rfl, rfl⟩, ⟨rfl, rfl⟩, ⟨rfl, rfl⟩, ⟨rfl, rfl⟩, ⟨rfl, rfl⟩, ⟨rfl, rfl⟩, trivial⟩ ⟨rfl, rfl, rfl, rfl, rfl, rfl, trivial⟩ rfl) ?_
        rcases hco with ⟨rfl, rfl, rfl⟩ | ⟨h0, rfl, c1, c2⟩
        · have c3 := sgnC' (J := J) (a := 0) (v := 0) (by decide)
          repeat (first | (refine W.RS (by kernel_rfl) ?_; conv => whnf) | (refine W.skip ?_; conv => whnf) | (refine W.condF rfl ?_) | (refine W.condT rfl ?_) | (refine ⟨_, c3, ?_⟩; conv => whnf) | (refine ⟨true, decide_eq_true (by omega), ?_⟩; conv => whnf) | (refine ⟨false, bne_eq_false_iff_eq.2 (by omega), ?_⟩; conv => whnf) | (refine ⟨rfl, ?_⟩; conv => whnf) | (refine ⟨_, fun h => absurd h Bool.false_ne_true, fun _ => rfl, ?_⟩; conv => whnf))
          exact ⟨(), Wk.tab [] ⟨⟨rfl, rfl⟩, ⟨rfl, rfl⟩, ⟨rfl, rfl⟩, ⟨rfl, rfl⟩, ⟨rfl, rfl⟩, ⟨rfl, rfl⟩, ⟨rfl, rfl⟩, ⟨rfl, rfl⟩, ⟨rfl, rfl⟩, trivial⟩ ⟨rfl, rfl, rfl, rfl, rfl, trivial⟩ rfl⟩
        · have c3 := f23_t L (p := c) (by omega)
          repeat (first | (refine W.RS (by kernel_rfl) ?_; conv => whnf) | (refine W.skip ?_; conv => whnf) | (refine W.condF rfl ?_) | (refine ⟨_, c1, ?_⟩; conv => whnf) | (refine ⟨_, c3, ?_⟩; conv => whnf) | (refine ⟨false, decide_eq_false (by omega), ?_⟩; conv => whnf) | (refine ⟨false, bne_eq_false_iff_eq.2 (by omega), ?_⟩; conv => whnf) | (refine ⟨_, rfl, ?_⟩; conv => whnf) | (refine ⟨rfl, ?_⟩; conv => whnf) | (refine ⟨_, fun h => absurd h Bool.false_ne_true, fun _ => rfl, ?_⟩; conv => whnf))
          exact ⟨(), Wk.tab [] ⟨⟨rfl, rfl⟩, ⟨rfl, rfl⟩, ⟨rfl, rfl⟩, ⟨rfl, rfl⟩, ⟨rfl, rfl⟩, ⟨rfl, rfl⟩, ⟨rfl, rfl⟩, ⟨rfl, rfl⟩, ⟨rfl, rfl⟩, trivial⟩ ⟨rfl, rfl, rfl, rfl, rfl, trivial⟩ rfl⟩
      · show W J _ _ (mkA [(2, .iv (.int .i64 n)), (3, .iv (.int .i64 d)), (4, .iv (.int .i64 w)), (11, .ptr 0 0), (12, .ptr 1 0), (13, .ptr 2 0), (14, .ptr 3 0), (17, .ptr 5 0), (18, .iv (.int .i64 f))] [(0, .var (qr a)), (1, .var (rr a)), (2, .var (qr b)), (3, .var (rr b)), (5, .var (qr z))] 80) _
        refine W.join (G := Unit) (fun _ => mkA [(2, .iv (.int .i64 n)), (3, .iv (.int .i64 d)), (4, .iv (.int .i64 w)), (11, .ptr 0 0), (12, .ptr 1 0), (13, .ptr 2 0), (14, .ptr 3 0)] [(0, .var (qr a)), (1, .var (rr a)), (2, .var (qr b)), (3, .var (rr b))] 100) ?_ (fun _ => ?_)
        · have c4 : C J 59 [rr b] (.int .i64 b.num.sign) := f59_ok J
          rw [← sgn_sign] at c4
          rcases hcq with ⟨h0, rfl, rfl⟩ | ⟨h0, rfl, c1, c2⟩
          · rw [cmpR_eq.2 h0] at c4
            have c3 := sgnC' (J := J) (a := 0) (v := 0) (by decide)
            repeat (first | (refine W.RS (by kernel_rfl) ?_; conv => whnf) | (refine W.skip ?_; conv => whnf) | (refine W.condF rfl ?_) | (refine W.condT rfl ?_) | (refine ⟨_, c4, ?_⟩; conv => whnf) | (refine ⟨_, c3, ?_⟩; conv => whnf) | (refine ⟨true, decide_eq_true (by omega), ?_⟩; conv => whnf) | (refine ⟨false, bne_eq_false_iff_eq.2 (by omega), ?_⟩; conv => whnf) | (refine ⟨rfl, ?_⟩; conv => whnf) | (refine ⟨_, fun h => absurd h Bool.false_ne_true, fun _ => rfl, ?_⟩; conv => whnf))
            exact ⟨(), Wk.tab [] ⟨⟨rfl, rfl⟩, ⟨rfl, rfl⟩, ⟨rfl, rfl⟩, ⟨rfl, rfl⟩, ⟨rfl, rfl⟩, ⟨rfl, rfl⟩, ⟨rfl, rfl⟩, trivial⟩ ⟨rfl, rfl, rfl, rfl, trivial⟩ rfl⟩
          · obtain ⟨sb, hsb⟩ : ∃ s, cmpR b 0 = s := ⟨_, rfl⟩
            rw [hsb] at c4
            have hs0 : sb ≠ 0 := fun h => h0 (cmpR_eq.1 (by rw [hsb]; exact h))
            have c3 := f23_t L (p := z) (by omega)
            repeat (first | (refine W.RS (by kernel_rfl) ?_; conv => whnf) | (refine W.skip ?_; conv => whnf) | (refine W.condF rfl ?_) | (refine ⟨_, c4, ?_⟩; conv => whnf) | (refine ⟨_, c1, ?_⟩; conv => whnf) | (refine ⟨_, c3, ?_⟩; conv => whnf) | (refine ⟨false, decide_eq_false (by omega), ?_⟩; conv => whnf) | (refine ⟨false, bne_eq_false_iff_eq.2 (by omega), ?_⟩; conv => whnf) | (refine ⟨_, rfl, ?_⟩; conv => whnf) | (refine ⟨rfl, ?_⟩; conv => whnf) | (refine ⟨_, fun h => absurd h Bool.false_ne_true, fun _ => rfl, ?_⟩; conv => whnf))
            exact ⟨(), Wk.tab [] ⟨⟨rfl, rfl⟩, ⟨rfl, rfl⟩, ⟨rfl, rfl⟩, ⟨rfl, rfl⟩, ⟨rfl, rfl⟩, ⟨rfl, rfl⟩, ⟨rfl, rfl⟩, trivial⟩ ⟨rfl, rfl, rfl, rfl, trivial⟩ rfl⟩
        · show W J _ _ (mkA [(2, .iv (.int .i64 n)), (3, .iv (.int .i64 d)), (4, .iv (.int .i64 w)), (11, .ptr 0 0), (12, .ptr 1 0), (13, .ptr 2 0), (14, .ptr 3 0)] [(0, .var (qr a)), (1, .var (rr a)), (2, .var (qr b)), (3, .var (rr b))] 100) _
          have s1 := rl_add a b
          have s2 := rl_sub a b
          have s3 := rl_mul a b
          have s4 := rl_int n
          have s5 : lh n.natAbs ≤ 5 := lh_le (Nat.lt_of_le_of_lt (show n.natAbs ≤ 9223372036854775808 by omega) (by decide))
          refine W.join (G := Unit) (fun _ => mkA [(2, .iv (.int .i64 n)), (3, .iv (.int .i64 d)), (4, .iv (.int .i64 w)), (11, .ptr 0 0), (12, .ptr 1 0), (13, .ptr 2 0), (14, .ptr 3 0)] [(0, .var (qr a)), (1, .var (rr a)), (2, .var (qr b)), (3, .var (rr b))] 120) ?_ (fun _ => ?_)
          · have d1 := f61_ok J hn.1 hn.2
            have d2 := f62_ok J hn.1 hn.2
            have d3 := f23_t L (p := (n : Rat)) (by omega)
            have d4 := f23_t L (p := a) (by omega)
            have d5 := addC (J := J) (a := a) (b := b) (by omega) (by omega)
            have d6 := f63_ok J (DOk.rr a) (DOk.rr b) (by omega) (by omega)
            have d7 := f23_t L (p := a + b) (by omega)
            have d8 := subC (J := J) (a := a) (b := b) (by omega) (by omega)
            have d9 := f64_ok J (DOk.rr a) (DOk.rr b) (by omega) (by omega)
            have d10 := f23_t L (p := a - b) (by omega)
            have d11 := mulC (J := J) (a := a) (b := b) (by omega) (by omega)
            have d12 := f65_ok J (DOk.rr a) (DOk.rr b) (by omega) (by omega)
            have d13 := f23_t L (p := a * b) (by omega)
            clear s1 s2 s3 s4 s5 ra rb hco hcq cx cy co cq
            repeat (first | (refine W.RS (by kernel_rfl) ?_; conv => whnf) | (refine W.skip ?_; conv => whnf) | (refine W.condF rfl ?_) | (refine ⟨_, d1, ?_⟩; conv => whnf) | (refine ⟨_, d2, ?_⟩; conv => whnf) | (refine ⟨_, d3, ?_⟩; conv => whnf) | (refine ⟨_, d4, ?_⟩; conv => whnf) | (refine ⟨_, d5, ?_⟩; conv => whnf) | (refine ⟨_, d6, ?_⟩; conv => whnf) | (refine ⟨_, d7, ?_⟩; conv => whnf) | (refine ⟨_, d8, ?_⟩; conv => whnf) | (refine ⟨_, d9, ?_⟩; conv => whnf) | (refine ⟨_, d10, ?_⟩; conv => whnf) | (refine ⟨_, d11, ?_⟩; conv => whnf) | (refine ⟨_, d12, ?_⟩; conv => whnf) | (refine ⟨_, d13, ?_⟩; conv => whnf) | (refine ⟨_, rfl, ?_⟩; conv => whnf) | (refine ⟨rfl, ?_⟩; conv => whnf) | (refine ⟨_, fun h => absurd h Bool.false_ne_true, fun _ => rfl, ?_⟩; conv => whnf))
            exact ⟨(), Wk.tab [] ⟨⟨rfl, rfl⟩, ⟨rfl, rfl⟩, ⟨rfl, rfl⟩, ⟨rfl, rfl⟩, ⟨rfl, rfl⟩, ⟨rfl, rfl⟩, ⟨rfl, rfl⟩, trivial⟩ ⟨rfl, rfl, rfl, rfl, trivial⟩ rfl⟩
          · show W J _ _ (mkA [(2, .iv (.int .i64 n)), (3, .iv (.int .i64 d)), (4, .iv (.int .i64 w)), (11, .ptr 0 0), (12, .ptr 1 0), (13, .ptr 2 0), (14, .ptr 3 0)] [(0, .var (qr a)), (1, .var (rr a)), (2, .var (qr b)), (3, .var (rr b))] 120) _
            have s6 := rl_pow a (intoN w 1000)
            have s7 := Nat.mul_le_mul (show intoN w 1000 ≤ 1000 by unfold intoN; omega) ra
            have d1 := f66_ok J a
            have d2 := f67_ok J (DOk.rr a)
            have d3 := f23_t L (p := -a) (by rw [rl_neg]; omega)
            have d4 := absC (J := J) a
            have d5 := f68_ok J (DOk.rr a)
            have d6 := f23_t L (p := qabs a) (by rw [rl_qabs]; omega)
            have d7 := powC (J := J) (a := a) (by omega) w
            have d8 := f69_ok J (DOk.rr a) (by omega) w
            have d9 := f23_t L (p := a ^ intoN w 1000) (by omega)
            have d10 := cmpC (J := J) (a := a) (b := b) (by omega) (by omega)
            have d11 := f27_ok J (DOk.rr a) (DOk.rr b) (by omega) (by omega)
            have d12 := sgnC' (J := J) (a := a) rfl
            have d13 : C J 59 [rr a] (.int .i64 a.num.sign) := f59_ok J
            rw [← sgn_sign] at d13
            obtain ⟨u1, hu1⟩ : ∃ u, cmpR a b = u := ⟨_, rfl⟩
            obtain ⟨u2, hu2⟩ : ∃ u, cmpR a 0 = u := ⟨_, rfl⟩
            rw [hu1] at d10 d11
            rw [hu2] at d12 d13
            clear s1 s2 s3 s4 s5 s6 s7 ra rb hco hcq cx cy co cq hu1 hu2
            repeat (first | (refine W.RS (by kernel_rfl) ?_; conv => whnf) | (refine W.ret ?_; conv => whnf) | (refine ⟨_, d1, ?_⟩; conv => whnf) | (refine ⟨_, d2, ?_⟩; conv => whnf) | (refine ⟨_, d3, ?_⟩; conv => whnf) | (refine ⟨_, d4, ?_⟩; conv => whnf) | (refine ⟨_, d5, ?_⟩; conv => whnf) | (refine ⟨_, d6, ?_⟩; conv => whnf) | (refine ⟨_, d7, ?_⟩; conv => whnf) | (refine ⟨_, d8, ?_⟩; conv => whnf) | (refine ⟨_, d9, ?_⟩; conv => whnf) | (refine ⟨_, d10, ?_⟩; conv => whnf) | (refine ⟨_, d11, ?_⟩; conv => whnf) | (refine ⟨_, d12, ?_⟩; conv => whnf) | (refine ⟨_, d13, ?_⟩; conv => whnf) | (refine ⟨_, aw, ?_⟩; conv => whnf) | (refine ⟨true, decide_eq_true (by omega), ?_⟩; conv => whnf) | (refine ⟨rfl, ?_⟩; conv => whnf) | (refine ⟨_, fun _ => rfl, fun h => absurd h.symm Bool.false_ne_true, ?_⟩; conv => whnf))
            rfl
end Go.Proofs.Fl
