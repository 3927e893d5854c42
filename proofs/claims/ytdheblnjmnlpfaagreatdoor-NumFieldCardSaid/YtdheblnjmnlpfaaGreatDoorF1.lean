/-
  The numbers are an ordered field: the walk of the law, and its card.
-/
import Derived.Test.YtdheblnjmnlpfaaGreatDoorB10
namespace Go.Proofs.Fl
open Go.RowKit Go.Proofs.Dig
attribute [local irreducible] IntKind.wrap PureC MutC MakC IterC
set_option maxHeartbeats 8000000 in
theorem f8_ok {J : Keep} (L : LibI J) {x y z : Num3} (hx : x.ok) (hy : y.ok) (hz : z.ok) : C J 8 [x.iv, y.iv, z.iv] (.bool true) := by
  refine fn_ok Tryz.func8 rfl rfl rfl ?_
  have cx := bothC J hx
  have cy := bothC J hy
  have cz := bothC J hz
  have ra := bothL hx
  have rb := bothL hy
  have rc := bothL hz
  obtain ⟨a, ha⟩ : ∃ a, x.q = a := ⟨_, rfl⟩
  obtain ⟨b, hb⟩ : ∃ b, y.q = b := ⟨_, rfl⟩
  obtain ⟨c, hc⟩ : ∃ c, z.q = c := ⟨_, rfl⟩
  rw [ha] at cx ra
  rw [hb] at cy rb
  rw [hc] at cz rc
  unfold Num3.iv at *
  have s1 := rl_add a b
  have s2 := rl_add b a
  have s3 := rl_mul a b
  have s4 := rl_mul b a
  have s5 := rl_add b c
  have s6 := rl_add (a + b) c
  have s7 := rl_add a (b + c)
  have s8 := rl_mul b c
  have s9 := rl_mul (a * b) c
  have s10 := rl_mul a (b * c)
  have s11 := rl_mul a (b + c)
  have s12 := rl_mul a c
  have s13 := rl_add (a * b) (a * c)
  have s14 := rl_sub a b
  have s15 := rl_add (a - b) b
  have s16 := rl_mul a a
  have s17 := rl_add a c
  have e2 : a ^ (intoN 2 1000) = a * a := by rw [show intoN 2 1000 = 2 from rfl, show (2 : Nat) = 0 + 1 + 1 from rfl, Rat.pow_succ, Rat.pow_succ, Rat.pow_zero, Rat.one_mul]
  have c1 := addC (J := J) (a := a) (b := b) (by omega) (by omega)
  have c2 := addC (J := J) (a := b) (b := a) (by omega) (by omega)
  have c3 := mulC (J := J) (a := a) (b := b) (by omega) (by omega)
  have c4 := mulC (J := J) (a := b) (b := a) (by omega) (by omega)
  have c5 := addC (J := J) (a := b) (b := c) (by omega) (by omega)
  have c6 := addC (J := J) (a := a + b) (b := c) (by omega) (by omega)
  have c7 := addC (J := J) (a := a) (b := b + c) (by omega) (by omega)
  have c8 := mulC (J := J) (a := b) (b := c) (by omega) (by omega)
  have c9 := mulC (J := J) (a := a * b) (b := c) (by omega) (by omega)
  have c10 := mulC (J := J) (a := a) (b := b * c) (by omega) (by omega)
  have c11 := mulC (J := J) (a := a) (b := b + c) (by omega) (by omega)
  have c12 := mulC (J := J) (a := a) (b := c) (by omega) (by omega)
  have c13 := addC (J := J) (a := a * b) (b := a * c) (by omega) (by omega)
  have c14 := subC (J := J) (a := a) (b := b) (by omega) (by omega)
  have c15 := addC (J := J) (a := a - b) (b := b) (by omega) (by omega)
  have c16 := mulC (J := J) (a := a) (b := a) (by omega) (by omega)
  have c17 := addC (J := J) (a := a) (b := c) (by omega) (by omega)
  have c18 := powC (J := J) (a := a) (by omega) 2
  rw [e2] at c18
  have d1 := sameC L (Rat.add_comm a b) (by omega)
  have d2 := sameC L (Rat.mul_comm a b) (by omega)
  have d3 := sameC L (Rat.add_assoc a b c) (by omega)
  have d4 := sameC L (Rat.mul_assoc a b c) (by omega)
  have d5 := sameC L (Rat.mul_add a b c) (by omega)
  have d6 := sameC L (show a - b + b = a by grind) (by omega)
  have d7 := sameC L (show a * a = a * a from rfl) (by omega)
  have hv := cmpR_range a b
  have e3 := cmpR_add a b c
  have e4 := cmpR_sub a b
  have e5 := cmpR_swap a b
  have e6 : 0 ≤ cmpR (a * a) 0 := cmpR_ge.2 (sq_nonneg a)
  obtain ⟨v, hve⟩ : ∃ v, cmpR a b = v := ⟨_, rfl⟩
  obtain ⟨u, hue⟩ : ∃ u, cmpR (a * a) 0 = u := ⟨_, rfl⟩
  rw [hve] at hv e3 e4 e5
  rw [hue] at e6
  have k1 := cmpC' (J := J) (by omega) (by omega) hve
  have k2 := cmpC' (J := J) (by omega) (by omega) e3
  have k3 := sgnC' (J := J) e4
  have k4 := cmpC' (J := J) (by omega) (by omega) e5
  have k5 := sgnC' (J := J) hue
  have aw := f19_ok L
  have ub : u ≤ 1 := by rw [← hue]; exact (cmpR_range _ _).2
  by_cases h0 : b = 0
  · have k6 := sgnC' (J := J) (cmpR_eq.2 h0)
    have k7 := f52_zero J a
    rw [← h0] at k7
    clear s1 s2 s3 s4 s5 s6 s7 s8 s9 s10 s11 s12 s13 s14 s15 s16 s17 ra rb rc e2 hve hue e3 e4 e5 ha hb hc hx hy hz
    repeat (first | (refine W.wkRS (id := 4) (σ' := mkA [(7, .ptr 0 0), (9, .ptr 1 0), (11, .ptr 2 0)] [(0, .var (qr a)), (1, .var (qr b)), (2, .var (qr c))] 40) (Wk.tab [(0, 9), (1, 18), (2, 27)] ⟨⟨rfl, rfl⟩, ⟨rfl, rfl⟩, ⟨rfl, rfl⟩, trivial⟩ ⟨rfl, rfl, rfl, trivial⟩ rfl) (by kernel_rfl) ?_; conv => whnf) | (refine W.wkRS (id := 6) (σ' := mkA [(7, .ptr 0 0), (9, .ptr 1 0), (11, .ptr 2 0)] [(0, .var (qr a)), (1, .var (qr b)), (2, .var (qr c))] 600) (Wk.tab [] ⟨⟨rfl, rfl⟩, ⟨rfl, rfl⟩, ⟨rfl, rfl⟩, trivial⟩ ⟨rfl, rfl, rfl, trivial⟩ rfl) (by kernel_rfl) ?_; conv => whnf) | (refine W.wkRS (id := 9) (σ' := mkA [(7, .ptr 0 0), (9, .ptr 1 0), (11, .ptr 2 0)] [(0, .var (qr a)), (1, .var (qr b)), (2, .var (qr c))] 900) (Wk.tab [] ⟨⟨rfl, rfl⟩, ⟨rfl, rfl⟩, ⟨rfl, rfl⟩, trivial⟩ ⟨rfl, rfl, rfl, trivial⟩ rfl) (by kernel_rfl) ?_; conv => whnf) | (refine W.RS (by kernel_rfl) ?_; conv => whnf) | (refine W.S ?_) | (refine W.ret ?_; conv => whnf) | (refine W.skip ?_; conv => whnf) | (refine W.condF rfl ?_) | (refine ⟨_, cx, ?_⟩; conv => whnf) | (refine ⟨_, cy, ?_⟩; conv => whnf) | (refine ⟨_, cz, ?_⟩; conv => whnf) | (refine ⟨_, c1, ?_⟩; conv => whnf) | (refine ⟨_, c2, ?_⟩; conv => whnf) | (refine ⟨_, c3, ?_⟩; conv => whnf) | (refine ⟨_, c4, ?_⟩; conv => whnf) | (refine ⟨_, c5, ?_⟩; conv => whnf) | (refine ⟨_, c6, ?_⟩; conv => whnf) | (refine ⟨_, c7, ?_⟩; conv => whnf) | (refine ⟨_, c8, ?_⟩; conv => whnf) | (refine ⟨_, c9, ?_⟩; conv => whnf) | (refine ⟨_, c10, ?_⟩; conv => whnf) | (refine ⟨_, c11, ?_⟩; conv => whnf) | (refine ⟨_, c12, ?_⟩; conv => whnf) | (refine ⟨_, c13, ?_⟩; conv => whnf) | (refine ⟨_, c14, ?_⟩; conv => whnf) | (refine ⟨_, c15, ?_⟩; conv => whnf) | (refine ⟨_, c16, ?_⟩; conv => whnf) | (refine ⟨_, c17, ?_⟩; conv => whnf) | (refine ⟨_, c18, ?_⟩; conv => whnf) | (refine ⟨_, d1, ?_⟩; conv => whnf) | (refine ⟨_, d2, ?_⟩; conv => whnf) | (refine ⟨_, d3, ?_⟩; conv => whnf) | (refine ⟨_, d4, ?_⟩; conv => whnf) | (refine ⟨_, d5, ?_⟩; conv => whnf) | (refine ⟨_, d6, ?_⟩; conv => whnf) | (refine ⟨_, d7, ?_⟩; conv => whnf) | (refine ⟨_, k1, ?_⟩; conv => whnf) | (refine ⟨_, k2, ?_⟩; conv => whnf) | (refine ⟨_, k3, ?_⟩; conv => whnf) | (refine ⟨_, k4, ?_⟩; conv => whnf) | (refine ⟨_, k5, ?_⟩; conv => whnf) | (refine ⟨_, k6, ?_⟩; conv => whnf) | (refine ⟨_, k7, ?_⟩; conv => whnf) | (refine ⟨_, aw, ?_⟩; conv => whnf) | (refine ⟨_, w64 (by omega), ?_⟩; conv => whnf) | (refine ⟨true, decide_eq_true (by omega), ?_⟩; conv => whnf) | (refine ⟨false, bne_eq_false_iff_eq.2 (by omega), ?_⟩; conv => whnf) | (refine ⟨_, rfl, ?_⟩; conv => whnf) | (refine ⟨rfl, ?_⟩; conv => whnf) | (refine ⟨_, fun h => absurd h Bool.false_ne_true, fun _ => rfl, ?_⟩; conv => whnf) | (refine ⟨_, fun _ => rfl, fun h => absurd h.symm Bool.false_ne_true, ?_⟩; conv => whnf))
    rfl
  · obtain ⟨w, hwe⟩ : ∃ w, cmpR b 0 = w := ⟨_, rfl⟩
    have hw0 : w ≠ 0 := fun e => h0 (cmpR_eq.1 (by rw [hwe]; exact e))
    have k6 := sgnC' (J := J) hwe
    have k7 := divC (J := J) (a := a) (b := b) (by omega) (by omega) h0
    have s18 := rl_div a b
    have s19 := rl_mul (a / b) b
    have k8 := mulC (J := J) (a := a / b) (b := b) (by omega) (by omega)
    have k9 := sameC L (show a / b * b = a by rw [Rat.div_def, Rat.mul_assoc, Rat.inv_mul_cancel b h0, Rat.mul_one]) (by omega)
    clear s1 s2 s3 s4 s5 s6 s7 s8 s9 s10 s11 s12 s13 s14 s15 s16 s17 s18 s19 ra rb rc e2 hve hue e3 e4 e5 ha hb hc hx hy hz hwe
    repeat (first | (refine W.wkRS (id := 4) (σ' := mkA [(7, .ptr 0 0), (9, .ptr 1 0), (11, .ptr 2 0)] [(0, .var (qr a)), (1, .var (qr b)), (2, .var (qr c))] 40) (Wk.tab [(0, 9), (1, 18), (2, 27)] ⟨⟨rfl, rfl⟩, ⟨rfl, rfl⟩, ⟨rfl, rfl⟩, trivial⟩ ⟨rfl, rfl, rfl, trivial⟩ rfl) (by kernel_rfl) ?_; conv => whnf) | (refine W.wkRS (id := 6) (σ' := mkA [(7, .ptr 0 0), (9, .ptr 1 0), (11, .ptr 2 0)] [(0, .var (qr a)), (1, .var (qr b)), (2, .var (qr c))] 600) (Wk.tab [] ⟨⟨rfl, rfl⟩, ⟨rfl, rfl⟩, ⟨rfl, rfl⟩, trivial⟩ ⟨rfl, rfl, rfl, trivial⟩ rfl) (by kernel_rfl) ?_; conv => whnf) | (refine W.wkRS (id := 9) (σ' := mkA [(7, .ptr 0 0), (9, .ptr 1 0), (11, .ptr 2 0)] [(0, .var (qr a)), (1, .var (qr b)), (2, .var (qr c))] 900) (Wk.tab [] ⟨⟨rfl, rfl⟩, ⟨rfl, rfl⟩, ⟨rfl, rfl⟩, trivial⟩ ⟨rfl, rfl, rfl, trivial⟩ rfl) (by kernel_rfl) ?_; conv => whnf) | (refine W.RS (by kernel_rfl) ?_; conv => whnf) | (refine W.S ?_) | (refine W.ret ?_; conv => whnf) | (refine W.skip ?_; conv => whnf) | (refine W.condF rfl ?_) | (refine ⟨_, cx, ?_⟩; conv => whnf) | (refine ⟨_, cy, ?_⟩; conv => whnf) | (refine ⟨_, cz, ?_⟩; conv => whnf) | (refine ⟨_, c1, ?_⟩; conv => whnf) | (refine ⟨_, c2, ?_⟩; conv => whnf) | (refine ⟨_, c3, ?_⟩; conv => whnf) | (refine ⟨_, c4, ?_⟩; conv => whnf) | (refine ⟨_, c5, ?_⟩; conv => whnf) | (refine ⟨_, c6, ?_⟩; conv => whnf) | (refine ⟨_, c7, ?_⟩; conv => whnf) | (refine ⟨_, c8, ?_⟩; conv => whnf) | (refine ⟨_, c9, ?_⟩; conv => whnf) | (refine ⟨_, c10, ?_⟩; conv => whnf) | (refine ⟨_, c11, ?_⟩; conv => whnf) | (refine ⟨_, c12, ?_⟩; conv => whnf) | (refine ⟨_, c13, ?_⟩; conv => whnf) | (refine ⟨_, c14, ?_⟩; conv => whnf) | (refine ⟨_, c15, ?_⟩; conv => whnf) | (refine ⟨_, c16, ?_⟩; conv => whnf) | (refine ⟨_, c17, ?_⟩; conv => whnf) | (refine ⟨_, c18, ?_⟩; conv => whnf) | (refine ⟨_, d1, ?_⟩; conv => whnf) | (refine ⟨_, d2, ?_⟩; conv => whnf) | (refine ⟨_, d3, ?_⟩; conv => whnf) | (refine ⟨_, d4, ?_⟩; conv => whnf) | (refine ⟨_, d5, ?_⟩; conv => whnf) | (refine ⟨_, d6, ?_⟩; conv => whnf) | (refine ⟨_, d7, ?_⟩; conv => whnf) | (refine ⟨_, k1, ?_⟩; conv => whnf) | (refine ⟨_, k2, ?_⟩; conv => whnf) | (refine ⟨_, k3, ?_⟩; conv => whnf) | (refine ⟨_, k4, ?_⟩; conv => whnf) | (refine ⟨_, k5, ?_⟩; conv => whnf) | (refine ⟨_, k6, ?_⟩; conv => whnf) | (refine ⟨_, k7, ?_⟩; conv => whnf) | (refine ⟨_, k8, ?_⟩; conv => whnf) | (refine ⟨_, k9, ?_⟩; conv => whnf) | (refine ⟨_, aw, ?_⟩; conv => whnf) | (refine ⟨_, w64 (by omega), ?_⟩; conv => whnf) | (refine ⟨true, decide_eq_true (by omega), ?_⟩; conv => whnf) | (refine ⟨true, bne_iff_ne.2 (by omega), ?_⟩; conv => whnf) | (refine ⟨false, bne_eq_false_iff_eq.2 (by omega), ?_⟩; conv => whnf) | (refine ⟨_, rfl, ?_⟩; conv => whnf) | (refine ⟨rfl, ?_⟩; conv => whnf) | (refine ⟨_, fun h => absurd h Bool.false_ne_true, fun _ => rfl, ?_⟩; conv => whnf) | (refine ⟨_, fun _ => rfl, fun h => absurd h.symm Bool.false_ne_true, ?_⟩; conv => whnf))
    rfl
end Go.Proofs.Fl
