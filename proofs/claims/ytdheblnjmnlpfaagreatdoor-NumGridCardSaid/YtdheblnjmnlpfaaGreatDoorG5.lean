/-
  NumGrid answers true for every input (the row's own conditions alone).
-/
import Derived.Test.YtdheblnjmnlpfaaGreatDoorG4
namespace Go.Proofs.Fl
open Go.RowKit Go.Proofs.Dig
attribute [local irreducible] IntKind.wrap PureC MutC MakC IterC
theorem rl_down (q : Rat) (k : Int) : rl (((q * (((gk k : Nat) : Int) : Rat)).floor : Rat) * mkRat 1 (gk k)) ≤ rl q + 600 := by
  have h1 := rl_mul q (((gk k : Nat) : Int) : Rat)
  have h2 := rl_gk k
  have h3 := rl_floor (q := q * (((gk k : Nat) : Int) : Rat))
  have h4 := rl_fine k
  have h5 := rl_mul (((q * (((gk k : Nat) : Int) : Rat)).floor : Rat)) (mkRat 1 (gk k))
  have h6 : lh (q * (((gk k : Nat) : Int) : Rat)).num.natAbs ≤ rl (q * (((gk k : Nat) : Int) : Rat)) := by unfold rl; omega
  omega
theorem rl_up (q : Rat) (k : Int) : rl (-((-(q * (((gk k : Nat) : Int) : Rat))).floor : Rat) * mkRat 1 (gk k)) ≤ rl q + 600 := by
  have h1 := rl_mul q (((gk k : Nat) : Int) : Rat)
  have h2 := rl_gk k
  have h0 := rl_neg (q * (((gk k : Nat) : Int) : Rat))
  have h3 := rl_floor (q := -(q * (((gk k : Nat) : Int) : Rat)))
  have h4 := rl_fine k
  have h5 := rl_mul (-((-(q * (((gk k : Nat) : Int) : Rat))).floor : Rat)) (mkRat 1 (gk k))
  have h7 := rl_neg (((-(q * (((gk k : Nat) : Int) : Rat))).floor : Int) : Rat)
  have h6 : lh (-(q * (((gk k : Nat) : Int) : Rat))).num.natAbs ≤ rl (-(q * (((gk k : Nat) : Int) : Rat))) := by unfold rl; omega
  omega
theorem rl_round (q : Rat) (k : Int) : rl (((nearI (q * (((gk k : Nat) : Int) : Rat)) : Int) : Rat) * mkRat 1 (gk k)) ≤ rl q + 600 := by
  have h1 := rl_mul q (((gk k : Nat) : Int) : Rat)
  have h2 := rl_gk k
  have h3 := rl_near (q * (((gk k : Nat) : Int) : Rat))
  have h4 := rl_fine k
  have h5 := rl_mul ((nearI (q * (((gk k : Nat) : Int) : Rat)) : Int) : Rat) (mkRat 1 (gk k))
  have h6 : lh (q * (((gk k : Nat) : Int) : Rat)).num.natAbs ≤ rl (q * (((gk k : Nat) : Int) : Rat)) := by unfold rl; omega
  omega
theorem f23_t {J : Keep} (L : LibI J) {p : Rat} (hp : rl p < 2 ^ 34) : C J 23 [qr p, rr p] (.bool true) := by
  have := f23_ok L (DOk.rr p) (rl_lt_qln (N := 2 ^ 36) (q := p) (by omega)) hp
  rw [decide_eq_true rfl] at this
  exact this
theorem f44_t {J : Keep} (L : LibI J) {p q : Rat} (hp : rl p < 2 ^ 34) (hq : rl q < 2 ^ 34) : C J 44 [sd p q, sx (some p) (some q)] (.bool true) := by
  have := f44_ok L (a := p) (b := q) (p := p) (q := q) (rl_lt_qln (N := 2 ^ 36) (by omega)) (rl_lt_qln (N := 2 ^ 36) (by omega)) hp hq
  rw [decide_eq_true rfl, decide_eq_true rfl] at this
  exact this
set_option maxHeartbeats 4000000 in
theorem f7_ok {J : Keep} (L : LibI J) {n d : Int} {p : Nat} (h1 : -9223372036854775808 ≤ n) (h2 : n ≤ 9223372036854775807) (h3 : -9223372036854775808 ≤ d) (h4 : d ≤ 9223372036854775807) (k : Int) : C J 7 [numI n d p, .int .i64 k] (.bool true) := by
  refine fn_ok Tryz.func7 rfl rfl rfl ?_
  have c0 := f34_ok J (p := p) h1 h2 h3 h4
  have hb := rl_both (p := p) h1 h2 h3 h4
  obtain ⟨q, hq⟩ : ∃ q, bothN n d p = q := ⟨_, rfl⟩
  rw [hq] at c0 hb
  have lq := qln_rl q
  have r1 := rl_down q k
  have r2 := rl_up q k
  have r3 := rl_round q k
  have r4 := rl_fine k
  have c1 := f38_ok J (DOk.rr q) (by omega) k
  have c2 := f39_ok J (DOk.rr q) (by omega) k
  have c3 := f40_ok (base J) (q := q) (by omega) k
  have c4 := f41_ok (base J) (q := q) (by omega) k
  have c5 := f42_ok (base J) (a := q) (by omega) k
  have c6 := f43_ok J (DOk.rr q) (by omega) k
  have c7 := f45_ok (base J) (q := q) (by omega) k
  have c8 : C J 46 [.int .i64 k] (qr (mkRat 1 (gk k))) := f46_ok (base J) k
  have c9 := f47_ok J k
  obtain ⟨x1, hx1⟩ : ∃ x, (((q * (((gk k : Nat) : Int) : Rat)).floor : Rat) * mkRat 1 (gk k)) = x := ⟨_, rfl⟩
  obtain ⟨x2, hx2⟩ : ∃ x, (-((-(q * (((gk k : Nat) : Int) : Rat))).floor : Rat) * mkRat 1 (gk k)) = x := ⟨_, rfl⟩
  obtain ⟨x3, hx3⟩ : ∃ x, (((nearI (q * (((gk k : Nat) : Int) : Rat)) : Int) : Rat) * mkRat 1 (gk k)) = x := ⟨_, rfl⟩
  obtain ⟨x4, hx4⟩ : ∃ x, mkRat 1 (gk k) = x := ⟨_, rfl⟩
  rw [hx1] at c1 c3 r1
  rw [hx2] at c2 c4 r2
  rw [hx3] at c5 c6 r3
  rw [hx1, hx2] at c7
  rw [hx4] at c8 c9 r4
  have d1 := f23_t L (p := x1) (by omega)
  have d2 := f23_t L (p := x2) (by omega)
  have d3 := f23_t L (p := x3) (by omega)
  have d4 := f23_t L (p := x4) (by omega)
  have d5 := f44_t L (p := x1) (q := x2) (by omega) (by omega)
  have e1 := f19_ok L
  clear hq hx1 hx2 hx3 hx4
  repeat (first | (refine W.RS (by kernel_rfl) ?_; conv => whnf) | (refine W.ret ?_; conv => whnf) | (refine ⟨_, c0, ?_⟩; conv => whnf) | (refine ⟨_, c1, ?_⟩; conv => whnf) | (refine ⟨_, c2, ?_⟩; conv => whnf) | (refine ⟨_, c3, ?_⟩; conv => whnf) | (refine ⟨_, c4, ?_⟩; conv => whnf) | (refine ⟨_, c5, ?_⟩; conv => whnf) | (refine ⟨_, c6, ?_⟩; conv => whnf) | (refine ⟨_, c7, ?_⟩; conv => whnf) | (refine ⟨_, c8, ?_⟩; conv => whnf) | (refine ⟨_, c9, ?_⟩; conv => whnf) | (refine ⟨_, d1, ?_⟩; conv => whnf) | (refine ⟨_, d2, ?_⟩; conv => whnf) | (refine ⟨_, d3, ?_⟩; conv => whnf) | (refine ⟨_, d4, ?_⟩; conv => whnf) | (refine ⟨_, d5, ?_⟩; conv => whnf) | (refine ⟨_, e1, ?_⟩; conv => whnf) | (refine ⟨rfl, ?_⟩; conv => whnf) | (refine ⟨_, fun _ => rfl, fun h => absurd h.symm Bool.false_ne_true, ?_⟩; conv => whnf))
  rfl
end Go.Proofs.Fl
namespace Go.Proofs.Fl
open Go.RowKit Go.Proofs.Dig
attribute [local irreducible] IntKind.wrap PureC MutC MakC IterC
section
variable {J : Keep} {a b c : Rat}
end
structure Num3 where
  n : Int
  d : Int
  p : Nat
def Num3.iv (x : Num3) : IV := numI x.n x.d x.p
def Num3.ok (x : Num3) : Prop := (-9223372036854775808 ≤ x.n ∧ x.n ≤ 9223372036854775807) ∧ (-9223372036854775808 ≤ x.d ∧ x.d ≤ 9223372036854775807) ∧ x.p < 256
end Go.Proofs.Fl
namespace Go.Proofs.Fl
open Go.RowKit Go.ChangeShapes Go.WideShapes Go.Deep
attribute [local irreducible] IntKind.wrap PureC MutC MakC IterC
set_option maxRecDepth 100000
theorem laidOut' : laidOutB YtdheblnjmnlpfaaGreatDoor.Tryz.pinned.checked.prog = true := by kernel_rfl
theorem rowed' : mapsRowed YtdheblnjmnlpfaaGreatDoor.Tryz.pinned.checked.prog = true := by kernel_rfl
section
variable {H : Type} {enc : TypeId × Value → H} {P : Program} {w : World} {base : Nat} {spare : Nat → Bool} {held : Bool}
theorem args_open2 {t0 t1 : TypeId} {args : Array Value} {ds : List (DataW H)} {ps : List MemPlace} (h : DataW.TrodAll enc P w base spare held [t0, t1] args.toList ds ps) :
    ∃ v0 v1 d0 d1, (∃ p, DataW.Trod enc P w base spare held t0 v0 d0 p) ∧ (∃ p, DataW.Trod enc P w base spare held t1 v1 d1 p) ∧ args = #[v0, v1] := by
  obtain ⟨v0, vs, d0, ds', p0, q, hargs, rfl, rfl, h0, h⟩ := trodAll_cons h
  obtain ⟨v1, vs, d1, ds', p1, q, rfl, rfl, rfl, h1, h⟩ := trodAll_cons h
  obtain ⟨rfl, rfl, rfl⟩ := trodAll_nil h
  exact ⟨v0, v1, d0, d1, ⟨_, h0⟩, ⟨_, h1⟩, Array.toList_inj.1 hargs⟩
end
section
variable {H : Type} {enc : TypeId × Value → H} {w : World} {base : Nat} {spare : Nat → Bool} {held : Bool} {r : Reach} {b0 : Nat} {v : Value} {d : DataW H}
theorem num_arg3 (hv : Value.okWide Tryz.prog w r b0 45 v) (h : ∃ p, DataW.Trod enc Tryz.prog w base spare held 45 v d p) : ∃ x : Num3, v = .agg #[.int .i64 x.n, .int .i64 x.d, .int .u8 (x.p : Int)] ∧ x.ok := by
  obtain ⟨p, h⟩ := h
  obtain ⟨n, d, p, e, h1, h2, h3⟩ := num_arg hv h
  exact ⟨⟨n, d, p⟩, e, h1, h2, h3⟩
end
end Go.Proofs.Fl
