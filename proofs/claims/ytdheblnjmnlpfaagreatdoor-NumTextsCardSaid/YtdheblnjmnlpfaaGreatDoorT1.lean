/-
  NumTexts answers true for every input (the row's own conditions alone).
-/
import Derived.Test.YtdheblnjmnlpfaaGreatDoorB10
namespace Go.Proofs.Fl
open Go.RowKit Go.Proofs.Dig
attribute [local irreducible] IntKind.wrap PureC MutC MakC IterC
theorem qtext_len (q : Rat) : (qtext q).length ≤ 9 * rl q + 4 := by
  have h1 := decN_ln q.num.natAbs
  have h2 := decN_ln q.den
  have h3 := qln_rl q
  unfold qln at h3
  have hz : (ztext q.num).length ≤ (decN q.num.natAbs).length + 1 := by
    unfold ztext
    split <;> simp <;> omega
  unfold qtext
  split
  · omega
  · simp only [List.length_append, List.length_cons, List.length_nil]; omega
set_option maxHeartbeats 8000000 in
theorem f6_ok {J : Keep} (L : LibI J) {x y : Num3} (hx : x.ok) (hy : y.ok) : C J 6 [x.iv, y.iv] (.bool true) := by
  refine fn_ok Tryz.func6 rfl rfl rfl ?_
  have cx := bothC J hx
  have cy := bothC J hy
  have ra := bothL hx
  have rb := bothL hy
  obtain ⟨a, ha⟩ : ∃ a, x.q = a := ⟨_, rfl⟩
  obtain ⟨b, hb⟩ : ∃ b, y.q = b := ⟨_, rfl⟩
  rw [ha] at cx ra
  rw [hb] at cy rb
  unfold Num3.iv at *
  have qa := qln_rl a
  have qb := qln_rl b
  have c1 := f35_ok L (q := a) (by omega)
  have c2 := f35_ok L (q := b) (by omega)
  have l1 := qtext_len a
  have c3 := f20_ok L (s := qtext a) (by omega)
  rw [parse_text (by omega)] at c3
  unfold rePq at c3
  have c4 := sameC L (show a = a from rfl) (by omega)
  have c5 := cmpC (J := J) (a := a) (b := b) (by omega) (by omega)
  have aw := f19_ok L
  have e := qtext_beq a b
  have hcm := @cmpR_eq a b
  obtain ⟨cv, hcv⟩ : ∃ cv, cmpR a b = cv := ⟨_, rfl⟩
  obtain ⟨ta, hta⟩ : ∃ t, qtext a = t := ⟨_, rfl⟩
  obtain ⟨tb, htb⟩ : ∃ t, qtext b = t := ⟨_, rfl⟩
  rw [hcv] at c5 hcm
  rw [hta] at c1 c3 e
  rw [htb] at c2 e
  by_cases h : a = b
  · rw [decide_eq_true h] at e
    have h0 := hcm.2 h
    repeat (first | (refine W.RS (by kernel_rfl) ?_; conv => whnf) | (refine W.ret ?_; conv => whnf) | (refine ⟨_, cx, ?_⟩; conv => whnf) | (refine ⟨_, cy, ?_⟩; conv => whnf) | (refine ⟨_, c1, ?_⟩; conv => whnf) | (refine ⟨_, c2, ?_⟩; conv => whnf) | (refine ⟨_, c3, ?_⟩; conv => whnf) | (refine ⟨_, c4, ?_⟩; conv => whnf) | (refine ⟨_, c5, ?_⟩; conv => whnf) | (refine ⟨_, aw, ?_⟩; conv => whnf) | (refine ⟨_, e, ?_⟩; conv => whnf) | (refine ⟨true, decide_eq_true (by omega), ?_⟩; conv => whnf) | (refine ⟨_, rfl, ?_⟩; conv => whnf) | (refine ⟨rfl, ?_⟩; conv => whnf) | (refine ⟨_, fun _ => rfl, fun h => absurd h.symm Bool.false_ne_true, ?_⟩; conv => whnf))
    rfl
  · rw [decide_eq_false h] at e
    have h0 : ¬ cv = 0 := fun e => h (hcm.1 e)
    repeat (first | (refine W.RS (by kernel_rfl) ?_; conv => whnf) | (refine W.ret ?_; conv => whnf) | (refine ⟨_, cx, ?_⟩; conv => whnf) | (refine ⟨_, cy, ?_⟩; conv => whnf) | (refine ⟨_, c1, ?_⟩; conv => whnf) | (refine ⟨_, c2, ?_⟩; conv => whnf) | (refine ⟨_, c3, ?_⟩; conv => whnf) | (refine ⟨_, c4, ?_⟩; conv => whnf) | (refine ⟨_, c5, ?_⟩; conv => whnf) | (refine ⟨_, aw, ?_⟩; conv => whnf) | (refine ⟨_, e, ?_⟩; conv => whnf) | (refine ⟨true, decide_eq_true (by omega), ?_⟩; conv => whnf) | (refine ⟨false, decide_eq_false (by omega), ?_⟩; conv => whnf) | (refine ⟨_, rfl, ?_⟩; conv => whnf) | (refine ⟨rfl, ?_⟩; conv => whnf) | (refine ⟨_, fun _ => rfl, fun h => absurd h.symm Bool.false_ne_true, ?_⟩; conv => whnf))
    rfl
end Go.Proofs.Fl
