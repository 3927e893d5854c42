/-
  Contracts of the functions of num and of its reference, and the join to a row (no conditions of ours).
-/
import Derived.Test.YtdheblnjmnlpfaaGreatDoorB3
import Derived.Shelf.Strings.SlTrimAscii
namespace Go.Proofs.Fl
open Go.RowKit Go.Proofs.Dig
attribute [local irreducible] IntKind.wrap PureC MutC MakC IterC
theorem hv_snoc (l : List Nat) (x : Nat) : hv (l ++ [x]) = hv l * 32768 + x := by
  unfold hv
  rw [List.reverse_append]
  show nv B15 (x :: l.reverse) = _
  show x + 32768 * nv B15 l.reverse = _
  omega
theorem f225_at (J : Keep) {l : List Nat} {es : List IV} (he : es = l.map d64) (hl : l.length < 2 ^ 60) {n : Nat} (hd : Dg B15 l.reverse) (hn : hv l = n) : C J 225 [.sl es] (.sl ((dh n).map d64)) := by
  have := f225_ok J hl
  rwa [dh_strip hd hn, ← he] at this
theorem take_hv {l : List Nat} {i : Nat} (h : i < l.length) : hv (l.take (i + 1)) = hv (l.take i) * 32768 + l.getD i 0 := by
  rw [take_succ_getD h, hv_snoc, List.getD_eq_getElem?_getD, List.getElem?_eq_getElem h]; rfl
theorem ov_step {N r d x q : Nat} (hd : 0 < d) (h1 : N / d = q) (h2 : N % d = r) : (N * 32768 + x) / d = q * 32768 + (r * 32768 + x) / d ∧ (N * 32768 + x) % d = (r * 32768 + x) % d := by
  have e : N * 32768 + x = d * (q * 32768) + (r * 32768 + x) := by
    have := Nat.div_add_mod N d
    rw [h1, h2] at this
    rw [← this, Nat.add_mul, Nat.mul_assoc, Nat.add_assoc]
  rw [e, Nat.mul_add_div hd, Nat.mul_add_mod]
  exact ⟨rfl, rfl⟩
noncomputable def ovInv (l m : List Nat) (u i : Nat) (Q : List Nat) : AS :=
  match Q with
  | [] => mkA [(0, .iv (.sl (l.map d64))), (1, .iv (.sl (m.map d64))), (6, .nilS), (7, .iv (.sl ((dh u).map d64))), (8, .iv (.int .i64 (i : Nat)))] [] 60
  | x :: Q => mkA [(0, .iv (.sl (l.map d64))), (1, .iv (.sl (m.map d64))), (6, .ref 1 0 (x :: Q).length true), (7, .iv (.sl ((dh u).map d64))), (8, .iv (.int .i64 (i : Nat)))] [(1, .arr 3 1 ((x :: Q).map d64) false)] 60
theorem all64c {l : List Nat} : ∀ y ∈ l.map d64, y.cells.length = 1 ∧ y.isTup = false := by
  intro y hy
  obtain ⟨d, _, rfl⟩ := List.mem_map.1 hy
  exact ⟨rfl, rfl⟩
theorem all64d {l : List Nat} {i j : Nat} : ∀ y ∈ List.drop j (List.take i (l.map d64)), y.cells.length = 1 ∧ y.isTup = false := by
  intro y hy
  obtain ⟨d, _, rfl⟩ := List.mem_map.1 (List.mem_of_mem_take (List.mem_of_mem_drop hy))
  exact ⟨rfl, rfl⟩
theorem isE {l : List Nat} (h : l ≠ []) : (l.map d64).isEmpty = false := by cases l with | nil => exact absurd rfl h | cons => rfl
theorem isT {l : List Nat} (h : l = []) : (l.map d64).isEmpty = true := by rw [h]; rfl
set_option maxHeartbeats 4000000 in
theorem f196_ok (J : Keep) {a d : Nat} (hd : 0 < d) (ha : lh a < 2 ^ 38) : C J 196 [.sl ((dh a).map d64), .sl ((dh d).map d64)] (.tup [.sl ((dh (a / d)).map d64), .sl ((dh (a % d)).map d64)]) := by
  refine fn_ok Tryz.func196 rfl rfl rfl ?_
  have la : ((dh a).map d64).length = lh a := by simp [lh]
  have lb : ((dh d).map d64).length = lh d := by simp [lh]
  have hlp := lh_pos hd
  by_cases h1 : lh a < lh d
  · have hlt := hv_lt_of_len (l := dh a) (m := dh d) (dh_ok a) (dh_ok d) h1
    rw [dh_hv, dh_hv] at hlt
    repeat (first | (refine W.RS (by kernel_rfl) ?_; conv => whnf) | (refine W.S ?_) | (refine W.ret ?_; conv => whnf) | (refine W.condT rfl ?_) | (refine ⟨true, decide_eq_true (by omega), ?_⟩; conv => whnf) | (refine ⟨_, rfl, ?_⟩; conv => whnf) | (refine ⟨rfl, ?_⟩; conv => whnf))
    rw [Nat.div_eq_of_lt hlt, Nat.mod_eq_of_lt hlt, dh_zero]; rfl
  · have hld : lh d < 2 ^ 38 := by omega
    obtain ⟨l, hl⟩ : ∃ l, l = dh a := ⟨_, rfl⟩
    obtain ⟨m, hm⟩ : ∃ m, m = dh d := ⟨_, rfl⟩
    have hol : Dg B15 l.reverse := by rw [hl]; exact (dh_ok a).dg
    have hvl : hv l = a := by rw [hl]; exact dh_hv a
    have hvm : hv m = d := by rw [hm]; exact dh_hv d
    have hll : l.length = lh a := by rw [hl]; rfl
    have hml : m.length = lh d := by rw [hm]; rfl
    rw [← hl, ← hm]
    rw [← hl] at la
    rw [← hm] at lb
    have hdt : ∀ i, Dg B15 (l.take i).reverse := fun i => by
      intro x hx
      exact hol x (by simp only [List.mem_reverse] at hx ⊢; exact List.mem_of_mem_take hx)
    have hu0 : hv (l.take (lh d - 1)) < d := by
      have h3 := hv_lt (l.take (lh d - 1)) (hdt _)
      have h4 := lh_ge hd
      have h5 : (l.take (lh d - 1)).length = lh d - 1 := by rw [List.length_take]; omega
      rw [h5] at h3
      omega
    refine W.RS (by kernel_rfl) ?_
    conv => whnf
    iterate 9 (first | (refine W.RS (by kernel_rfl) ?_; conv => whnf) | (refine W.S ?_) | (refine W.skip ?_; conv => whnf) | (refine W.condF rfl ?_) | (refine ⟨false, decide_eq_false (by omega), ?_⟩; conv => whnf) | (refine ⟨_, rfl, ?_⟩; conv => whnf) | (refine ⟨rfl, ?_⟩; conv => whnf))
    refine W.join (G := Unit) (fun _ => mkA [(0, .iv (.sl (l.map d64))), (1, .iv (.sl (m.map d64))), (6, .nilS), (7, .iv (.sl ((dh (hv (l.take (lh d - 1)))).map d64)))] [] 40) ?_ ?_
    · have lt : ((l.map d64).take (lh d - 1)).drop 0 = (l.take (lh d - 1)).map d64 := by rw [List.drop_zero, List.map_take]
      have ltl : (l.take (lh d - 1)).length = lh d - 1 := by rw [List.length_take]; omega
      by_cases h2 : lh d = 1
      · have c1 := f225_at J (l := []) (es := []) (n := hv (l.take (lh d - 1))) rfl (by simp) (Dg.nil _) (by rw [h2]; rfl)
        have hT : (((l.map d64).take (lh d - 1)).drop 0).isEmpty = true := by rw [lt]; exact isT (by rw [h2]; rfl)
        repeat (first | (refine W.R (by kernel_rfl) ?_; conv => whnf) | (refine ⟨lh d - 1, by omega, ?_⟩; conv => whnf) | (refine ⟨true, hT, ?_⟩; conv => whnf) | (refine ⟨_, c1, ?_⟩; conv => whnf) | (refine ⟨rfl, _, w64 (by omega), ?_⟩; conv => whnf) | (refine ⟨_, rfl, ?_⟩; conv => whnf) | (refine ⟨by omega, by omega, by omega, .inr (by simp), .inl rfl, ?_⟩; conv => whnf))
        exact ⟨(), Wk.tab [] ⟨⟨rfl, rfl⟩, ⟨rfl, rfl⟩, ⟨rfl, rfl⟩, ⟨rfl, rfl⟩, trivial⟩ trivial rfl⟩
      · have hF : (((l.map d64).take (lh d - 1)).drop 0).isEmpty = false := by rw [lt]; exact isE (by intro e; rw [e] at ltl; simp at ltl; omega)
        have hlen : (((l.map d64).take (lh d - 1)).drop 0).length = lh d - 1 := by rw [lt, List.length_map, ltl]
        repeat (first | (refine W.R (by kernel_rfl) ?_; conv => whnf) | (refine ⟨lh d - 1, by omega, ?_⟩; conv => whnf) | (refine ⟨false, hF, ?_⟩; conv => whnf) | (refine ⟨all64d, by show (((l.map d64).take (lh d - 1)).drop 0).length * 8 ≤ 140737488355328; omega, by show (((l.map d64).take (lh d - 1)).drop 0).length ≤ maxLen; unfold maxLen; omega, ?_⟩; conv => whnf) | (refine ⟨_, f225_at J (l := l.take (lh d - 1)) (n := hv (l.take (lh d - 1))) (by rw [List.take_of_length_le (by simp)]; simp [List.map_take]) (by omega) (hdt _) rfl, ?_⟩; conv => whnf) | (refine ⟨rfl, _, w64 (by omega), ?_⟩; conv => whnf) | (refine ⟨_, rfl, ?_⟩; conv => whnf) | (refine ⟨by omega, by omega, by omega, .inr (by simp), .inl rfl, ?_⟩; conv => whnf))
        exact ⟨(), Wk.tab [] ⟨⟨rfl, rfl⟩, ⟨rfl, rfl⟩, ⟨rfl, rfl⟩, ⟨rfl, rfl⟩, trivial⟩ trivial rfl⟩
    rintro ⟨⟩
    repeat (first | (refine W.RS (by kernel_rfl) ?_; conv => whnf) | (refine W.S ?_) | (refine W.block ?_) | (refine ⟨rfl, _, w64 (by omega), ?_⟩; conv => whnf) | (refine ⟨_, rfl, ?_⟩; conv => whnf))
    refine W.loop (G := { p : Nat × List Nat // lh d - 1 ≤ p.1 ∧ p.1 ≤ l.length ∧ hv p.2 = hv (l.take p.1) / d ∧ Dg B15 p.2.reverse ∧ p.2.length = p.1 - (lh d - 1) }) (fun p => ovInv l m (hv (l.take p.1.1) % d) p.1.1 p.1.2) (fun p => l.length - p.1.1)
      ⟨(lh d - 1, []), Nat.le_refl _, by dsimp only; omega, by dsimp only; rw [Nat.div_eq_of_lt hu0]; rfl, Dg.nil _, by dsimp only; rw [Nat.sub_self]; rfl⟩
      (Wk.tab [] ⟨⟨rfl, rfl⟩, ⟨rfl, rfl⟩, ⟨rfl, rfl⟩, ⟨?_, rfl⟩, ⟨ivEq (by dsimp only; omega), rfl⟩, trivial⟩ trivial rfl) ?_
    · show SV.iv (.sl _) = SV.iv (.sl _)
      rw [Nat.mod_eq_of_lt hu0]
    rintro ⟨⟨i, Q⟩, hi1, hi2, hQ, hQd, hQl⟩
    dsimp only at hi1 hi2 hQ hQd hQl
    obtain ⟨u, hu⟩ : ∃ u, hv (l.take i) % d = u := ⟨_, rfl⟩
    have hud : u < d := by rw [← hu]; exact Nat.mod_lt _ hd
    have hlu : lh u ≤ lh d := lh_mono (Nat.le_of_lt hud)
    have lu : ((dh u).map d64).length = lh u := by simp [lh]
    show W J _ _ (ovInv l m (hv (l.take i) % d) i Q) _
    rw [hu]
    by_cases h3 : i < l.length
    · have hx : l.getD i 0 < 32768 := by
        have := hol.getD (by decide) (l.length - 1 - i)
        rw [List.getD_eq_getElem?_getD, List.getElem?_reverse (by omega), show l.length - 1 - (l.length - 1 - i) = i by omega, ← List.getD_eq_getElem?_getD] at this
        exact this
      obtain ⟨x, hxe⟩ : ∃ x, l.getD i 0 = x := ⟨_, rfl⟩
      have htk := take_hv h3
      rw [hxe] at hx htk
      obtain ⟨s1, s2⟩ := ov_step (x := x) hd hQ.symm hu
      have hnr : u * 32768 + x < 32768 * d := by
        have : (u + 1) * 32768 ≤ d * 32768 := Nat.mul_le_mul_right _ hud
        omega
      have hkd : (u * 32768 + x) / d < 32768 := by rw [Nat.div_lt_iff_lt_mul hd]; exact hnr
      have c2 : C J 226 [.sl ((dh (u * 32768 + x)).map d64), .sl (m.map d64)] (.tup [.int .i64 ((u * 32768 + x) / d : Nat), .sl ((dh ((u * 32768 + x) % d)).map d64)]) := by
        rw [hm]; exact f226_ok J hd hnr hld
      obtain ⟨k, hk⟩ : ∃ k, (u * 32768 + x) / d = k := ⟨_, rfl⟩
      obtain ⟨u2, hu2⟩ : ∃ k, (u * 32768 + x) % d = k := ⟨_, rfl⟩
      rw [hk, hu2] at c2
      rw [hk] at s1 hkd
      rw [hu2] at s2
      have hgt : (l.map d64)[i]? = some (d64 x) := by rw [getd h3, hxe]
      have hdg2 : Dg B15 (dh u ++ [x]).reverse := by
        rw [List.reverse_append]
        exact (Dg.single hx).append (dh_ok u).dg
      have hlen2 : (dh u ++ [x]).length < 2 ^ 60 := by
        have : (dh u).length = lh u := rfl
        rw [List.length_append, List.length_singleton]; omega
      have hv2 : hv (dh u ++ [x]) = u * 32768 + x := by rw [hv_snoc, dh_hv]
      have hQ2 : hv (Q ++ [k]) = hv (l.take (i + 1)) / d := by rw [hv_snoc, htk]; exact s1.symm
      have hQd2 : Dg B15 (Q ++ [k]).reverse := by rw [List.reverse_append]; exact (Dg.single hkd).append hQd
      have hQl2 : (Q ++ [k]).length = i + 1 - (lh d - 1) := by rw [List.length_append, List.length_singleton]; omega
      have hu3 : hv (l.take (i + 1)) % d = u2 := by rw [htk]; exact s2
      cases Q with
      | nil =>
        show W J _ _ (mkA [(0, .iv (.sl (l.map d64))), (1, .iv (.sl (m.map d64))), (6, .nilS), (7, .iv (.sl ((dh u).map d64))), (8, .iv (.int .i64 (i : Nat)))] [] 60) _
        by_cases h0 : u = 0
        · repeat (first | (refine W.RS (by kernel_rfl) ?_; conv => whnf) | (refine W.R (by kernel_rfl) ?_; conv => whnf) | (refine W.S ?_) | (refine W.block ?_) | (refine W.skip ?_; conv => whnf) | (refine W.condT rfl ?_) | (refine ⟨true, isT (by rw [h0, dh_zero]), ?_⟩; conv => whnf) | (refine ⟨i, _, rfl, hgt, rfl, ?_⟩; conv => whnf) | (refine ⟨_, f225_at J (l := dh u ++ [x]) (n := u * 32768 + x) (by rw [h0, dh_zero]; rfl) hlen2 hdg2 hv2, ?_⟩; conv => whnf) | (refine ⟨_, c2, ?_⟩; conv => whnf) | (refine ⟨rfl, _, w64 (by omega), ?_⟩; conv => whnf) | (refine ⟨one32, Nat.le_of_ble_eq_true rfl, Nat.le_of_ble_eq_true rfl, ?_⟩; conv => whnf) | (refine ⟨true, decide_eq_true (by omega), ?_⟩; conv => whnf) | (refine ⟨_, rfl, ?_⟩; conv => whnf) | (refine ⟨rfl, ?_⟩; conv => whnf))
          exact ⟨⟨(i + 1, [k]), by dsimp only; omega, by dsimp only; omega, hQ2, hQd2, hQl2⟩, by
            show Wk _ (ovInv l m (hv (l.take (i + 1)) % d) (i + 1) ([k]))
            rw [hu3]
            exact Wk.tab [(1, 86)] ⟨⟨rfl, rfl⟩, ⟨rfl, rfl⟩, ⟨refE (by simp), rfl⟩, ⟨rfl, rfl⟩, ⟨rfl, rfl⟩, trivial⟩ ⟨arr3L (by simp; rfl), trivial⟩ rfl, by dsimp only; omega⟩
        · repeat (first | (refine W.RS (by kernel_rfl) ?_; conv => whnf) | (refine W.R (by kernel_rfl) ?_; conv => whnf) | (refine W.S ?_) | (refine W.block ?_) | (refine W.skip ?_; conv => whnf) | (refine W.condT rfl ?_) | (refine ⟨false, isE (fun e => h0 (dh_nil e)), ?_⟩; conv => whnf) | (refine ⟨all64c, by show ((dh u).map d64).length * 8 ≤ 140737488355328; omega, by show ((dh u).map d64).length ≤ maxLen; unfold maxLen; omega, ?_⟩; conv => whnf) | (refine ⟨nin1 rfl, rfl, rfl, rfl, one32, by show (((dh u).map d64).length + 1) * 8 ≤ 140737488355328; omega, by show ((dh u).map d64).length + 1 ≤ maxLen; unfold maxLen; omega, ?_⟩; conv => whnf) | (refine ⟨i, _, rfl, hgt, rfl, ?_⟩; conv => whnf) | (refine ⟨_, f225_at J (l := dh u ++ [x]) (n := u * 32768 + x) (by rw [List.drop_zero, List.take_of_length_le (by simp), List.map_append]; rfl) hlen2 hdg2 hv2, ?_⟩; conv => whnf) | (refine ⟨_, c2, ?_⟩; conv => whnf) | (refine ⟨rfl, _, w64 (by omega), ?_⟩; conv => whnf) | (refine ⟨one32, Nat.le_of_ble_eq_true rfl, Nat.le_of_ble_eq_true rfl, ?_⟩; conv => whnf) | (refine ⟨true, decide_eq_true (by omega), ?_⟩; conv => whnf) | (refine ⟨_, rfl, ?_⟩; conv => whnf) | (refine ⟨rfl, ?_⟩; conv => whnf))
          exact ⟨⟨(i + 1, [k]), by dsimp only; omega, by dsimp only; omega, hQ2, hQd2, hQl2⟩, by
            show Wk _ (ovInv l m (hv (l.take (i + 1)) % d) (i + 1) ([k]))
            rw [hu3]
            exact Wk.tab [(1, 86)] ⟨⟨rfl, rfl⟩, ⟨rfl, rfl⟩, ⟨refE (by simp), rfl⟩, ⟨rfl, rfl⟩, ⟨rfl, rfl⟩, trivial⟩ ⟨arr3L (by simp; rfl), trivial⟩ rfl, by dsimp only; omega⟩
      | cons z Q =>
        show W J _ _ (mkA [(0, .iv (.sl (l.map d64))), (1, .iv (.sl (m.map d64))), (6, .ref 1 0 (z :: Q).length true), (7, .iv (.sl ((dh u).map d64))), (8, .iv (.int .i64 (i : Nat)))] [(1, .arr 3 1 ((z :: Q).map d64) false)] 60) _
        by_cases h0 : u = 0
        · repeat (first | (refine W.RS (by kernel_rfl) ?_; conv => whnf) | (refine W.R (by kernel_rfl) ?_; conv => whnf) | (refine W.S ?_) | (refine W.block ?_) | (refine W.skip ?_; conv => whnf) | (refine W.condT rfl ?_) | (refine ⟨true, isT (by rw [h0, dh_zero]), ?_⟩; conv => whnf) | (refine ⟨i, _, rfl, hgt, rfl, ?_⟩; conv => whnf) | (refine ⟨_, f225_at J (l := dh u ++ [x]) (n := u * 32768 + x) (by rw [h0, dh_zero]; rfl) hlen2 hdg2 hv2, ?_⟩; conv => whnf) | (refine ⟨_, c2, ?_⟩; conv => whnf) | (refine ⟨nin1 rfl, rfl, rfl, by simp, one32, by show ((z :: Q).length + 1) * 8 ≤ 140737488355328; omega, by show (z :: Q).length + 1 ≤ maxLen; unfold maxLen; omega, ?_⟩; conv => whnf) | (refine ⟨rfl, _, w64 (by omega), ?_⟩; conv => whnf) | (refine ⟨one32, Nat.le_of_ble_eq_true rfl, Nat.le_of_ble_eq_true rfl, ?_⟩; conv => whnf) | (refine ⟨true, decide_eq_true (by omega), ?_⟩; conv => whnf) | (refine ⟨_, rfl, ?_⟩; conv => whnf) | (refine ⟨rfl, ?_⟩; conv => whnf))
          exact ⟨⟨(i + 1, z :: Q ++ [k]), by dsimp only; omega, by dsimp only; omega, hQ2, hQd2, hQl2⟩, by
            show Wk _ (ovInv l m (hv (l.take (i + 1)) % d) (i + 1) (z :: Q ++ [k]))
            rw [hu3]
            exact Wk.tab [(1, 86)] ⟨⟨rfl, rfl⟩, ⟨rfl, rfl⟩, ⟨refE (by simp), rfl⟩, ⟨rfl, rfl⟩, ⟨rfl, rfl⟩, trivial⟩ ⟨arr3L (by simp; rfl), trivial⟩ rfl, by dsimp only; omega⟩
        · repeat (first | (refine W.RS (by kernel_rfl) ?_; conv => whnf) | (refine W.R (by kernel_rfl) ?_; conv => whnf) | (refine W.S ?_) | (refine W.block ?_) | (refine W.skip ?_; conv => whnf) | (refine W.condT rfl ?_) | (refine ⟨false, isE (fun e => h0 (dh_nil e)), ?_⟩; conv => whnf) | (refine ⟨all64c, by show ((dh u).map d64).length * 8 ≤ 140737488355328; omega, by show ((dh u).map d64).length ≤ maxLen; unfold maxLen; omega, ?_⟩; conv => whnf) | (refine ⟨nin1 rfl, rfl, rfl, rfl, one32, by show (((dh u).map d64).length + 1) * 8 ≤ 140737488355328; omega, by show ((dh u).map d64).length + 1 ≤ maxLen; unfold maxLen; omega, ?_⟩; conv => whnf) | (refine ⟨i, _, rfl, hgt, rfl, ?_⟩; conv => whnf) | (refine ⟨_, f225_at J (l := dh u ++ [x]) (n := u * 32768 + x) (by rw [List.drop_zero, List.take_of_length_le (by simp), List.map_append]; rfl) hlen2 hdg2 hv2, ?_⟩; conv => whnf) | (refine ⟨_, c2, ?_⟩; conv => whnf) | (refine ⟨nin1 rfl, rfl, rfl, by simp, one32, by show ((z :: Q).length + 1) * 8 ≤ 140737488355328; omega, by show (z :: Q).length + 1 ≤ maxLen; unfold maxLen; omega, ?_⟩; conv => whnf) | (refine ⟨rfl, _, w64 (by omega), ?_⟩; conv => whnf) | (refine ⟨true, decide_eq_true (by omega), ?_⟩; conv => whnf) | (refine ⟨_, rfl, ?_⟩; conv => whnf) | (refine ⟨rfl, ?_⟩; conv => whnf))
          exact ⟨⟨(i + 1, z :: Q ++ [k]), by dsimp only; omega, by dsimp only; omega, hQ2, hQd2, hQl2⟩, by
            show Wk _ (ovInv l m (hv (l.take (i + 1)) % d) (i + 1) (z :: Q ++ [k]))
            rw [hu3]
            exact Wk.tab [(1, 86)] ⟨⟨rfl, rfl⟩, ⟨rfl, rfl⟩, ⟨refE (by simp), rfl⟩, ⟨rfl, rfl⟩, ⟨rfl, rfl⟩, trivial⟩ ⟨arr3L (by simp; rfl), trivial⟩ rfl, by dsimp only; omega⟩
    · have hil : i = l.length := by omega
      have e1 : hv Q = a / d := by rw [hQ, hil, List.take_length, hvl]
      have e2 : u = a % d := by rw [← hu, hil, List.take_length, hvl]
      cases Q with
      | nil =>
        show W J _ _ (mkA [(0, .iv (.sl (l.map d64))), (1, .iv (.sl (m.map d64))), (6, .nilS), (7, .iv (.sl ((dh u).map d64))), (8, .iv (.int .i64 (i : Nat)))] [] 60) _
        repeat (first | (refine W.RS (by kernel_rfl) ?_; conv => whnf) | (refine W.S ?_) | (refine W.ret ?_; conv => whnf) | (refine W.exit ?_; conv => whnf) | (refine W.condF rfl ?_) | (refine ⟨_, f225_at J (l := []) (n := a / d) rfl (by simp) (Dg.nil _) e1, ?_⟩; conv => whnf) | (refine ⟨false, decide_eq_false (by omega), ?_⟩; conv => whnf) | (refine ⟨_, rfl, ?_⟩; conv => whnf) | (refine ⟨rfl, ?_⟩; conv => whnf))
        rw [e2]; rfl
      | cons z Q =>
        show W J _ _ (mkA [(0, .iv (.sl (l.map d64))), (1, .iv (.sl (m.map d64))), (6, .ref 1 0 (z :: Q).length true), (7, .iv (.sl ((dh u).map d64))), (8, .iv (.int .i64 (i : Nat)))] [(1, .arr 3 1 ((z :: Q).map d64) false)] 60) _
        repeat (first | (refine W.RS (by kernel_rfl) ?_; conv => whnf) | (refine W.S ?_) | (refine W.ret ?_; conv => whnf) | (refine W.exit ?_; conv => whnf) | (refine W.condF rfl ?_) | (refine ⟨_, f225_at J (l := z :: Q) (n := a / d) (by rw [List.drop_zero, List.take_of_length_le (by simp)]) (by omega) hQd e1, ?_⟩; conv => whnf) | (refine ⟨false, decide_eq_false (by omega), ?_⟩; conv => whnf) | (refine ⟨_, rfl, ?_⟩; conv => whnf) | (refine ⟨rfl, ?_⟩; conv => whnf))
        rw [e2]; rfl
end Go.Proofs.Fl
namespace Go.Proofs.Fl
open Go.RowKit Go.Proofs.Dig
attribute [local irreducible] IntKind.wrap PureC MutC MakC IterC
theorem ediv_neg' {n d q r : Nat} (hd : 0 < d) (h : n = d * q + r) (hr : r < d) (h0 : r ≠ 0) : (-(n : Int)) / (d : Int) = -(q : Int) - 1 ∧ (-(n : Int)) % (d : Int) = (d : Int) - (r : Int) := by
  refine (Int.ediv_emod_unique (by omega)).2 ⟨?_, by omega, by omega⟩
  rw [h, Int.natCast_add, Int.natCast_mul, Int.mul_sub, Int.mul_neg, Int.mul_one]; omega
theorem ediv_neg0 {n d q : Nat} (hd : 0 < d) (h : n = d * q) : (-(n : Int)) / (d : Int) = -(q : Int) ∧ (-(n : Int)) % (d : Int) = 0 := by
  refine (Int.ediv_emod_unique (by omega)).2 ⟨?_, by omega, by omega⟩
  rw [h, Int.natCast_mul, Int.mul_neg]; omega
theorem tup2 {a b c d : IV} (h : a = c) (h' : b = d) : IV.tup [a, b] = IV.tup [c, d] := by rw [h, h']
theorem lh_div (a d : Nat) : lh (a / d) ≤ lh a := lh_mono (Nat.div_le_self _ _)
theorem f166_ok (J : Keep) {x : Int} {d : Nat} (hd : 0 < d) (hx : lh x.natAbs < 2 ^ 37) (hl : lh d < 2 ^ 37) : C J 166 [zh x, zh (d : Int)] (.tup [zh (x / (d : Int)), zh (x % (d : Int))]) := by
  have c1 := f196_ok J (a := x.natAbs) hd (by omega)
  have l1 := lh_div x.natAbs d
  have hdm := Nat.div_add_mod x.natAbs d
  have hml := Nat.mod_lt x.natAbs hd
  have l2 : lh (x.natAbs % d) ≤ lh d := lh_mono (Nat.le_of_lt hml)
  obtain ⟨q, hq⟩ : ∃ q, x.natAbs / d = q := ⟨_, rfl⟩
  obtain ⟨r, hr⟩ : ∃ q, x.natAbs % d = q := ⟨_, rfl⟩
  rw [hq, hr] at c1 hdm
  rw [hq] at l1
  rw [hr] at hml l2
  have sx := sign3 x
  have ex := Int.sign_mul_natAbs x
  have c3 := f193_dh J (n := r) (s := 1) (.inl rfl) (by omega)
  rw [Int.one_mul] at c3
  refine fn_ok Tryz.func166 rfl rfl rfl ?_
  rcases Int.lt_trichotomy x 0 with h | h | h
  · have hs : x.sign = -1 := Int.sign_eq_neg_one_of_neg h
    have c2 := f193_dh J (n := q) (s := x.sign) (by omega) (by omega)
    have e2 : x.sign * (q : Int) = -(q : Int) := by rw [hs]; omega
    rw [e2] at c2
    have hxn : x = -(x.natAbs : Int) := by omega
    by_cases h0 : r = 0
    · have hsr : (r : Int).sign = 0 := by rw [h0]; rfl
      obtain ⟨f1, f2⟩ := ediv_neg0 (n := x.natAbs) (q := q) hd (by omega)
      rw [← hxn] at f1 f2
      repeat (first | (refine W.RS (by kernel_rfl) ?_; conv => whnf) | (refine W.S ?_) | (refine W.ret ?_; conv => whnf) | (refine W.skip ?_; conv => whnf) | (refine W.condF rfl ?_) | (refine ⟨_, c1, ?_⟩; conv => whnf) | (refine ⟨_, c2, ?_⟩; conv => whnf) | (refine ⟨_, c3, ?_⟩; conv => whnf) | (refine ⟨true, decide_eq_true (by omega), ?_⟩; conv => whnf) | (refine ⟨false, bne_eq_false_iff_eq.2 (by omega), ?_⟩; conv => whnf) | (refine ⟨rfl, ?_⟩; conv => whnf) | (refine ⟨_, fun _ => rfl, fun h => absurd h.symm Bool.false_ne_true, ?_⟩; conv => whnf))
      rw [f1, f2]
      exact tup2 rfl (by rw [h0]; rfl)
    · have hsr : (r : Int).sign = 1 := Int.sign_eq_one_of_pos (by omega)
      obtain ⟨f1, f2⟩ := ediv_neg' (n := x.natAbs) (q := q) (r := r) hd hdm.symm hml h0
      rw [← hxn] at f1 f2
      have c4 := f139_ok J (z := 1) (by omega) (by omega)
      have hl1 : lh 1 ≤ 1 := lh_le (by decide)
      have c5 := f194_ok J (x := -(q : Int)) (y := 1) (by rw [Int.natAbs_neg, Int.natAbs_natCast]; omega) (by show lh 1 < _; omega)
      have c6 := f194_ok J (x := (d : Int)) (y := (r : Int)) (by rw [Int.natAbs_natCast]; omega) (by rw [Int.natAbs_natCast]; omega)
      repeat (first | (refine W.RS (by kernel_rfl) ?_; conv => whnf) | (refine W.S ?_) | (refine W.ret ?_; conv => whnf) | (refine W.condT rfl ?_) | (refine ⟨_, c1, ?_⟩; conv => whnf) | (refine ⟨_, c2, ?_⟩; conv => whnf) | (refine ⟨_, c3, ?_⟩; conv => whnf) | (refine ⟨_, c4, ?_⟩; conv => whnf) | (refine ⟨_, c5, ?_⟩; conv => whnf) | (refine ⟨_, c6, ?_⟩; conv => whnf) | (refine ⟨true, decide_eq_true (by omega), ?_⟩; conv => whnf) | (refine ⟨true, bne_iff_ne.2 (by omega), ?_⟩; conv => whnf) | (refine ⟨rfl, ?_⟩; conv => whnf) | (refine ⟨_, fun _ => rfl, fun h => absurd h.symm Bool.false_ne_true, ?_⟩; conv => whnf))
      rw [f1, f2]
      exact tup2 rfl rfl
  · have c2 := f193_dh J (n := q) (s := x.sign) (.inr (.inr (by rw [← hq, h]; simp))) (by omega)
    have hs : x.sign = 0 := by rw [h]; rfl
    have hq0 : q = 0 := by rw [← hq, h]; simp
    have hr0 : r = 0 := by rw [← hr, h]; simp
    have hsr : (r : Int).sign = 0 := by rw [hr0]; rfl
    repeat (first | (refine W.RS (by kernel_rfl) ?_; conv => whnf) | (refine W.S ?_) | (refine W.ret ?_; conv => whnf) | (refine W.skip ?_; conv => whnf) | (refine W.condF rfl ?_) | (refine ⟨_, c1, ?_⟩; conv => whnf) | (refine ⟨_, c2, ?_⟩; conv => whnf) | (refine ⟨_, c3, ?_⟩; conv => whnf) | (refine ⟨false, decide_eq_false (by omega), ?_⟩; conv => whnf) | (refine ⟨rfl, ?_⟩; conv => whnf) | (refine ⟨_, fun h => absurd h Bool.false_ne_true, fun _ => rfl, ?_⟩; conv => whnf))
    exact tup2 (zhE (by rw [h, hq0]; simp)) (zhE (by rw [h, hr0]; simp))
  · have hs : x.sign = 1 := Int.sign_eq_one_of_pos h
    have c2 := f193_dh J (n := q) (s := x.sign) (by omega) (by omega)
    have hxn : x = (x.natAbs : Int) := by omega
    have f1 : x / (d : Int) = (q : Int) := by rw [hxn, ← hq]; rfl
    have f2 : x % (d : Int) = (r : Int) := by rw [hxn, ← hr]; rfl
    repeat (first | (refine W.RS (by kernel_rfl) ?_; conv => whnf) | (refine W.S ?_) | (refine W.ret ?_; conv => whnf) | (refine W.skip ?_; conv => whnf) | (refine W.condF rfl ?_) | (refine ⟨_, c1, ?_⟩; conv => whnf) | (refine ⟨_, c2, ?_⟩; conv => whnf) | (refine ⟨_, c3, ?_⟩; conv => whnf) | (refine ⟨false, decide_eq_false (by omega), ?_⟩; conv => whnf) | (refine ⟨rfl, ?_⟩; conv => whnf) | (refine ⟨_, fun h => absurd h Bool.false_ne_true, fun _ => rfl, ?_⟩; conv => whnf))
    exact tup2 (zhE (by rw [f1, hs, Int.one_mul])) (zhE f2.symm)
theorem f145_ok (J : Keep) {l : List Nat} (hd : Dg B15 l.reverse) (hl : l.length ≤ 4) : C J 145 [.sl (l.map d64)] (.int .i64 (hv l : Nat)) := by
  refine fn_ok Tryz.func145 rfl rfl rfl ?_
  have la : (l.map d64).length = l.length := by simp
  have hdt : ∀ i, Dg B15 (l.take i).reverse := fun i => by
    intro x hx
    exact hd x (by simp only [List.mem_reverse] at hx ⊢; exact List.mem_of_mem_take hx)
  repeat (first | (refine W.RS (by kernel_rfl) ?_; conv => whnf) | (refine W.S ?_) | (refine W.block ?_))
  refine W.loop (G := { i : Nat // i ≤ l.length }) (fun i => mkA [(0, .iv (.sl (l.map d64))), (3, .iv (.int .i64 (hv (l.take i.1) : Nat))), (4, .iv (.int .i64 (i.1 : Nat)))] [] 20) (fun i => l.length - i.1) ⟨0, Nat.zero_le _⟩
    (Wk.tab [] ⟨⟨rfl, rfl⟩, ⟨rfl, rfl⟩, ⟨rfl, rfl⟩, trivial⟩ trivial rfl) ?_
  rintro ⟨i, hi⟩
  show W J _ _ (mkA [(0, .iv (.sl (l.map d64))), (3, .iv (.int .i64 (hv (l.take i) : Nat))), (4, .iv (.int .i64 (i : Nat)))] [] 20) _
  by_cases h : i < l.length
  · have htk := take_hv h
    have hb := hv_lt (l.take (i + 1)) (hdt _)
    have hb2 : B15 ^ (l.take (i + 1)).length ≤ B15 ^ 4 := Nat.pow_le_pow_right (by decide) (by rw [List.length_take]; omega)
    have hb3 : B15 ^ 4 = 1152921504606846976 := by decide
    repeat (first | (refine W.RS (by kernel_rfl) ?_; conv => whnf) | (refine W.R (by kernel_rfl) ?_; conv => whnf) | (refine W.S ?_) | (refine W.block ?_) | (refine W.skip ?_; conv => whnf) | (refine W.condT rfl ?_) | (refine ⟨i, _, rfl, getd h, rfl, ?_⟩; conv => whnf) | (refine ⟨rfl, _, w64 (by omega), ?_⟩; conv => whnf) | (refine ⟨true, decide_eq_true (by omega), ?_⟩; conv => whnf) | (refine ⟨_, rfl, ?_⟩; conv => whnf) | (refine ⟨rfl, ?_⟩; conv => whnf))
    exact ⟨⟨i + 1, by omega⟩, Wk.tab [] ⟨⟨rfl, rfl⟩, ⟨ivEq (by dsimp only; omega), rfl⟩, ⟨rfl, rfl⟩, trivial⟩ trivial rfl, by dsimp only; omega⟩
  · have e : i = l.length := by omega
    subst e
    repeat (first | (refine W.RS (by kernel_rfl) ?_; conv => whnf) | (refine W.S ?_) | (refine W.ret ?_; conv => whnf) | (refine W.exit ?_; conv => whnf) | (refine W.condF rfl ?_) | (refine ⟨false, decide_eq_false (by omega), ?_⟩; conv => whnf) | (refine ⟨_, rfl, ?_⟩; conv => whnf) | (refine ⟨rfl, ?_⟩; conv => whnf))
    rw [List.take_length]; rfl
theorem f145_dh (J : Keep) {n : Nat} (h : lh n ≤ 4) : C J 145 [.sl ((dh n).map d64)] (.int .i64 (n : Nat)) := by
  have := f145_ok J (l := dh n) (dh_ok n).dg h
  rwa [dh_hv] at this
theorem lh_four {n : Nat} (h : lh n ≤ 4) : n < 1152921504606846976 := by
  have h1 := lt_lh n
  have h2 : B15 ^ lh n ≤ B15 ^ 4 := Nat.pow_le_pow_right (by decide) h
  have h3 : B15 ^ 4 = 1152921504606846976 := by decide
  omega
theorem f195_ok (J : Keep) {x y : Int} (hx : lh x.natAbs < 2 ^ 37) (hy : lh y.natAbs < 2 ^ 37) : C J 195 [zh x, zh y] (zh (Nat.gcd x.natAbs y.natAbs : Nat)) := by
  refine fn_ok Tryz.func195 rfl rfl rfl ?_
  repeat (first | (refine W.RS (by kernel_rfl) ?_; conv => whnf) | (refine W.S ?_) | (refine W.block ?_) | (refine ⟨rfl, ?_⟩; conv => whnf))
  refine W.loop (G := { p : Nat × Nat // Nat.gcd p.1 p.2 = Nat.gcd x.natAbs y.natAbs ∧ lh p.1 < 2 ^ 37 ∧ lh p.2 < 2 ^ 37 }) (fun p => mkA [(4, .ptr 2 0), (5, .iv (.sl ((dh p.1.1).map d64))), (6, .iv (.sl ((dh p.1.2).map d64)))] [(2, .var (.agg [.int .i64 0, .sl []]))] 20) (fun p => p.1.2)
    ⟨(x.natAbs, y.natAbs), rfl, hx, hy⟩ (Wk.tab [] ⟨⟨rfl, rfl⟩, ⟨rfl, rfl⟩, ⟨rfl, rfl⟩, trivial⟩ ⟨rfl, trivial⟩ rfl) ?_
  rintro ⟨⟨u, v⟩, hg, hu, hv'⟩
  dsimp only at hg hu hv'
  show W J _ _ (mkA [(4, .ptr 2 0), (5, .iv (.sl ((dh u).map d64))), (6, .iv (.sl ((dh v).map d64)))] [(2, .var (.agg [.int .i64 0, .sl []]))] 20) _
  have lu : ((dh u).map d64).length = lh u := by simp [lh]
  have lv : ((dh v).map d64).length = lh v := by simp [lh]
  by_cases h0 : v = 0
  · have hl0 : lh v = 0 := by rw [h0]; unfold lh; rw [dh_zero]; rfl
    have c1 := f193_dh J (n := u) (s := 1) (.inl rfl) (by omega)
    rw [Int.one_mul] at c1
    repeat (first | (refine W.RS (by kernel_rfl) ?_; conv => whnf) | (refine W.S ?_) | (refine W.ret ?_; conv => whnf) | (refine W.exit ?_; conv => whnf) | (refine W.condF rfl ?_) | (refine ⟨_, c1, ?_⟩; conv => whnf) | (refine ⟨false, decide_eq_false (by omega), ?_⟩; conv => whnf) | (refine ⟨_, rfl, ?_⟩; conv => whnf) | (refine ⟨rfl, ?_⟩; conv => whnf))
    rw [← hg, h0, Nat.gcd_zero_right]; rfl
  · have hlp := lh_pos (n := v) (by omega)
    have hym : u % v < v := Nat.mod_lt _ (by omega)
    have hgn : Nat.gcd v (u % v) = Nat.gcd x.natAbs y.natAbs := by rw [← hg, Nat.gcd_comm u v, Nat.gcd_rec v u, Nat.gcd_comm]
    have hlm : lh (u % v) < 2 ^ 37 := Nat.lt_of_le_of_lt (lh_mono (Nat.le_of_lt hym)) hv'
    have hbig := f196_ok J (a := u) (d := v) (by omega) (by omega)
    by_cases h1 : lh u ≤ 4
    · by_cases h2 : lh v ≤ 4
      · have b1 := lh_four h1
        have b2 := lh_four h2
        repeat (first | (refine W.RS (by kernel_rfl) ?_; conv => whnf) | (refine W.S ?_) | (refine W.block ?_) | (refine W.skip ?_; conv => whnf) | (refine W.condT rfl ?_) | (refine ⟨_, f145_dh J h1, ?_⟩; conv => whnf) | (refine ⟨_, f145_dh J h2, ?_⟩; conv => whnf) | (refine ⟨true, decide_eq_true (by omega), ?_⟩; conv => whnf) | (refine ⟨_, rfl, ?_⟩; conv => whnf) | (refine ⟨rfl, ?_⟩; conv => whnf) | (refine ⟨_, fun _ => rfl, fun h => absurd h.symm Bool.false_ne_true, ?_⟩; conv => whnf))
        refine W.loop (G := { p : Nat × Nat // Nat.gcd p.1 p.2 = Nat.gcd x.natAbs y.natAbs ∧ p.1 < 1152921504606846976 ∧ p.2 < 1152921504606846976 }) (fun p => mkA [(4, .ptr 2 0), (7, .iv (.int .i64 (p.1.1 : Nat))), (8, .iv (.int .i64 (p.1.2 : Nat)))] [(2, .var (.agg [.int .i64 0, .sl []]))] 20) (fun p => p.1.2)
          ⟨(u, v), hg, b1, b2⟩ (Wk.tab [] ⟨⟨rfl, rfl⟩, ⟨rfl, rfl⟩, ⟨rfl, rfl⟩, trivial⟩ ⟨rfl, trivial⟩ rfl) ?_
        rintro ⟨⟨n, m⟩, hg2, hn, hm⟩
        dsimp only at hg2 hn hm
        show W J _ _ (mkA [(4, .ptr 2 0), (7, .iv (.int .i64 (n : Nat))), (8, .iv (.int .i64 (m : Nat)))] [(2, .var (.agg [.int .i64 0, .sl []]))] 20) _
        by_cases h3 : m = 0
        · subst h3
          repeat (first | (refine W.RS (by kernel_rfl) ?_; conv => whnf) | (refine W.S ?_) | (refine W.ret ?_; conv => whnf) | (refine W.exit ?_; conv => whnf) | (refine W.condF rfl ?_) | (refine ⟨_, f139_ok J (z := (n : Int)) (by omega) (by omega), ?_⟩; conv => whnf) | (refine ⟨false, bne_eq_false_iff_eq.2 (by omega), ?_⟩; conv => whnf) | (refine ⟨rfl, ?_⟩; conv => whnf))
          rw [← hg2, Nat.gcd_zero_right]; rfl
        · have hvm : n % m < m := Nat.mod_lt _ (by omega)
          have hm2 := tmodN n m
          obtain ⟨r, hr⟩ : ∃ r, n % m = r := ⟨_, rfl⟩
          rw [hr] at hm2 hvm
          repeat (first | (refine W.RS (by kernel_rfl) ?_; conv => whnf) | (refine W.R (by kernel_rfl) ?_; conv => whnf) | (refine W.S ?_) | (refine W.block ?_) | (refine W.skip ?_; conv => whnf) | (refine W.condT rfl ?_) | (refine ⟨by omega, _, hm2, ?_⟩; conv => whnf) | (refine ⟨true, bne_iff_ne.2 (by omega), ?_⟩; conv => whnf) | (refine ⟨rfl, ?_⟩; conv => whnf))
          exact ⟨⟨(m, r), by rw [← hg2, ← hr, Nat.gcd_comm n m, Nat.gcd_rec m n, Nat.gcd_comm], hm, by dsimp only; omega⟩, Wk.tab [] ⟨⟨rfl, rfl⟩, ⟨rfl, rfl⟩, ⟨rfl, rfl⟩, trivial⟩ ⟨rfl, trivial⟩ rfl, hvm⟩
      · repeat (first | (refine W.RS (by kernel_rfl) ?_; conv => whnf) | (refine W.R (by kernel_rfl) ?_; conv => whnf) | (refine W.S ?_) | (refine W.block ?_) | (refine W.skip ?_; conv => whnf) | (refine W.condF rfl ?_) | (refine W.condT rfl ?_) | (refine ⟨_, hbig, ?_⟩; conv => whnf) | (refine ⟨true, decide_eq_true (by omega), ?_⟩; conv => whnf) | (refine ⟨false, decide_eq_false (by omega), ?_⟩; conv => whnf) | (refine ⟨_, rfl, ?_⟩; conv => whnf) | (refine ⟨rfl, ?_⟩; conv => whnf) | (refine ⟨_, fun _ => rfl, fun h => absurd h.symm Bool.false_ne_true, ?_⟩; conv => whnf))
        exact ⟨⟨(v, u % v), hgn, hv', hlm⟩, Wk.tab [] ⟨⟨rfl, rfl⟩, ⟨rfl, rfl⟩, ⟨rfl, rfl⟩, trivial⟩ ⟨rfl, trivial⟩ rfl, hym⟩
    · repeat (first | (refine W.RS (by kernel_rfl) ?_; conv => whnf) | (refine W.R (by kernel_rfl) ?_; conv => whnf) | (refine W.S ?_) | (refine W.block ?_) | (refine W.skip ?_; conv => whnf) | (refine W.condF rfl ?_) | (refine W.condT rfl ?_) | (refine ⟨_, hbig, ?_⟩; conv => whnf) | (refine ⟨true, decide_eq_true (by omega), ?_⟩; conv => whnf) | (refine ⟨false, decide_eq_false (by omega), ?_⟩; conv => whnf) | (refine ⟨_, rfl, ?_⟩; conv => whnf) | (refine ⟨rfl, ?_⟩; conv => whnf) | (refine ⟨_, fun h => absurd h Bool.false_ne_true, fun _ => rfl, ?_⟩; conv => whnf))
      exact ⟨⟨(v, u % v), hgn, hv', hlm⟩, Wk.tab [] ⟨⟨rfl, rfl⟩, ⟨rfl, rfl⟩, ⟨rfl, rfl⟩, trivial⟩ ⟨rfl, trivial⟩ rfl, hym⟩
end Go.Proofs.Fl
namespace Go.Proofs.Dig
def dig8 (k : Nat) : UInt8 := UInt8.ofNat (48 + k)
theorem dig8_toNat {k : Nat} (h : k < 10) : (dig8 k).toNat = 48 + k := by
  unfold dig8; rw [UInt8.toNat_ofNat']; omega
theorem dig8_inj {j k : Nat} (hj : j < 10) (hk : k < 10) (h : dig8 j = dig8 k) : j = k := by
  have := congrArg UInt8.toNat h
  rw [dig8_toNat hj, dig8_toNat hk] at this; omega
def padW : Nat → Nat → List UInt8
  | 0, _ => []
  | w + 1, n => padW w (n / 10) ++ [dig8 (n % 10)]
theorem padW_length : ∀ w n, (padW w n).length = w
  | 0, _ => rfl
  | w + 1, n => by simp [padW, padW_length w]
theorem padW_zero : ∀ w, padW w 0 = List.replicate w 48
  | 0 => rfl
  | w + 1 => by rw [padW, Nat.zero_div, padW_zero w, List.replicate_succ']; rfl
theorem padW_split : ∀ b a n, padW (a + b) n = padW a (n / 10 ^ b) ++ padW b n
  | 0, a, n => by simp [padW]
  | b + 1, a, n => by
    show padW (a + b) (n / 10) ++ [dig8 (n % 10)] = padW a (n / 10 ^ (b + 1)) ++ (padW b (n / 10) ++ [dig8 (n % 10)])
    rw [padW_split b a (n / 10), Nat.div_div_eq_div_mul, Nat.pow_succ, Nat.mul_comm 10, List.append_assoc]
theorem padW_mod : ∀ w n, padW w (n % 10 ^ w) = padW w n
  | 0, _ => rfl
  | w + 1, n => by
    show padW w (n % 10 ^ (w + 1) / 10) ++ [dig8 (n % 10 ^ (w + 1) % 10)] = padW w (n / 10) ++ [dig8 (n % 10)]
    have e1 : n % 10 ^ (w + 1) / 10 = (n / 10) % 10 ^ w := by
      rw [Nat.pow_succ, Nat.mul_comm, Nat.mod_mul_right_div_self]
    have e2 : n % 10 ^ (w + 1) % 10 = n % 10 := by
      rw [Nat.pow_succ]; exact Nat.mod_mul_left_mod _ _ _
    rw [e1, e2, padW_mod w]
def decN (n : Nat) : List UInt8 := if n < 10 then [dig8 n] else decN (n / 10) ++ [dig8 (n % 10)]
theorem decN_small {n : Nat} (h : n < 10) : decN n = [dig8 n] := by rw [decN, if_pos h]
theorem decN_big {n : Nat} (h : 10 ≤ n) : decN n = decN (n / 10) ++ [dig8 (n % 10)] := by rw [decN, if_neg (by omega)]
theorem decN_ne (n : Nat) : decN n ≠ [] := by
  rw [decN]; split <;> simp
theorem decN_digits (n : Nat) : ∀ c ∈ decN n, 48 ≤ c.toNat ∧ c.toNat ≤ 57 := by
  induction n using Nat.strongRecOn with
  | _ n ih =>
    intro c hc
    by_cases h : n < 10
    · rw [decN_small h] at hc
      simp at hc; subst hc
      rw [dig8_toNat h]; omega
    · rw [decN_big (by omega)] at hc
      rcases List.mem_append.1 hc with hc | hc
      · exact ih (n / 10) (by omega) c hc
      · simp at hc; subst hc
        rw [dig8_toNat (by omega)]; omega
theorem padW_dec : ∀ w n, 0 < n → n < 10 ^ w → (padW w n).dropWhile (· == 48) = decN n
  | 0, n, h, h' => by simp at h'; omega
  | w + 1, n, h, h' => by
    have hd : ∀ (l : List UInt8) (x : UInt8), l.dropWhile (· == 48) ≠ [] → (l ++ [x]).dropWhile (· == 48) = l.dropWhile (· == 48) ++ [x] := by
      intro l x hl
      induction l with
      | nil => exact absurd rfl hl
      | cons y l ih =>
        rw [List.cons_append, List.dropWhile_cons, List.dropWhile_cons]
        rw [List.dropWhile_cons] at hl
        split
        · rename_i hy; rw [if_pos hy] at hl; exact ih hl
        · rfl
    by_cases hs : n < 10
    · have e : n / 10 = 0 := by omega
      have em : n % 10 = n := by omega
      rw [decN_small hs, padW, e, em, padW_zero]
      have hz : ∀ w, (List.replicate w (48 : UInt8) ++ [dig8 n]).dropWhile (· == 48) = [dig8 n] := by
        intro w
        induction w with
        | zero =>
          have : (dig8 n == 48) = false := by
            rw [beq_eq_false_iff_ne]
            intro e
            have := dig8_inj hs (show 0 < 10 by omega) e
            omega
          simp [this]
        | succ w ih => rw [List.replicate_succ, List.cons_append, List.dropWhile_cons_of_pos rfl]; exact ih
      exact hz w
    · have ih := padW_dec w (n / 10) (by omega) (by rw [Nat.pow_succ] at h'; omega)
      rw [decN_big (by omega), padW, hd _ _ (by rw [ih]; exact decN_ne _), ih]
theorem decN_split {q r : Nat} (b : Nat) (hq : 0 < q) (hr : r < 10 ^ b) : decN (q * 10 ^ b + r) = decN q ++ padW b r := by
  induction b generalizing r with
  | zero => simp at hr; subst hr; simp [padW]
  | succ b ih =>
    have h1 : 10 ≤ q * 10 ^ (b + 1) + r := by
      have : 1 * 10 ^ (b + 1) ≤ q * 10 ^ (b + 1) := Nat.mul_le_mul_right _ hq
      have h2 : 10 ≤ 10 ^ (b + 1) := by
        have : 10 ^ 1 ≤ 10 ^ (b + 1) := Nat.pow_le_pow_right (by decide) (by omega)
        omega
      omega
    have e1 : (q * 10 ^ (b + 1) + r) / 10 = q * 10 ^ b + r / 10 := by
      rw [Nat.pow_succ, ← Nat.mul_assoc]; omega
    have e2 : (q * 10 ^ (b + 1) + r) % 10 = r % 10 := by
      rw [Nat.pow_succ, ← Nat.mul_assoc]; omega
    rw [decN_big h1, e1, e2, ih (by rw [Nat.pow_succ] at hr; omega), padW, List.append_assoc]
def dv (s : List UInt8) : Nat := s.foldl (fun a c => a * 10 + (c.toNat - 48)) 0
theorem dv_snoc (s : List UInt8) (c : UInt8) : dv (s ++ [c]) = dv s * 10 + (c.toNat - 48) := by simp [dv]
theorem dv_decN (n : Nat) : dv (decN n) = n := by
  induction n using Nat.strongRecOn with
  | _ n ih =>
    by_cases h : n < 10
    · rw [decN_small h]
      show 0 * 10 + ((dig8 n).toNat - 48) = n
      rw [dig8_toNat h]; omega
    · rw [decN_big (by omega), dv_snoc, ih (n / 10) (by omega), dig8_toNat (by omega)]; omega
theorem decN_inj {n m : Nat} (h : decN n = decN m) : n = m := by rw [← dv_decN n, ← dv_decN m, h]
theorem dv_lt {s : List UInt8} (h : ∀ c ∈ s, 48 ≤ c.toNat ∧ c.toNat ≤ 57) : dv s < 10 ^ s.length := by
  induction hn : s.length generalizing s with
  | zero => have := List.eq_nil_of_length_eq_zero hn; subst this; simp [dv]
  | succ n ih =>
    have hne : s ≠ [] := fun e => by rw [e] at hn; cases hn
    obtain ⟨a, c, rfl⟩ : ∃ b d, s = b ++ [d] := ⟨s.dropLast, s.getLast hne, (List.dropLast_concat_getLast hne).symm⟩
    have h1 := ih (s := a) (fun d hd => h d (by simp [hd])) (by simpa using hn)
    have h2 := h c (by simp)
    rw [dv_snoc, Nat.pow_succ]; omega
end Go.Proofs.Dig
namespace Go.Proofs.Fl
open Go.RowKit Go.Proofs.Dig
attribute [local irreducible] IntKind.wrap PureC MutC MakC IterC
theorem varZ {x y : Int} (h : x = y) : some (Bx.var (zh x)) = some (Bx.var (zh y)) := by rw [h]
theorem lh_one : lh 1 ≤ 1 := lh_le (by decide)
theorem lh_pow (a k : Nat) : lh (a ^ k) ≤ k * lh a + 1 := by
  induction k with
  | zero => rw [Nat.pow_zero]; have := lh_one; omega
  | succ k ih =>
    rw [Nat.pow_succ]
    have := lh_mul (a ^ k) a
    rw [Nat.add_mul]; omega
theorem f165_ok (J : Keep) {x : Int} {n : Nat} (hn : n < 2 ^ 20) (hx : (n + 1) * lh x.natAbs < 2 ^ 39) : C J 165 [zh x, .int .i64 n] (zh (x ^ n)) := by
  refine fn_ok Tryz.func165 rfl rfl rfl ?_
  repeat (first | (refine W.RS (by kernel_rfl) ?_; conv => whnf) | (refine W.S ?_) | (refine W.block ?_) | (refine ⟨_, f139_ok J (z := 1) (by omega) (by omega), ?_⟩; conv => whnf))
  refine W.loop (G := { k : Nat // k ≤ n }) (fun k => mkA [(1, .iv (.int .i64 (n : Nat))), (2, .ptr 0 0), (4, .ptr 1 0), (5, .ptr 2 0), (6, .iv (.int .i64 (k.1 : Nat)))] [(0, .var (zh x)), (1, .var (.agg [.int .i64 0, .sl []])), (2, .var (zh (x ^ k.1)))] 20) (fun k => n - k.1) ⟨0, Nat.zero_le _⟩
    (Wk.tab [(2, 3)] ⟨⟨rfl, rfl⟩, ⟨rfl, rfl⟩, ⟨rfl, rfl⟩, ⟨rfl, rfl⟩, ⟨rfl, rfl⟩, trivial⟩ ⟨rfl, rfl, varZ (by simp), trivial⟩ rfl) ?_
  rintro ⟨k, hk⟩
  show W J _ _ (mkA [(1, .iv (.int .i64 (n : Nat))), (2, .ptr 0 0), (4, .ptr 1 0), (5, .ptr 2 0), (6, .iv (.int .i64 (k : Nat)))] [(0, .var (zh x)), (1, .var (.agg [.int .i64 0, .sl []])), (2, .var (zh (x ^ k)))] 20) _
  by_cases h : k < n
  · have l1 := lh_pow x.natAbs k
    have l2 : k * lh x.natAbs ≤ (n + 1) * lh x.natAbs := Nat.mul_le_mul_right _ (by omega)
    have l3 : 1 * lh x.natAbs ≤ (n + 1) * lh x.natAbs := Nat.mul_le_mul_right _ (by omega)
    have c1 := f146_ok J (x := x ^ k) (y := x) (by rw [Int.natAbs_pow]; omega) (by omega)
    rw [← Int.pow_succ] at c1
    repeat (first | (refine W.RS (by kernel_rfl) ?_; conv => whnf) | (refine W.R (by kernel_rfl) ?_; conv => whnf) | (refine W.S ?_) | (refine W.block ?_) | (refine W.skip ?_; conv => whnf) | (refine W.condT rfl ?_) | (refine ⟨_, c1, ?_⟩; conv => whnf) | (refine ⟨rfl, _, w64 (by omega), ?_⟩; conv => whnf) | (refine ⟨true, decide_eq_true (by omega), ?_⟩; conv => whnf) | (refine ⟨rfl, ?_⟩; conv => whnf))
    exact ⟨⟨k + 1, by omega⟩, Wk.tab [] ⟨⟨rfl, rfl⟩, ⟨rfl, rfl⟩, ⟨rfl, rfl⟩, ⟨rfl, rfl⟩, ⟨rfl, rfl⟩, trivial⟩ ⟨rfl, rfl, rfl, trivial⟩ rfl, by dsimp only; omega⟩
  · have e : k = n := by omega
    subst e
    repeat (first | (refine W.RS (by kernel_rfl) ?_; conv => whnf) | (refine W.S ?_) | (refine W.ret ?_; conv => whnf) | (refine W.exit ?_; conv => whnf) | (refine W.condF rfl ?_) | (refine ⟨false, decide_eq_false (by omega), ?_⟩; conv => whnf) | (refine ⟨rfl, ?_⟩; conv => whnf))
    rfl
end Go.Proofs.Fl
namespace Go.Proofs.Fl
open Go.RowKit Go.Proofs.Dig
attribute [local irreducible] IntKind.wrap PureC MutC MakC IterC
def ztext (z : Int) : List UInt8 := (if z < 0 then [45] else []) ++ decN z.natAbs
theorem dh_10000 : (dh 10000).map d64 = [.int .i64 10000] := by
  rw [← dh_of (l := [10000]) (n := 10000) ⟨by intro d hd; simp at hd; subst hd; decide, by intro d hd; simp at hd; omega⟩ rfl]
  rfl
theorem digs_at {k : Nat} (h : k < 10) : (List.take (k + 1) [48, 49, 50, 51, 52, 53, 54, 55, 56, 57]).drop k = [dig8 k] := by
  have : ∀ k : Fin 10, (List.take (k.1 + 1) [48, 49, 50, 51, 52, 53, 54, 55, 56, 57]).drop k.1 = [dig8 k.1] := by decide
  exact this ⟨k, h⟩
theorem strE {a b : List UInt8} (h : a = b) : SV.iv (.str a) = SV.iv (.str b) := by rw [h]
theorem zt_steps {N t : Nat} (h : 0 < N / 10 ^ (4 * t)) : t ≤ 2 * lh N := by
  have h1 : 10 ^ (4 * t) ≤ N := by
    apply Classical.byContradiction
    intro hc
    rw [Nat.div_eq_of_lt (by omega)] at h
    omega
  have h2 := lt_lh N
  have h3 : B15 ^ lh N ≤ 10 ^ (8 * lh N) := by
    rw [Nat.pow_mul]; exact Nat.pow_le_pow_left (by decide) _
  apply Classical.byContradiction
  intro hc
  have h4 : 10 ^ (8 * lh N) ≤ 10 ^ (4 * t) := Nat.pow_le_pow_right (by decide) (by omega)
  omega
set_option maxHeartbeats 1000000 in
theorem f161_ok (J : Keep) {z : Int} (hz : lh z.natAbs < 2 ^ 36) : C J 161 [zh z] (.str (ztext z)) := by
  refine fn_ok Tryz.func161 rfl rfl rfl ?_
  have sz := sign3 z
  by_cases h0 : z.sign = 0
  · have e : z = 0 := Int.sign_eq_zero_iff_zero.1 h0
    repeat (first | (refine W.RS (by kernel_rfl) ?_; conv => whnf) | (refine W.S ?_) | (refine W.ret ?_; conv => whnf) | (refine W.condT rfl ?_) | (refine ⟨true, decide_eq_true (by omega), ?_⟩; conv => whnf) | (refine ⟨rfl, ?_⟩; conv => whnf))
    rw [e]
    show IV.str [48] = IV.str (ztext 0)
    unfold ztext
    rw [if_neg (by omega), List.nil_append, decN_small (by decide)]; rfl
  · have hz0 : z ≠ 0 := fun e => h0 (by rw [e]; rfl)
    obtain ⟨N, hN⟩ : ∃ N, z.natAbs = N := ⟨_, rfl⟩
    have hN0 : 0 < N := by omega
    rw [hN] at hz
    show W J _ _ ⟨argS [.agg [.int .i64 z.sign, .sl ((dh z.natAbs).map d64)]], fun _ => none, 0⟩ _
    rw [hN]
    repeat (first | (refine W.RS (by kernel_rfl) ?_; conv => whnf) | (refine W.S ?_) | (refine W.block ?_) | (refine W.skip ?_; conv => whnf) | (refine W.condF rfl ?_) | (refine ⟨false, decide_eq_false (by omega), ?_⟩; conv => whnf) | (refine ⟨rfl, ?_⟩; conv => whnf))
    refine W.loop (G := { t : Nat // t ≤ 2 * lh N + 1 }) (fun t => mkA [(1, .ptr 0 0), (3, .iv (.str (padW (4 * t.1) N))), (4, .iv (.sl ((dh (N / 10 ^ (4 * t.1))).map d64)))] [(0, .var (.agg [.int .i64 z.sign, .sl ((dh N).map d64)]))] 30) (fun t => N / 10 ^ (4 * t.1)) ⟨0, Nat.zero_le _⟩
      (Wk.tab [] ⟨⟨rfl, rfl⟩, ⟨rfl, rfl⟩, ⟨slEq (by dsimp only; rw [Nat.mul_zero, Nat.pow_zero, Nat.div_one]), rfl⟩, trivial⟩ ⟨rfl, trivial⟩ rfl) ?_
    rintro ⟨t, ht⟩
    show W J _ _ (mkA [(1, .ptr 0 0), (3, .iv (.str (padW (4 * t) N))), (4, .iv (.sl ((dh (N / 10 ^ (4 * t))).map d64)))] [(0, .var (.agg [.int .i64 z.sign, .sl ((dh N).map d64)]))] 30) _
    obtain ⟨v, hv'⟩ : ∃ v, N / 10 ^ (4 * t) = v := ⟨_, rfl⟩
    rw [hv']
    have lv : ((dh v).map d64).length = lh v := by simp [lh]
    have hlv : lh v ≤ lh N := by rw [← hv']; exact lh_div _ _
    by_cases hv0 : 0 < v
    · have hlp := lh_pos hv0
      have hts := zt_steps (N := N) (t := t) (by omega)
      have hl1 : lh 10000 ≤ 1 := lh_le (by decide)
      have c1 := f196_ok J (a := v) (d := 10000) (by decide) (by omega)
      rw [dh_10000] at c1
      have hr : v % 10000 < 10000 := Nat.mod_lt _ (by decide)
      have c2 := f145_dh J (n := v % 10000) (Nat.le_trans (lh_mono (Nat.le_of_lt hr)) (by omega))
      obtain ⟨r, hre⟩ : ∃ r, v % 10000 = r := ⟨_, rfl⟩
      rw [hre] at hr c1 c2
      repeat (first | (refine W.RS (by kernel_rfl) ?_; conv => whnf) | (refine W.S ?_) | (refine W.block ?_) | (refine W.skip ?_; conv => whnf) | (refine W.condT rfl ?_) | (refine ⟨_, c1, ?_⟩; conv => whnf) | (refine ⟨_, c2, ?_⟩; conv => whnf) | (refine ⟨true, decide_eq_true (by omega), ?_⟩; conv => whnf) | (refine ⟨_, rfl, ?_⟩; conv => whnf) | (refine ⟨rfl, ?_⟩; conv => whnf))
      refine W.loop (G := { i : Nat // i ≤ 4 }) (fun i => mkA [(1, .ptr 0 0), (3, .iv (.str (padW i.1 r ++ padW (4 * t) N))), (5, .iv (.sl ((dh (v / 10000)).map d64))), (7, .iv (.int .i64 (r / 10 ^ i.1 : Nat))), (8, .iv (.int .i64 (i.1 : Nat)))] [(0, .var (.agg [.int .i64 z.sign, .sl ((dh N).map d64)]))] 60) (fun i => 4 - i.1) ⟨0, by omega⟩
        (Wk.tab [] ⟨⟨rfl, rfl⟩, ⟨rfl, rfl⟩, ⟨rfl, rfl⟩, ⟨ivEq (by dsimp only; rw [Nat.pow_zero, Nat.div_one]), rfl⟩, ⟨rfl, rfl⟩, trivial⟩ ⟨rfl, trivial⟩ rfl) ?_
      rintro ⟨i, hi⟩
      show W J _ _ (mkA [(1, .ptr 0 0), (3, .iv (.str (padW i r ++ padW (4 * t) N))), (5, .iv (.sl ((dh (v / 10000)).map d64))), (7, .iv (.int .i64 (r / 10 ^ i : Nat))), (8, .iv (.int .i64 (i : Nat)))] [(0, .var (.agg [.int .i64 z.sign, .sl ((dh N).map d64)]))] 60) _
      by_cases hi4 : i < 4
      · obtain ⟨q, hq⟩ : ∃ q, r / 10 ^ i = q := ⟨_, rfl⟩
        have hqr : q ≤ r := by rw [← hq]; exact Nat.div_le_self _ _
        have hm : (q : Int).tmod 10 = ((q % 10 : Nat) : Int) := tmodN q 10
        have hq2 : IntKind.wrap .i64 ((q : Int).tdiv 10) = ((q / 10 : Nat) : Int) := by
          rw [show (10 : Int) = ((10 : Nat) : Int) from rfl, tdivN]; exact w64 (by omega)
        have hk : q % 10 < 10 := Nat.mod_lt _ (by decide)
        have hds := digs_at hk
        have hq3 : r / 10 ^ (i + 1) = q / 10 := by rw [Nat.pow_succ, ← Nat.div_div_eq_div_mul, hq]
        have hpw : padW (i + 1) r = [dig8 (q % 10)] ++ padW i r := by
          rw [Nat.add_comm i 1, padW_split, hq]; rfl
        have l1 := padW_length i r
        have l2 := padW_length (4 * t) N
        have hlen : (padW i r ++ padW (4 * t) N).length = i + 4 * t := by rw [List.length_append, l1, l2]
        obtain ⟨k, hke⟩ : ∃ k, q % 10 = k := ⟨_, rfl⟩
        rw [hke] at hm hk hds hpw
        rw [hq]
        repeat (first | (refine W.RS (by kernel_rfl) ?_; conv => whnf) | (refine W.R (by kernel_rfl) ?_; conv => whnf) | (refine W.S ?_) | (refine W.block ?_) | (refine W.skip ?_; conv => whnf) | (refine W.condT rfl ?_) | (refine ⟨by omega, _, hm, ?_⟩; conv => whnf) | (refine ⟨by omega, _, hq2, ?_⟩; conv => whnf) | (refine ⟨k + 1, by omega, ?_⟩; conv => whnf) | (refine ⟨k, rfl, ?_⟩; conv => whnf) | (refine ⟨by omega, by show k + 1 ≤ 10; omega, ?_⟩; conv => whnf) | (refine ⟨by show (List.drop k (List.take (k + 1) [48, 49, 50, 51, 52, 53, 54, 55, 56, 57])).length + (padW i r ++ padW (4 * t) N).length ≤ 9223372036854775807; rw [hds, hlen]; simp only [List.length_singleton]; omega, ?_⟩; conv => whnf) | (refine ⟨rfl, _, w64 (by omega), ?_⟩; conv => whnf) | (refine ⟨true, decide_eq_true (by omega), ?_⟩; conv => whnf) | (refine ⟨rfl, ?_⟩; conv => whnf))
        refine ⟨⟨i + 1, by omega⟩, Wk.tab [] ⟨⟨rfl, rfl⟩, ⟨strE ?_, rfl⟩, ⟨rfl, rfl⟩, ⟨ivEq ?_, rfl⟩, ⟨rfl, rfl⟩, trivial⟩ ⟨rfl, trivial⟩ rfl, by dsimp only; omega⟩
        · dsimp only
          rw [hpw, List.append_assoc, ← hds]
        · dsimp only
          rw [hq3]
      · have e4 : i = 4 := by omega
        subst e4
        repeat (first | (refine W.RS (by kernel_rfl) ?_; conv => whnf) | (refine W.R (by kernel_rfl) ?_; conv => whnf) | (refine W.S ?_) | (refine W.exit ?_; conv => whnf) | (refine W.condF rfl ?_) | (refine ⟨false, decide_eq_false (by omega), ?_⟩; conv => whnf) | (refine ⟨rfl, ?_⟩; conv => whnf))
        refine ⟨⟨t + 1, by omega⟩, Wk.tab [] ⟨⟨rfl, rfl⟩, ⟨strE ?_, rfl⟩, ⟨slEq ?_, rfl⟩, trivial⟩ ⟨rfl, trivial⟩ rfl, ?_⟩
        · dsimp only
          rw [show 4 * (t + 1) = 4 + 4 * t by omega, padW_split, hv', ← padW_mod 4 v, ← hre]
        · dsimp only
          rw [show 4 * (t + 1) = 4 * t + 4 by omega, Nat.pow_add, ← Nat.div_div_eq_div_mul, hv']
        · dsimp only
          rw [show 4 * (t + 1) = 4 * t + 4 by omega, Nat.pow_add, ← Nat.div_div_eq_div_mul, hv']
          show v / 10000 < v
          exact Nat.div_lt_self hv0 (by decide)
    · have hv1 : v = 0 := by omega
      have hlt : N < 10 ^ (4 * t) := by
        apply Classical.byContradiction
        intro hc
        have : 0 < N / 10 ^ (4 * t) := Nat.div_pos (by omega) (Nat.pow_pos (by decide))
        omega
      have hl0 : lh v = 0 := by rw [hv1]; unfold lh; rw [dh_zero]; rfl
      have hdw := padW_dec (4 * t) N hN0 hlt
      have hpl := padW_length (4 * t) N
      repeat (first | (refine W.RS (by kernel_rfl) ?_; conv => whnf) | (refine W.S ?_) | (refine W.block ?_) | (refine W.exit ?_; conv => whnf) | (refine W.condF rfl ?_) | (refine ⟨false, decide_eq_false (by omega), ?_⟩; conv => whnf) | (refine ⟨_, rfl, ?_⟩; conv => whnf) | (refine ⟨rfl, ?_⟩; conv => whnf))
      refine W.loop (G := { s : List UInt8 // s.dropWhile (· == 48) = decN N ∧ s.length ≤ 4 * t }) (fun s => mkA [(1, .ptr 0 0), (3, .iv (.str s.1))] [(0, .var (.agg [.int .i64 z.sign, .sl ((dh N).map d64)]))] 60) (fun s => s.1.length) ⟨padW (4 * t) N, hdw, by rw [hpl]; exact Nat.le_refl _⟩
        (Wk.tab [] ⟨⟨rfl, rfl⟩, ⟨rfl, rfl⟩, trivial⟩ ⟨rfl, trivial⟩ rfl) ?_
      rintro ⟨s, hs, hsl⟩
      show W J _ _ (mkA [(1, .ptr 0 0), (3, .iv (.str s))] [(0, .var (.agg [.int .i64 z.sign, .sl ((dh N).map d64)]))] 60) _
      cases s with
      | nil => exact absurd hs.symm (decN_ne N)
      | cons c s =>
        by_cases hc : c = 48
        · subst hc
          repeat (first | (refine W.RS (by kernel_rfl) ?_; conv => whnf) | (refine W.R (by kernel_rfl) ?_; conv => whnf) | (refine W.S ?_) | (refine W.block ?_) | (refine W.skip ?_; conv => whnf) | (refine W.condT rfl ?_) | (refine ⟨0, 48, rfl, rfl, ?_⟩; conv => whnf) | (refine ⟨Nat.succ_le_succ (Nat.zero_le _), Nat.le_refl _, ?_⟩; conv => whnf) | (refine ⟨_, castA _, ?_⟩; conv => whnf) | (refine ⟨true, decide_eq_true (by omega), ?_⟩; conv => whnf) | (refine ⟨rfl, ?_⟩; conv => whnf))
          refine ⟨⟨s, by rw [← hs]; rfl, by simp at hsl; omega⟩, Wk.tab [] ⟨⟨rfl, rfl⟩, ⟨strE ?_, rfl⟩, trivial⟩ ⟨rfl, trivial⟩ rfl, ?_⟩
          · simp
          · simp
        · have hcn : c.toNat ≠ 48 := fun e => hc (UInt8.toNat_inj.1 e)
          have hse : c :: s = decN N := by
            rw [← hs, List.dropWhile_cons_of_neg]; simpa using hc
          have hct : (c.toNat : Int) ≠ 48 := by exact fun e => hcn (Int.ofNat.inj e)
          by_cases hneg : z.sign < 0
          · have hzn : z < 0 := Int.sign_eq_neg_one_iff_neg.1 (by omega)
            repeat (first | (refine W.RS (by kernel_rfl) ?_; conv => whnf) | (refine W.S ?_) | (refine W.ret ?_; conv => whnf) | (refine W.exit ?_; conv => whnf) | (refine W.condF rfl ?_) | (refine W.condT rfl ?_) | (refine ⟨0, c, rfl, rfl, ?_⟩; conv => whnf) | (refine ⟨by show 1 + (c :: s).length ≤ 9223372036854775807; omega, ?_⟩; conv => whnf) | (refine ⟨true, decide_eq_true (by omega), ?_⟩; conv => whnf) | (refine ⟨false, decide_eq_false (by omega), ?_⟩; conv => whnf) | (refine ⟨_, rfl, ?_⟩; conv => whnf) | (refine ⟨rfl, ?_⟩; conv => whnf))
            rw [hse]
            show IV.str ([45] ++ decN N) = _
            unfold ztext
            rw [if_pos hzn, hN]
          · have hzn : ¬ z < 0 := fun h => hneg (by rw [Int.sign_eq_neg_one_of_neg h]; omega)
            repeat (first | (refine W.RS (by kernel_rfl) ?_; conv => whnf) | (refine W.S ?_) | (refine W.ret ?_; conv => whnf) | (refine W.exit ?_; conv => whnf) | (refine W.skip ?_; conv => whnf) | (refine W.condF rfl ?_) | (refine ⟨0, c, rfl, rfl, ?_⟩; conv => whnf) | (refine ⟨false, decide_eq_false (by omega), ?_⟩; conv => whnf) | (refine ⟨_, rfl, ?_⟩; conv => whnf) | (refine ⟨rfl, ?_⟩; conv => whnf))
            rw [hse]
            unfold ztext
            rw [if_neg hzn, hN]
            rfl
end Go.Proofs.Fl
namespace Go.Proofs.Fl
open Go.RowKit Go.Proofs.Dig
attribute [local irreducible] IntKind.wrap PureC MutC MakC IterC
noncomputable abbrev rqd (q : Rat) (d1 d2 : IV) : IV := .agg [.int .i64 q.num.sign, .sl ((dh q.num.natAbs).map d64), d1, d2]
noncomputable abbrev rr (q : Rat) : IV := rqd q (.int .i64 1) (.sl ((dh q.den).map d64))
def DOk (q : Rat) (d1 d2 : IV) : Prop := (d1 = .int .i64 1 ∧ d2 = .sl ((dh q.den).map d64)) ∨ (d1 = .int .i64 0 ∧ d2 = .sl [] ∧ q = 0)
theorem DOk.rr (q : Rat) : DOk q (.int .i64 1) (.sl ((dh q.den).map d64)) := .inl ⟨rfl, rfl⟩
theorem DOk.zero : DOk 0 (.int .i64 0) (.sl []) := .inr ⟨rfl, rfl, rfl⟩
theorem rq_zero : rqd 0 (.int .i64 0) (.sl []) = .agg [.int .i64 0, .sl [], .int .i64 0, .sl []] := by
  show IV.agg [.int .i64 0, .sl ((dh 0).map d64), .int .i64 0, .sl []] = _
  rw [dh_zero]; rfl
noncomputable def rl (q : Rat) : Nat := lh q.num.natAbs + lh q.den
theorem f153_ok (J : Keep) {q : Rat} {d1 d2 : IV} (hd : DOk q d1 d2) : C J 153 [rqd q d1 d2] (zh (q.den : Int)) := by
  refine fn_ok Tryz.func153 rfl rfl rfl ?_
  rcases hd with ⟨rfl, rfl⟩ | ⟨rfl, rfl, rfl⟩
  · repeat (first | (refine W.RS (by kernel_rfl) ?_; conv => whnf) | (refine W.S ?_) | (refine W.ret ?_; conv => whnf) | (refine W.skip ?_; conv => whnf) | (refine W.condF rfl ?_) | (refine ⟨false, decide_eq_false (by omega), ?_⟩; conv => whnf) | (refine ⟨rfl, ?_⟩; conv => whnf))
    rw [zhpos (den_pos q)]; rfl
  · repeat (first | (refine W.RS (by kernel_rfl) ?_; conv => whnf) | (refine W.S ?_) | (refine W.ret ?_; conv => whnf) | (refine W.condT rfl ?_) | (refine ⟨_, f139_ok J (z := 1) (by omega) (by omega), ?_⟩; conv => whnf) | (refine ⟨true, decide_eq_true (by omega), ?_⟩; conv => whnf) | (refine ⟨rfl, ?_⟩; conv => whnf))
    rfl
theorem dh_single {g : Nat} (h0 : 0 < g) (h : g < 32768) : dh g = [g] := by
  symm
  refine dh_of ⟨by intro d hd; simp at hd; subst hd; exact h, by intro d hd; simp at hd; omega⟩ ?_
  simp [hv, nv]
theorem sv_sign {z : Int} {n g : Nat} (_h : n = z.natAbs / g) (h0 : z = 0 → n = 0) : z.sign * (n : Int) = sv (decide (z < 0)) n := by
  unfold sv
  rcases Int.lt_trichotomy z 0 with h1 | h1 | h1
  · rw [Int.sign_eq_neg_one_of_neg h1, decide_eq_true h1]; simp
  · rw [h0 h1]; simp
  · rw [Int.sign_eq_one_of_pos h1, decide_eq_false (by omega)]; simp
theorem ratio_pos (J : Keep) {z : Int} {d : Nat} (_hd : 0 < d) (hz : lh z.natAbs < 2 ^ 36) (hl : lh d < 2 ^ 36) : C J 195 [zh z, zh (d : Int)] (zh (Nat.gcd z.natAbs d : Nat)) := by
  have := f195_ok J (x := z) (y := (d : Int)) (by omega) (by rw [Int.natAbs_natCast]; omega)
  rwa [Int.natAbs_natCast] at this
theorem f148_at (J : Keep) {z : Int} {d : Nat} (hd : 0 < d) (hz : lh z.natAbs < 2 ^ 36) (hl : lh d < 2 ^ 36) {x y : IV} (c0 : (x = zh z ∧ y = zh (d : Int)) ∨ (x = zh (-z) ∧ y = zh (-(d : Int)))) : C J 148 [x, y] (rr (mkRat z d)) := by
  obtain ⟨g, hg⟩ : ∃ g, Nat.gcd z.natAbs d = g := ⟨_, rfl⟩
  have hg0 : 0 < g := by rw [← hg]; exact Nat.gcd_pos_of_pos_right _ hd
  have hgd : g ∣ d := by rw [← hg]; exact Nat.gcd_dvd_right _ _
  have hgn : g ≤ d := Nat.le_of_dvd hd hgd
  have hlg : lh g ≤ lh d := lh_mono hgn
  have hdg : 1 ≤ d / g := (Nat.one_le_div_iff hg0).2 hgn
  have c1 := ratio_pos J hd hz hl
  rw [hg] at c1
  have hnum := mkRat_num (z := z) hd
  have hden := mkRat_den (z := z) hd
  rw [hg] at hnum hden
  have l1 := lh_div z.natAbs g
  have l2 := lh_div d g
  have hsn := sv_sign (z := z) (n := z.natAbs / g) (g := g) rfl (fun h => by rw [h]; simp)
  have c2 := f196_ok J (a := z.natAbs) (d := g) hg0 (by omega)
  have c3 := f196_ok J (a := d) (d := g) hg0 (by omega)
  have c4 := f193_dh J (n := z.natAbs / g) (s := z.sign) (by
    have := sign3 z
    rcases Int.lt_trichotomy z 0 with h1 | h1 | h1
    · right; left; exact Int.sign_eq_neg_one_of_neg h1
    · right; right; rw [h1]; simp
    · left; exact Int.sign_eq_one_of_pos h1) (by omega)
  rw [hsn, ← hnum] at c4
  have c5 := f193_dh J (n := d / g) (s := 1) (.inl rfl) (by omega)
  rw [Int.one_mul, zhpos (n := d / g) (by omega)] at c5
  have n1 := f147_ok J (-z)
  have n2 := f147_ok J (-(d : Int))
  rw [Int.neg_neg] at n1 n2
  have hds : (d : Int).sign = 1 := Int.sign_eq_one_of_pos (by omega)
  have hds2 : (-(d : Int)).sign = -1 := Int.sign_eq_neg_one_of_neg (by omega)
  refine fn_ok Tryz.func148 rfl rfl rfl ?_
  rcases c0 with ⟨rfl, rfl⟩ | ⟨rfl, rfl⟩
  · refine W.RS (by kernel_rfl) ?_
    conv => whnf
    refine W.join (G := Unit) (fun _ => mkA [(2, .ptr 0 0), (3, .ptr 1 0), (4, .ptr 2 0)] [(0, .var (zh z)), (1, .var (zh (d : Int))), (2, .var (rqd 0 (.int .i64 0) (.sl [])))] 30) ?_ ?_
    · repeat (first | (refine W.RS (by kernel_rfl) ?_; conv => whnf) | (refine W.skip ?_; conv => whnf) | (refine W.condF rfl ?_) | (refine ⟨false, decide_eq_false (by omega), ?_⟩; conv => whnf) | (refine ⟨rfl, ?_⟩; conv => whnf))
      exact ⟨(), Wk.tab [] ⟨⟨rfl, rfl⟩, ⟨rfl, rfl⟩, ⟨rfl, rfl⟩, trivial⟩ ⟨rfl, rfl, by rw [rq_zero]; rfl, trivial⟩ rfl⟩
    · rintro ⟨⟩
      try dsimp only
      by_cases h1 : g = 1
      · have e1 : (dh g).map d64 = [.int .i64 1] := by rw [h1, dh_single (by decide) (by decide)]; rfl
        have e2 : zh (g : Int) = .agg [.int .i64 1, .sl [.int .i64 1]] := by rw [zhpos hg0, e1]
        rw [e2] at c1
        have z1 : (mkRat z d).num = z := by rw [hnum, h1, Nat.div_one, sv_neg]
        have d1 : (mkRat z d).den = d := by rw [hden, h1, Nat.div_one]
        repeat (first | (refine W.RS (by kernel_rfl) ?_; conv => whnf) | (refine W.S ?_) | (refine W.ret ?_; conv => whnf) | (refine W.condT rfl ?_) | (refine ⟨_, c1, ?_⟩; conv => whnf) | (refine ⟨0, _, rfl, rfl, rfl, ?_⟩; conv => whnf) | (refine ⟨_, castA _, ?_⟩; conv => whnf) | (refine ⟨true, decide_eq_true (by omega), ?_⟩; conv => whnf) | (refine ⟨_, rfl, ?_⟩; conv => whnf) | (refine ⟨rfl, ?_⟩; conv => whnf) | (refine ⟨_, fun _ => rfl, fun h => absurd h.symm Bool.false_ne_true, ?_⟩; conv => whnf))
        show IV.agg [.int .i64 z.sign, .sl ((dh z.natAbs).map d64), .int .i64 (d : Int).sign, .sl ((dh (d : Int).natAbs).map d64)] = _
        rw [rr, rqd, z1, d1, hds, Int.natAbs_natCast]
      · rw [zhpos hg0] at c1
        have hfin : IV.agg [.int .i64 (mkRat z d).num.sign, .sl ((dh (mkRat z d).num.natAbs).map d64), .int .i64 1, .sl ((dh (d / g)).map d64)] = rr (mkRat z d) := by
          rw [rr, rqd, hden]
        have lg : ((dh g).map d64).length = lh g := by simp [lh]
        by_cases h2 : lh g = 1
        · have hg2 : g < 32768 := by
            have := lt_lh g
            rw [h2, Nat.pow_one] at this
            exact this
          have e1 : (dh g).map d64 = [.int .i64 (g : Nat)] := by rw [dh_single hg0 hg2]; rfl
          rw [e1] at c1 c2 c3
          repeat (first | (refine W.RS (by kernel_rfl) ?_; conv => whnf) | (refine W.S ?_) | (refine W.ret ?_; conv => whnf) | (refine W.skip ?_; conv => whnf) | (refine W.condF rfl ?_) | (refine ⟨_, c1, ?_⟩; conv => whnf) | (refine ⟨_, c2, ?_⟩; conv => whnf) | (refine ⟨_, c3, ?_⟩; conv => whnf) | (refine ⟨_, c4, ?_⟩; conv => whnf) | (refine ⟨_, c5, ?_⟩; conv => whnf) | (refine ⟨0, _, rfl, rfl, rfl, ?_⟩; conv => whnf) | (refine ⟨_, castA _, ?_⟩; conv => whnf) | (refine ⟨false, decide_eq_false (by omega), ?_⟩; conv => whnf) | (refine ⟨_, rfl, ?_⟩; conv => whnf) | (refine ⟨rfl, ?_⟩; conv => whnf) | (refine ⟨_, fun _ => rfl, fun h => absurd h.symm Bool.false_ne_true, ?_⟩; conv => whnf))
          exact hfin
        · repeat (first | (refine W.RS (by kernel_rfl) ?_; conv => whnf) | (refine W.S ?_) | (refine W.ret ?_; conv => whnf) | (refine W.skip ?_; conv => whnf) | (refine W.condF rfl ?_) | (refine ⟨_, c1, ?_⟩; conv => whnf) | (refine ⟨_, c2, ?_⟩; conv => whnf) | (refine ⟨_, c3, ?_⟩; conv => whnf) | (refine ⟨_, c4, ?_⟩; conv => whnf) | (refine ⟨_, c5, ?_⟩; conv => whnf) | (refine ⟨false, decide_eq_false (by omega), ?_⟩; conv => whnf) | (refine ⟨_, rfl, ?_⟩; conv => whnf) | (refine ⟨rfl, ?_⟩; conv => whnf) | (refine ⟨_, fun h => absurd h Bool.false_ne_true, fun _ => rfl, ?_⟩; conv => whnf))
          exact hfin
  · refine W.RS (by kernel_rfl) ?_
    conv => whnf
    refine W.join (G := Unit) (fun _ => mkA [(2, .ptr 0 0), (3, .ptr 1 0), (4, .ptr 2 0)] [(0, .var (zh z)), (1, .var (zh (d : Int))), (2, .var (rqd 0 (.int .i64 0) (.sl [])))] 30) ?_ ?_
    · repeat (first | (refine W.RS (by kernel_rfl) ?_; conv => whnf) | (refine W.R (by kernel_rfl) ?_; conv => whnf) | (refine W.condT rfl ?_) | (refine ⟨_, n1, ?_⟩; conv => whnf) | (refine ⟨_, n2, ?_⟩; conv => whnf) | (refine ⟨true, decide_eq_true (by omega), ?_⟩; conv => whnf) | (refine ⟨rfl, ?_⟩; conv => whnf))
      exact ⟨(), Wk.tab [] ⟨⟨rfl, rfl⟩, ⟨rfl, rfl⟩, ⟨rfl, rfl⟩, trivial⟩ ⟨rfl, rfl, by rw [rq_zero]; rfl, trivial⟩ rfl⟩
    · rintro ⟨⟩
      try dsimp only
      by_cases h1 : g = 1
      · have e1 : (dh g).map d64 = [.int .i64 1] := by rw [h1, dh_single (by decide) (by decide)]; rfl
        have e2 : zh (g : Int) = .agg [.int .i64 1, .sl [.int .i64 1]] := by rw [zhpos hg0, e1]
        rw [e2] at c1
        have z1 : (mkRat z d).num = z := by rw [hnum, h1, Nat.div_one, sv_neg]
        have d1 : (mkRat z d).den = d := by rw [hden, h1, Nat.div_one]
        repeat (first | (refine W.RS (by kernel_rfl) ?_; conv => whnf) | (refine W.S ?_) | (refine W.ret ?_; conv => whnf) | (refine W.condT rfl ?_) | (refine ⟨_, c1, ?_⟩; conv => whnf) | (refine ⟨0, _, rfl, rfl, rfl, ?_⟩; conv => whnf) | (refine ⟨_, castA _, ?_⟩; conv => whnf) | (refine ⟨true, decide_eq_true (by omega), ?_⟩; conv => whnf) | (refine ⟨_, rfl, ?_⟩; conv => whnf) | (refine ⟨rfl, ?_⟩; conv => whnf) | (refine ⟨_, fun _ => rfl, fun h => absurd h.symm Bool.false_ne_true, ?_⟩; conv => whnf))
        show IV.agg [.int .i64 z.sign, .sl ((dh z.natAbs).map d64), .int .i64 (d : Int).sign, .sl ((dh (d : Int).natAbs).map d64)] = _
        rw [rr, rqd, z1, d1, hds, Int.natAbs_natCast]
      · rw [zhpos hg0] at c1
        have hfin : IV.agg [.int .i64 (mkRat z d).num.sign, .sl ((dh (mkRat z d).num.natAbs).map d64), .int .i64 1, .sl ((dh (d / g)).map d64)] = rr (mkRat z d) := by
          rw [rr, rqd, hden]
        have lg : ((dh g).map d64).length = lh g := by simp [lh]
        by_cases h2 : lh g = 1
        · have hg2 : g < 32768 := by
            have := lt_lh g
            rw [h2, Nat.pow_one] at this
            exact this
          have e1 : (dh g).map d64 = [.int .i64 (g : Nat)] := by rw [dh_single hg0 hg2]; rfl
          rw [e1] at c1 c2 c3
          repeat (first | (refine W.RS (by kernel_rfl) ?_; conv => whnf) | (refine W.S ?_) | (refine W.ret ?_; conv => whnf) | (refine W.skip ?_; conv => whnf) | (refine W.condF rfl ?_) | (refine ⟨_, c1, ?_⟩; conv => whnf) | (refine ⟨_, c2, ?_⟩; conv => whnf) | (refine ⟨_, c3, ?_⟩; conv => whnf) | (refine ⟨_, c4, ?_⟩; conv => whnf) | (refine ⟨_, c5, ?_⟩; conv => whnf) | (refine ⟨0, _, rfl, rfl, rfl, ?_⟩; conv => whnf) | (refine ⟨_, castA _, ?_⟩; conv => whnf) | (refine ⟨false, decide_eq_false (by omega), ?_⟩; conv => whnf) | (refine ⟨_, rfl, ?_⟩; conv => whnf) | (refine ⟨rfl, ?_⟩; conv => whnf) | (refine ⟨_, fun _ => rfl, fun h => absurd h.symm Bool.false_ne_true, ?_⟩; conv => whnf))
          exact hfin
        · repeat (first | (refine W.RS (by kernel_rfl) ?_; conv => whnf) | (refine W.S ?_) | (refine W.ret ?_; conv => whnf) | (refine W.skip ?_; conv => whnf) | (refine W.condF rfl ?_) | (refine ⟨_, c1, ?_⟩; conv => whnf) | (refine ⟨_, c2, ?_⟩; conv => whnf) | (refine ⟨_, c3, ?_⟩; conv => whnf) | (refine ⟨_, c4, ?_⟩; conv => whnf) | (refine ⟨_, c5, ?_⟩; conv => whnf) | (refine ⟨false, decide_eq_false (by omega), ?_⟩; conv => whnf) | (refine ⟨_, rfl, ?_⟩; conv => whnf) | (refine ⟨rfl, ?_⟩; conv => whnf) | (refine ⟨_, fun h => absurd h Bool.false_ne_true, fun _ => rfl, ?_⟩; conv => whnf))
          exact hfin
end Go.Proofs.Fl
namespace Go.Proofs.Fl
open Go.RowKit Go.Proofs.Dig
attribute [local irreducible] IntKind.wrap PureC MutC MakC IterC
theorem rl_ratio {z : Int} {d : Nat} (hd : 0 < d) : rl (mkRat z d) ≤ lh z.natAbs + lh d := by
  unfold rl
  rw [mkRat_num hd, mkRat_den hd]
  have h1 : (sv (decide (z < 0)) (z.natAbs / Nat.gcd z.natAbs d)).natAbs ≤ z.natAbs := by
    have h2 := Nat.div_le_self z.natAbs (Nat.gcd z.natAbs d)
    generalize z.natAbs / Nat.gcd z.natAbs d = t at h2 ⊢
    unfold sv
    split <;> omega
  have h2 := lh_mono h1
  have h3 := lh_mono (Nat.div_le_self d (Nat.gcd z.natAbs d))
  omega
theorem rl_mul (a b : Rat) : rl (a * b) ≤ rl a + rl b := by
  rw [Rat.mul_def']
  have h := rl_ratio (z := a.num * b.num) (d := a.den * b.den) (Nat.mul_pos (den_pos a) (den_pos b))
  have h1 := lh_mul a.num.natAbs b.num.natAbs
  have h2 := lh_mul a.den b.den
  rw [Int.natAbs_mul] at h
  unfold rl at *
  omega
theorem rl_add (a b : Rat) : rl (a + b) ≤ 2 * rl a + 2 * rl b + 1 := by
  rw [Rat.add_def']
  have h := rl_ratio (z := a.num * (b.den : Int) + b.num * (a.den : Int)) (d := a.den * b.den) (Nat.mul_pos (den_pos a) (den_pos b))
  have h1 := lh_mul a.num.natAbs b.den
  have h1' := lh_mul b.num.natAbs a.den
  have h2 := lh_mul a.den b.den
  have e1 : (a.num * (b.den : Int)).natAbs = a.num.natAbs * b.den := by rw [Int.natAbs_mul, Int.natAbs_natCast]
  have e1' : (b.num * (a.den : Int)).natAbs = b.num.natAbs * a.den := by rw [Int.natAbs_mul, Int.natAbs_natCast]
  have h3 := lh_add (a.num.natAbs * b.den) (b.num.natAbs * a.den)
  have h4 : (a.num * (b.den : Int) + b.num * (a.den : Int)).natAbs ≤ a.num.natAbs * b.den + b.num.natAbs * a.den := by
    rw [← e1, ← e1']; exact Int.natAbs_add_le _ _
  have h5 := lh_mono h4
  unfold rl at *
  omega
theorem rl_neg (q : Rat) : rl (-q) = rl q := by
  unfold rl
  rw [Rat.neg_num, Int.natAbs_neg, Rat.neg_den]
theorem rl_int (z : Int) : rl (z : Rat) ≤ lh z.natAbs + 1 := by
  show lh z.natAbs + lh 1 ≤ _
  have := lh_one
  omega
theorem lhi (n : Nat) : lh (n : Int).natAbs = lh n := by rw [Int.natAbs_natCast]
theorem f82_ok (J : Keep) (z : Int) : C J 82 [zh z] (rr (z : Rat)) := by
  refine fn_ok Tryz.func82 rfl rfl rfl ?_
  repeat (first | (refine W.RS (by kernel_rfl) ?_; conv => whnf) | (refine W.ret ?_; conv => whnf) | (refine ⟨_, f139_ok J (z := 1) (by omega) (by omega), ?_⟩; conv => whnf) | (refine ⟨rfl, ?_⟩; conv => whnf))
  show IV.agg [.int .i64 z.sign, .sl ((dh z.natAbs).map d64), .int .i64 (1 : Int).sign, .sl ((dh (1 : Int).natAbs).map d64)] = _
  rfl
theorem f62_ok (J : Keep) {z : Int} (h1 : -9223372036854775808 ≤ z) (h2 : z ≤ 9223372036854775807) : C J 62 [.int .i64 z] (rr (z : Rat)) := by
  refine fn_ok Tryz.func62 rfl rfl rfl ?_
  repeat (first | (refine W.RS (by kernel_rfl) ?_; conv => whnf) | (refine W.ret ?_; conv => whnf) | (refine ⟨_, f139_ok J h1 h2, ?_⟩; conv => whnf) | (refine ⟨_, f139_ok J (z := 1) (by omega) (by omega), ?_⟩; conv => whnf))
  show IV.agg [.int .i64 z.sign, .sl ((dh z.natAbs).map d64), .int .i64 (1 : Int).sign, .sl ((dh (1 : Int).natAbs).map d64)] = _
  rfl
theorem divInt_sgn {n d : Int} (hd : d ≠ 0) : mkRat (n * d.sign) d.natAbs = (n : Rat) / (d : Rat) := by
  rw [← Rat.divInt_eq_div]
  rcases Int.lt_trichotomy d 0 with h | h | h
  · obtain ⟨k, rfl⟩ : ∃ k : Nat, d = -((k : Nat) : Int) := ⟨d.natAbs, by omega⟩
    rw [Int.sign_eq_neg_one_of_neg h, Int.natAbs_neg, Int.natAbs_natCast, Rat.divInt_neg', Rat.divInt_ofNat, Int.mul_neg, Int.mul_one]
  · exact absurd h hd
  · obtain ⟨k, rfl⟩ : ∃ k : Nat, d = ((k : Nat) : Int) := ⟨d.natAbs, by omega⟩
    rw [Int.sign_eq_one_of_pos h, Int.natAbs_natCast, Int.mul_one, Rat.divInt_ofNat]
theorem f148_any (J : Keep) {n d : Int} (hd : d ≠ 0) (hz : lh n.natAbs < 2 ^ 36) (hl : lh d.natAbs < 2 ^ 36) : C J 148 [zh n, zh d] (rr ((n : Rat) / (d : Rat))) := by
  rw [← divInt_sgn hd]
  have hs : (n * d.sign).natAbs = n.natAbs := by
    rw [Int.natAbs_mul]
    rcases Int.lt_trichotomy d 0 with h | h | h
    · rw [Int.sign_eq_neg_one_of_neg h]; simp
    · exact absurd h hd
    · rw [Int.sign_eq_one_of_pos h]; simp
  refine f148_at J (z := n * d.sign) (d := d.natAbs) (by omega) (by rw [hs]; exact hz) hl ?_
  rcases Int.lt_trichotomy d 0 with h | h | h
  · right
    rw [Int.sign_eq_neg_one_of_neg h]
    exact ⟨by rw [Int.mul_neg, Int.mul_one, Int.neg_neg], zhE (by omega)⟩
  · exact absurd h hd
  · left
    rw [Int.sign_eq_one_of_pos h]
    exact ⟨by rw [Int.mul_one], zhE (by omega)⟩
theorem f29_ok (J : Keep) {n d : Int} (h1 : -9223372036854775808 ≤ n) (h2 : n ≤ 9223372036854775807) (h3 : -9223372036854775808 ≤ d) (h4 : d ≤ 9223372036854775807) (hd : d ≠ 0) : C J 29 [.int .i64 n, .int .i64 d] (rr ((n : Rat) / (d : Rat))) := by
  refine fn_ok Tryz.func29 rfl rfl rfl ?_
  have l : ∀ z : Int, -9223372036854775808 ≤ z → z ≤ 9223372036854775807 → lh z.natAbs ≤ 5 := fun z a b => lh_le (by
    have : B15 ^ 5 = 37778931862957161709568 := by decide
    omega)
  have l1 := l n h1 h2
  have l2 := l d h3 h4
  have c := f148_any J (n := n) hd (by omega) (by omega)
  repeat (first | (refine W.RS (by kernel_rfl) ?_; conv => whnf) | (refine W.ret ?_; conv => whnf) | (refine ⟨_, f139_ok J h1 h2, ?_⟩; conv => whnf) | (refine ⟨_, f139_ok J h3 h4, ?_⟩; conv => whnf) | (refine ⟨_, c, ?_⟩; conv => whnf))
  rfl
section
variable {a b : Rat} {d1 d2 e1 e2 : IV}
theorem f83_ok (J : Keep) : C J 83 [rqd a d1 d2] (zh a.num) := by
  refine fn_ok Tryz.func83 rfl rfl rfl ?_
  repeat (first | (refine W.RS (by kernel_rfl) ?_; conv => whnf) | (refine W.ret ?_; conv => whnf))
  rfl
theorem f85_ok (J : Keep) (hd : DOk a d1 d2) : C J 85 [rqd a d1 d2] (zh (a.den : Int)) := by
  refine fn_ok Tryz.func85 rfl rfl rfl ?_
  repeat (first | (refine W.RS (by kernel_rfl) ?_; conv => whnf) | (refine W.ret ?_; conv => whnf) | (refine ⟨_, f153_ok J hd, ?_⟩; conv => whnf))
  rfl
theorem f63_ok (J : Keep) (hd : DOk a d1 d2) (he : DOk b e1 e2) (ha : rl a < 2 ^ 34) (hb : rl b < 2 ^ 34) : C J 63 [rqd a d1 d2, rqd b e1 e2] (rr (a + b)) := by
  refine fn_ok Tryz.func63 rfl rfl rfl ?_
  unfold rl at ha hb
  have l1 := lh_mul a.num.natAbs b.den
  have l2 := lh_mul b.num.natAbs a.den
  have l3 := lh_mul a.den b.den
  have e1' : (a.num * (b.den : Int)).natAbs = a.num.natAbs * b.den := by rw [Int.natAbs_mul, Int.natAbs_natCast]
  have e2' : (b.num * (a.den : Int)).natAbs = b.num.natAbs * a.den := by rw [Int.natAbs_mul, Int.natAbs_natCast]
  have c1 := f146_ok J (x := a.num) (y := (b.den : Int)) (by omega) (by rw [lhi]; omega)
  have c2 := f146_ok J (x := b.num) (y := (a.den : Int)) (by omega) (by rw [lhi]; omega)
  have c3 := f146_ok J (x := (a.den : Int)) (y := (b.den : Int)) (by rw [lhi]; omega) (by rw [lhi]; omega)
  have c4 := f174_ok J (x := a.num * (b.den : Int)) (y := b.num * (a.den : Int)) (by rw [e1']; omega) (by rw [e2']; omega)
  have h3 := lh_add (a.num.natAbs * b.den) (b.num.natAbs * a.den)
  have h4 : (a.num * (b.den : Int) + b.num * (a.den : Int)).natAbs ≤ a.num.natAbs * b.den + b.num.natAbs * a.den := by
    rw [← e1', ← e2']; exact Int.natAbs_add_le _ _
  have h5 := lh_mono h4
  have c5 := f148_at J (z := a.num * (b.den : Int) + b.num * (a.den : Int)) (d := a.den * b.den) (Nat.mul_pos (den_pos a) (den_pos b)) (by omega) (by omega) (.inl ⟨rfl, rfl⟩)
  rw [← Rat.add_def', Int.natCast_mul] at c5
  repeat (first | (refine W.RS (by kernel_rfl) ?_; conv => whnf) | (refine W.ret ?_; conv => whnf) | (refine ⟨_, f153_ok J hd, ?_⟩; conv => whnf) | (refine ⟨_, f153_ok J he, ?_⟩; conv => whnf) | (refine ⟨_, c1, ?_⟩; conv => whnf) | (refine ⟨_, c2, ?_⟩; conv => whnf) | (refine ⟨_, c3, ?_⟩; conv => whnf) | (refine ⟨_, c4, ?_⟩; conv => whnf) | (refine ⟨_, c5, ?_⟩; conv => whnf) | (refine ⟨rfl, ?_⟩; conv => whnf))
  rfl
theorem f67_ok (J : Keep) (hd : DOk a d1 d2) : C J 67 [rqd a d1 d2] (rr (-a)) := by
  refine fn_ok Tryz.func67 rfl rfl rfl ?_
  repeat (first | (refine W.RS (by kernel_rfl) ?_; conv => whnf) | (refine W.ret ?_; conv => whnf) | (refine ⟨_, f147_ok J a.num, ?_⟩; conv => whnf) | (refine ⟨_, f153_ok J hd, ?_⟩; conv => whnf) | (refine ⟨rfl, ?_⟩; conv => whnf))
  show IV.agg [.int .i64 (-a.num).sign, .sl ((dh (-a.num).natAbs).map d64), .int .i64 (a.den : Int).sign, .sl ((dh (a.den : Int).natAbs).map d64)] = _
  rw [rr, rqd, Rat.neg_num, Rat.neg_den, Int.sign_eq_one_of_pos (a := (a.den : Int)) (by have := den_pos a; omega), Int.natAbs_natCast a.den]
theorem f64_ok (J : Keep) (hd : DOk a d1 d2) (he : DOk b e1 e2) (ha : rl a < 2 ^ 34) (hb : rl b < 2 ^ 34) : C J 64 [rqd a d1 d2, rqd b e1 e2] (rr (a - b)) := by
  refine fn_ok Tryz.func64 rfl rfl rfl ?_
  have c2 := f63_ok J (a := a) (b := -b) hd (DOk.rr _) ha (by rw [rl_neg]; exact hb)
  rw [← Rat.sub_eq_add_neg] at c2
  repeat (first | (refine W.RS (by kernel_rfl) ?_; conv => whnf) | (refine W.ret ?_; conv => whnf) | (refine ⟨_, f67_ok J he, ?_⟩; conv => whnf) | (refine ⟨_, c2, ?_⟩; conv => whnf) | (refine ⟨rfl, ?_⟩; conv => whnf))
  rfl
theorem f65_ok (J : Keep) (hd : DOk a d1 d2) (he : DOk b e1 e2) (ha : rl a < 2 ^ 34) (hb : rl b < 2 ^ 34) : C J 65 [rqd a d1 d2, rqd b e1 e2] (rr (a * b)) := by
  refine fn_ok Tryz.func65 rfl rfl rfl ?_
  unfold rl at ha hb
  have l1 := lh_mul a.num.natAbs b.num.natAbs
  have l3 := lh_mul a.den b.den
  have c1 := f146_ok J (x := a.num) (y := b.num) (by omega) (by omega)
  have c3 := f146_ok J (x := (a.den : Int)) (y := (b.den : Int)) (by rw [lhi]; omega) (by rw [lhi]; omega)
  have c5 := f148_at J (z := a.num * b.num) (d := a.den * b.den) (Nat.mul_pos (den_pos a) (den_pos b)) (by rw [Int.natAbs_mul]; omega) (by omega) (.inl ⟨rfl, rfl⟩)
  rw [← Rat.mul_def', Int.natCast_mul] at c5
  repeat (first | (refine W.RS (by kernel_rfl) ?_; conv => whnf) | (refine W.ret ?_; conv => whnf) | (refine ⟨_, f153_ok J hd, ?_⟩; conv => whnf) | (refine ⟨_, f153_ok J he, ?_⟩; conv => whnf) | (refine ⟨_, c1, ?_⟩; conv => whnf) | (refine ⟨_, c3, ?_⟩; conv => whnf) | (refine ⟨_, c5, ?_⟩; conv => whnf) | (refine ⟨rfl, ?_⟩; conv => whnf))
  rfl
theorem rat_div_int (a b : Rat) (hb : b ≠ 0) : ((a.num * (b.den : Int) : Int) : Rat) / (((a.den : Int) * b.num : Int) : Rat) = a / b := by
  have hn0 : b.num ≠ 0 := fun e => hb (Rat.num_eq_zero.1 e)
  have hd0 : (a.den : Int) * b.num ≠ 0 := Int.mul_ne_zero (by have := den_pos a; omega) hn0
  rw [← divInt_sgn hd0, Int.sign_mul, Int.sign_eq_one_of_pos (show (0 : Int) < (a.den : Int) by have := den_pos a; omega), Int.one_mul, Int.natAbs_mul, Int.natAbs_natCast]
  have hi : b⁻¹.num = b.num.sign * (b.den : Int) ∧ b⁻¹.den = b.num.natAbs := by
    show (Rat.inv b).num = _ ∧ (Rat.inv b).den = _
    unfold Rat.inv
    split
    · rename_i h; rw [Int.sign_eq_neg_one_of_neg h]; simp
    · split
      · rename_i h; rw [Int.sign_eq_one_of_pos h]; simp
      · omega
  rw [Rat.div_def, Rat.mul_def', hi.1, hi.2]
  congr 1
  rw [Int.mul_assoc, Int.mul_comm (b.den : Int)]
theorem f60_ok (J : Keep) (hd : DOk a d1 d2) (he : DOk b e1 e2) (ha : rl a < 2 ^ 34) (hb : rl b < 2 ^ 34) (hb0 : b ≠ 0) : C J 60 [rqd a d1 d2, rqd b e1 e2] (rr (a / b)) := by
  refine fn_ok Tryz.func60 rfl rfl rfl ?_
  unfold rl at ha hb
  have hn0 : b.num ≠ 0 := fun e => hb0 (Rat.num_eq_zero.1 e)
  have hd0 : (a.den : Int) * b.num ≠ 0 := Int.mul_ne_zero (by have := den_pos a; omega) hn0
  have l1 := lh_mul a.num.natAbs b.den
  have l3 := lh_mul a.den b.num.natAbs
  have c1 := f146_ok J (x := a.num) (y := (b.den : Int)) (by omega) (by rw [lhi]; omega)
  have c3 := f146_ok J (x := (a.den : Int)) (y := b.num) (by rw [lhi]; omega) (by omega)
  have c5 := f148_any J (n := a.num * (b.den : Int)) (d := (a.den : Int) * b.num) hd0 (by rw [Int.natAbs_mul, Int.natAbs_natCast]; omega) (by rw [Int.natAbs_mul, Int.natAbs_natCast]; omega)
  rw [rat_div_int a b hb0] at c5
  repeat (first | (refine W.RS (by kernel_rfl) ?_; conv => whnf) | (refine W.ret ?_; conv => whnf) | (refine ⟨_, f153_ok J hd, ?_⟩; conv => whnf) | (refine ⟨_, f153_ok J he, ?_⟩; conv => whnf) | (refine ⟨_, c1, ?_⟩; conv => whnf) | (refine ⟨_, c3, ?_⟩; conv => whnf) | (refine ⟨_, c5, ?_⟩; conv => whnf) | (refine ⟨rfl, ?_⟩; conv => whnf))
  rfl
def qabs (q : Rat) : Rat := if q.num < 0 then -q else q
theorem qabs_num (q : Rat) : (qabs q).num = (q.num.natAbs : Int) := by
  unfold qabs; split
  · rw [Rat.neg_num]; omega
  · omega
theorem qabs_den (q : Rat) : (qabs q).den = q.den := by
  unfold qabs; split
  · rw [Rat.neg_den]
  · rfl
theorem f68_ok (J : Keep) (hd : DOk a d1 d2) : C J 68 [rqd a d1 d2] (rr (qabs a)) := by
  refine fn_ok Tryz.func68 rfl rfl rfl ?_
  repeat (first | (refine W.RS (by kernel_rfl) ?_; conv => whnf) | (refine W.ret ?_; conv => whnf) | (refine ⟨_, f162_ok J a.num, ?_⟩; conv => whnf) | (refine ⟨_, f153_ok J hd, ?_⟩; conv => whnf) | (refine ⟨rfl, ?_⟩; conv => whnf))
  show IV.agg [.int .i64 (a.num.natAbs : Int).sign, .sl ((dh (a.num.natAbs : Int).natAbs).map d64), .int .i64 (a.den : Int).sign, .sl ((dh (a.den : Int).natAbs).map d64)] = _
  rw [rr, rqd, qabs_num, qabs_den, Int.sign_eq_one_of_pos (a := (a.den : Int)) (by have := den_pos a; omega), Int.natAbs_natCast a.den]
theorem cmpI_sign (x y : Int) : cmpI x y = (x - y).sign := by
  unfold cmpI
  split
  · rw [Int.sign_eq_neg_one_of_neg (by omega)]
  · split
    · rw [Int.sign_eq_one_of_pos (by omega)]
    · rw [show x - y = 0 by omega]; rfl
theorem f27_ok (J : Keep) (hd : DOk a d1 d2) (he : DOk b e1 e2) (ha : rl a < 2 ^ 34) (hb : rl b < 2 ^ 34) : C J 27 [rqd a d1 d2, rqd b e1 e2] (.int .i64 (cmpR a b)) := by
  refine fn_ok Tryz.func27 rfl rfl rfl ?_
  unfold rl at ha hb
  have l1 := lh_mul a.num.natAbs b.den
  have l2 := lh_mul b.num.natAbs a.den
  have c1 := f146_ok J (x := a.num) (y := (b.den : Int)) (by omega) (by rw [lhi]; omega)
  have c2 := f146_ok J (x := b.num) (y := (a.den : Int)) (by omega) (by rw [lhi]; omega)
  have c3 := f144_ok J (x := a.num * (b.den : Int)) (y := b.num * (a.den : Int)) (by rw [Int.natAbs_mul, Int.natAbs_natCast]; omega) (by rw [Int.natAbs_mul, Int.natAbs_natCast]; omega)
  rw [← cmpI_sign] at c3
  repeat (first | (refine W.RS (by kernel_rfl) ?_; conv => whnf) | (refine W.ret ?_; conv => whnf) | (refine ⟨_, f153_ok J hd, ?_⟩; conv => whnf) | (refine ⟨_, f153_ok J he, ?_⟩; conv => whnf) | (refine ⟨_, c1, ?_⟩; conv => whnf) | (refine ⟨_, c2, ?_⟩; conv => whnf) | (refine ⟨_, c3, ?_⟩; conv => whnf) | (refine ⟨rfl, ?_⟩; conv => whnf))
  rfl
theorem f59_ok (J : Keep) : C J 59 [rqd a d1 d2] (.int .i64 a.num.sign) := by
  refine fn_ok Tryz.func59 rfl rfl rfl ?_
  repeat (first | (refine W.RS (by kernel_rfl) ?_; conv => whnf) | (refine W.ret ?_; conv => whnf))
  rfl
end
theorem f159_ok (J : Keep) (n : Int) (most : Nat) : C J 159 [.int .i64 n, .int .i64 most] (.int .i64 (intoN n most : Nat)) := by
  refine fn_ok Tryz.func159 rfl rfl rfl ?_
  by_cases h : n < 0
  · repeat (first | (refine W.RS (by kernel_rfl) ?_; conv => whnf) | (refine W.S ?_) | (refine W.ret ?_; conv => whnf) | (refine W.condT rfl ?_) | (refine ⟨true, decide_eq_true (by omega), ?_⟩; conv => whnf) | (refine ⟨rfl, ?_⟩; conv => whnf))
    have e : ((intoN n most : Nat) : Int) = 0 := by unfold intoN; omega
    rw [e]; rfl
  · by_cases h2 : n > most
    · repeat (first | (refine W.RS (by kernel_rfl) ?_; conv => whnf) | (refine W.S ?_) | (refine W.ret ?_; conv => whnf) | (refine W.skip ?_; conv => whnf) | (refine W.condF rfl ?_) | (refine W.condT rfl ?_) | (refine ⟨true, decide_eq_true (by omega), ?_⟩; conv => whnf) | (refine ⟨false, decide_eq_false (by omega), ?_⟩; conv => whnf) | (refine ⟨rfl, ?_⟩; conv => whnf))
      have e : ((intoN n most : Nat) : Int) = most := by unfold intoN; omega
      rw [e]; rfl
    · repeat (first | (refine W.RS (by kernel_rfl) ?_; conv => whnf) | (refine W.S ?_) | (refine W.ret ?_; conv => whnf) | (refine W.skip ?_; conv => whnf) | (refine W.condF rfl ?_) | (refine ⟨false, decide_eq_false (by omega), ?_⟩; conv => whnf) | (refine ⟨rfl, ?_⟩; conv => whnf))
      have e : ((intoN n most : Nat) : Int) = n := by unfold intoN; omega
      rw [e]; rfl
end Go.Proofs.Fl
namespace Go.Proofs.Fl
open Go.RowKit Go.Proofs.Dig
attribute [local irreducible] IntKind.wrap PureC MutC MakC IterC
theorem cmpR_lt {a b : Rat} : cmpR a b < 0 ↔ a < b := by
  rw [Rat.lt_iff]; unfold cmpR cmpI; split <;> (try split) <;> omega
theorem cmpR_gt {a b : Rat} : 0 < cmpR a b ↔ b < a := by
  rw [Rat.lt_iff]; unfold cmpR cmpI; split <;> (try split) <;> omega
theorem cmpR_le {a b : Rat} : cmpR a b ≤ 0 ↔ a ≤ b := by
  rw [Rat.le_iff]; unfold cmpR cmpI; split <;> (try split) <;> omega
theorem cmpR_ge {a b : Rat} : 0 ≤ cmpR a b ↔ b ≤ a := by
  rw [Rat.le_iff]; unfold cmpR cmpI; split <;> (try split) <;> omega
theorem cmpR_eq {a b : Rat} : cmpR a b = 0 ↔ a = b := by
  constructor
  · intro h
    exact Rat.le_antisymm (cmpR_le.1 (by omega)) (cmpR_ge.1 (by omega))
  · rintro rfl; unfold cmpR cmpI; simp
theorem cmpR_range (a b : Rat) : -1 ≤ cmpR a b ∧ cmpR a b ≤ 1 := by
  unfold cmpR cmpI; split <;> (try split) <;> omega
theorem cmpR_cases (a b : Rat) : (a < b ∧ cmpR a b = -1) ∨ (a = b ∧ cmpR a b = 0) ∨ (b < a ∧ cmpR a b = 1) := by
  have h := cmpR_range a b
  rcases (show cmpR a b = -1 ∨ cmpR a b = 0 ∨ cmpR a b = 1 by omega) with e | e | e
  · exact .inl ⟨cmpR_lt.1 (by omega), e⟩
  · exact .inr (.inl ⟨cmpR_eq.1 e, e⟩)
  · exact .inr (.inr ⟨cmpR_gt.1 (by omega), e⟩)
theorem half : mkRat 1 2 = (1 : Rat) / 2 := by rw [Rat.mkRat_eq_div]; rfl
noncomputable def nearI (q : Rat) : Int := if q - q.floor < 1 / 2 ∨ (q - q.floor = 1 / 2 ∧ q.floor % 2 = 0) then q.floor else q.floor + 1
theorem near_ref (q : Rat) (f : Rat) : cmpR (q - f) (f + 1 - q) = cmpR (q - f) (mkRat 1 2) := by
  rw [half]
  have h1 : (q - f < f + 1 - q) ↔ (q - f < 1 / 2) := by grind
  have h2 : (q - f = f + 1 - q) ↔ (q - f = 1 / 2) := by grind
  have h3 : (f + 1 - q < q - f) ↔ (1 / 2 < q - f) := by grind
  rcases cmpR_cases (q - f) (f + 1 - q) with ⟨a, e⟩ | ⟨a, e⟩ | ⟨a, e⟩ <;> rcases cmpR_cases (q - f) (1 / 2) with ⟨a', e'⟩ | ⟨a', e'⟩ | ⟨a', e'⟩ <;> (first | (rw [e, e']; done) | (exfalso; grind))
theorem near_c (q : Rat) : nearI q = if cmpR (q - q.floor) (mkRat 1 2) < 0 ∨ (cmpR (q - q.floor) (mkRat 1 2) = 0 ∧ q.floor % 2 = 0) then q.floor else q.floor + 1 := by
  unfold nearI
  simp only [cmpR_lt, cmpR_eq, half]
theorem rl_floor {q : Rat} : rl ((q.floor : Int) : Rat) ≤ lh q.num.natAbs + 1 := by
  have h := rl_int q.floor
  rw [Rat.floor_def] at h ⊢
  have h1 := lh_mono (Int.natAbs_ediv_le_natAbs q.num (q.den : Int))
  omega
section
variable {a : Rat} {d1 d2 : IV}
theorem f87_ok (J : Keep) (hd : DOk a d1 d2) (ha : rl a < 2 ^ 34) : C J 87 [rqd a d1 d2] (zh a.floor) := by
  refine fn_ok Tryz.func87 rfl rfl rfl ?_
  unfold rl at ha
  have c1 := f166_ok J (x := a.num) (d := a.den) (den_pos a) (by omega) (by omega)
  rw [← Rat.floor_def] at c1
  repeat (first | (refine W.RS (by kernel_rfl) ?_; conv => whnf) | (refine W.ret ?_; conv => whnf) | (refine ⟨_, f153_ok J hd, ?_⟩; conv => whnf) | (refine ⟨_, c1, ?_⟩; conv => whnf) | (refine ⟨rfl, ?_⟩; conv => whnf))
  rfl
theorem f89_ok (J : Keep) (hd : DOk a d1 d2) (ha : rl a < 2 ^ 34) : C J 89 [rqd a d1 d2] (zh (-((-a).floor))) := by
  refine fn_ok Tryz.func89 rfl rfl rfl ?_
  have c1 := f87_ok J (a := -a) (DOk.rr _) (by rw [rl_neg]; exact ha)
  repeat (first | (refine W.RS (by kernel_rfl) ?_; conv => whnf) | (refine W.ret ?_; conv => whnf) | (refine ⟨_, f67_ok J hd, ?_⟩; conv => whnf) | (refine ⟨_, c1, ?_⟩; conv => whnf) | (refine ⟨_, f147_ok J (-a).floor, ?_⟩; conv => whnf))
  rfl
set_option maxHeartbeats 4000000 in
theorem f168_ok (J : Keep) (hd : DOk a d1 d2) (ha : rl a < 2 ^ 30) : C J 168 [rqd a d1 d2] (zh (nearI a)) := by
  have hf := rl_floor (q := a)
  have ha' : lh a.num.natAbs ≤ rl a := by unfold rl; omega
  have hff : lh a.floor.natAbs < 2 ^ 31 := by
    have : lh a.floor.natAbs ≤ rl ((a.floor : Int) : Rat) := by unfold rl; exact Nat.le_add_right _ _
    omega
  have hf1 : lh (a.floor + 1).natAbs < 2 ^ 32 := by
    have h1 := lh_mono (Int.natAbs_add_le a.floor 1)
    have h2 := lh_add a.floor.natAbs (1 : Int).natAbs
    have h3 : lh (1 : Int).natAbs ≤ 1 := lh_one
    omega
  have r1 := rl_int a.floor
  have r2 := rl_int (a.floor + 1)
  have c1 := f87_ok J hd (by omega)
  have c2 := f174_ok J (x := a.floor) (y := 1) (by omega) (by have := lh_one; show lh 1 < _; omega)
  have c3 := f82_ok J a.floor
  have c4 := f64_ok J (a := a) (b := ((a.floor : Int) : Rat)) hd (DOk.rr _) (by omega) (by omega)
  have c5 := f82_ok J (a.floor + 1)
  have c6 := f64_ok J (a := ((a.floor + 1 : Int) : Rat)) (b := a) (DOk.rr _) hd (by omega) (by omega)
  have s1 := rl_add a (-((a.floor : Int) : Rat))
  have s2 := rl_add ((a.floor + 1 : Int) : Rat) (-a)
  rw [rl_neg, ← Rat.sub_eq_add_neg] at s1 s2
  have c7 := f27_ok J (a := a - ((a.floor : Int) : Rat)) (b := ((a.floor + 1 : Int) : Rat) - a) (DOk.rr _) (DOk.rr _) (by omega) (by omega)
  have hn := near_ref a ((a.floor : Int) : Rat)
  rw [show ((a.floor + 1 : Int) : Rat) - a = ((a.floor : Int) : Rat) + 1 - a by rw [Rat.intCast_add]; rfl] at c7 c6
  rw [hn] at c7
  have l2 : lh 2 ≤ 1 := lh_le (by decide)
  have c8 := f166_ok J (x := a.floor) (d := 2) (by decide) (by omega) (by omega)
  have hnc := near_c a
  obtain ⟨c, hc⟩ : ∃ c, cmpR (a - ((a.floor : Int) : Rat)) (mkRat 1 2) = c := ⟨_, rfl⟩
  rw [hc] at c7 hnc
  have hcr : -1 ≤ c ∧ c ≤ 1 := by rw [← hc]; exact cmpR_range _ _
  obtain ⟨F, hF⟩ : ∃ F, a.floor = F := ⟨_, rfl⟩
  simp only [hF] at hf hff hf1 r1 r2 c1 c2 c3 c4 c5 c6 c7 c8 hnc s1 s2
  have h2c : ((2 : Nat) : Int) = 2 := rfl
  refine fn_ok Tryz.func168 rfl rfl rfl ?_
  have i1 := f139_ok J (z := 1) (by omega) (by omega)
  have i2 := f139_ok J (z := 2) (by omega) (by omega)
  rw [h2c] at c8
  by_cases h1 : c < 0
  · rw [if_pos (.inl h1)] at hnc
    rw [hnc]
    repeat (first | (refine W.RS (by kernel_rfl) ?_; conv => whnf) | (refine W.S ?_) | (refine W.ret ?_; conv => whnf) | (refine W.condT rfl ?_) | (refine ⟨_, c1, ?_⟩; conv => whnf) | (refine ⟨_, i1, ?_⟩; conv => whnf) | (refine ⟨_, i2, ?_⟩; conv => whnf) | (refine ⟨_, c2, ?_⟩; conv => whnf) | (refine ⟨_, c3, ?_⟩; conv => whnf) | (refine ⟨_, c4, ?_⟩; conv => whnf) | (refine ⟨_, c5, ?_⟩; conv => whnf) | (refine ⟨_, c6, ?_⟩; conv => whnf) | (refine ⟨_, c7, ?_⟩; conv => whnf) | (refine ⟨_, c8, ?_⟩; conv => whnf) | (refine ⟨true, decide_eq_true (by omega), ?_⟩; conv => whnf) | (refine ⟨rfl, ?_⟩; conv => whnf) | (refine ⟨_, fun _ => rfl, fun h => absurd h.symm Bool.false_ne_true, ?_⟩; conv => whnf))
    rfl
  · by_cases h2 : c = 0
    · by_cases h3 : F % 2 = 0
      · have hs : (F % 2).sign = 0 := by rw [h3]; rfl
        rw [if_pos (.inr ⟨h2, h3⟩)] at hnc
        rw [hnc]
        repeat (first | (refine W.RS (by kernel_rfl) ?_; conv => whnf) | (refine W.S ?_) | (refine W.ret ?_; conv => whnf) | (refine W.condT rfl ?_) | (refine ⟨_, c1, ?_⟩; conv => whnf) | (refine ⟨_, i1, ?_⟩; conv => whnf) | (refine ⟨_, i2, ?_⟩; conv => whnf) | (refine ⟨_, c2, ?_⟩; conv => whnf) | (refine ⟨_, c3, ?_⟩; conv => whnf) | (refine ⟨_, c4, ?_⟩; conv => whnf) | (refine ⟨_, c5, ?_⟩; conv => whnf) | (refine ⟨_, c6, ?_⟩; conv => whnf) | (refine ⟨_, c7, ?_⟩; conv => whnf) | (refine ⟨_, c8, ?_⟩; conv => whnf) | (refine ⟨true, decide_eq_true (by omega), ?_⟩; conv => whnf) | (refine ⟨false, decide_eq_false (by omega), ?_⟩; conv => whnf) | (refine ⟨rfl, ?_⟩; conv => whnf) | (refine ⟨_, fun h => absurd h Bool.false_ne_true, fun _ => rfl, ?_⟩; conv => whnf) | (refine ⟨_, fun _ => rfl, fun h => absurd h.symm Bool.false_ne_true, ?_⟩; conv => whnf))
        rfl
      · have hs : (F % 2).sign = 1 := by rw [show F % 2 = 1 by omega]; rfl
        rw [if_neg (fun h => h.elim h1 (fun h => h3 h.2))] at hnc
        rw [hnc]
        repeat (first | (refine W.RS (by kernel_rfl) ?_; conv => whnf) | (refine W.S ?_) | (refine W.ret ?_; conv => whnf) | (refine W.skip ?_; conv => whnf) | (refine W.condF rfl ?_) | (refine ⟨_, c1, ?_⟩; conv => whnf) | (refine ⟨_, i1, ?_⟩; conv => whnf) | (refine ⟨_, i2, ?_⟩; conv => whnf) | (refine ⟨_, c2, ?_⟩; conv => whnf) | (refine ⟨_, c3, ?_⟩; conv => whnf) | (refine ⟨_, c4, ?_⟩; conv => whnf) | (refine ⟨_, c5, ?_⟩; conv => whnf) | (refine ⟨_, c6, ?_⟩; conv => whnf) | (refine ⟨_, c7, ?_⟩; conv => whnf) | (refine ⟨_, c8, ?_⟩; conv => whnf) | (refine ⟨true, decide_eq_true (by omega), ?_⟩; conv => whnf) | (refine ⟨false, decide_eq_false (by omega), ?_⟩; conv => whnf) | (refine ⟨rfl, ?_⟩; conv => whnf) | (refine ⟨_, fun h => absurd h Bool.false_ne_true, fun _ => rfl, ?_⟩; conv => whnf) | (refine ⟨_, fun _ => rfl, fun h => absurd h.symm Bool.false_ne_true, ?_⟩; conv => whnf))
        rfl
    · rw [if_neg (fun h => h.elim h1 (fun h => h2 h.1))] at hnc
      rw [hnc]
      repeat (first | (refine W.RS (by kernel_rfl) ?_; conv => whnf) | (refine W.S ?_) | (refine W.ret ?_; conv => whnf) | (refine W.skip ?_; conv => whnf) | (refine W.condF rfl ?_) | (refine ⟨_, c1, ?_⟩; conv => whnf) | (refine ⟨_, i1, ?_⟩; conv => whnf) | (refine ⟨_, i2, ?_⟩; conv => whnf) | (refine ⟨_, c2, ?_⟩; conv => whnf) | (refine ⟨_, c3, ?_⟩; conv => whnf) | (refine ⟨_, c4, ?_⟩; conv => whnf) | (refine ⟨_, c5, ?_⟩; conv => whnf) | (refine ⟨_, c6, ?_⟩; conv => whnf) | (refine ⟨_, c7, ?_⟩; conv => whnf) | (refine ⟨_, c8, ?_⟩; conv => whnf) | (refine ⟨false, decide_eq_false (by omega), ?_⟩; conv => whnf) | (refine ⟨rfl, ?_⟩; conv => whnf) | (refine ⟨_, fun h => absurd h Bool.false_ne_true, fun _ => rfl, ?_⟩; conv => whnf))
      rfl
end
end Go.Proofs.Fl
namespace Go.Proofs.Fl
open Go.RowKit Go.Proofs.Dig
attribute [local irreducible] IntKind.wrap PureC MutC MakC IterC
theorem floor_mk {n : Int} {d : Nat} (hd : 0 < d) : (mkRat n d).floor = n / (d : Int) := by
  have key : ∀ z : Int, (mkRat n d).floor < z ↔ n / (d : Int) < z := by
    intro z
    have hdr : (0 : Rat) < (d : Rat) := by
      have : ((0 : Int) : Rat) < ((d : Int) : Rat) := Rat.intCast_lt_intCast.2 (by omega)
      exact this
    rw [Rat.floor_lt_iff, Rat.mkRat_eq_div, Rat.div_lt_iff hdr, Int.ediv_lt_iff_lt_mul (by omega)]
    have : (z : Rat) * (d : Rat) = ((z * (d : Int) : Int) : Rat) := by rw [Rat.intCast_mul]; rfl
    rw [this, Rat.intCast_lt_intCast]
  have h1 := key ((mkRat n d).floor + 1)
  have h2 := key (n / (d : Int) + 1)
  omega
theorem mul_nat (q : Rat) (p : Nat) : q * (((p : Nat) : Int) : Rat) = mkRat (q.num * (p : Int)) q.den := by
  rw [Rat.mul_def']
  show mkRat (q.num * (p : Int)) (q.den * 1) = _
  rw [Nat.mul_one]
theorem mk_eq (z : Int) (p : Nat) : mkRat z p = (z : Rat) * mkRat 1 p := by
  rw [Rat.mkRat_eq_div, Rat.mkRat_eq_div]
  show (z : Rat) / ((p : Nat) : Rat) = (z : Rat) * ((1 : Rat) / ((p : Nat) : Rat))
  grind
section
variable {a b : Rat} {d1 d2 e1 e2 : IV}
theorem rl_pow (q : Rat) (n : Nat) : rl (q ^ n) ≤ n * rl q + 2 := by
  unfold rl
  rw [Rat.num_pow, Rat.den_pow, Int.natAbs_pow]
  have h1 := lh_pow q.num.natAbs n
  have h2 := lh_pow q.den n
  rw [Nat.mul_add]
  omega
theorem f69_ok (J : Keep) (hd : DOk a d1 d2) (ha : rl a < 2 ^ 28) (k : Int) : C J 69 [rqd a d1 d2, .int .i64 k] (rr (a ^ (intoN k 1000))) := by
  refine fn_ok Tryz.func69 rfl rfl rfl ?_
  obtain ⟨n, hn⟩ : ∃ n, intoN k 1000 = n := ⟨_, rfl⟩
  have hn1 : n ≤ 1000 := by rw [← hn]; unfold intoN; omega
  unfold rl at ha
  have m1 := Nat.mul_le_mul_right (lh a.num.natAbs) (show n + 1 ≤ 1001 by omega)
  have m2 := Nat.mul_le_mul_right (lh a.den) (show n + 1 ≤ 1001 by omega)
  have c1 := f165_ok J (x := a.num) (n := n) (by omega) (by omega)
  have c2 := f165_ok J (x := (a.den : Int)) (n := n) (by omega) (by rw [lhi]; omega)
  have c0 := f159_ok J k 1000
  have hdp : (a.den : Int) ^ n = ((a.den ^ n : Nat) : Int) := by rw [Int.natCast_pow]
  rw [hn] at c0 ⊢
  rw [hdp] at c2
  repeat (first | (refine W.RS (by kernel_rfl) ?_; conv => whnf) | (refine W.ret ?_; conv => whnf) | (refine ⟨_, f153_ok J hd, ?_⟩; conv => whnf) | (refine ⟨_, c0, ?_⟩; conv => whnf) | (refine ⟨_, c1, ?_⟩; conv => whnf) | (refine ⟨_, c2, ?_⟩; conv => whnf) | (refine ⟨rfl, ?_⟩; conv => whnf))
  show IV.agg [.int .i64 (a.num ^ n).sign, .sl ((dh (a.num ^ n).natAbs).map d64), .int .i64 ((a.den ^ n : Nat) : Int).sign, .sl ((dh ((a.den ^ n : Nat) : Int).natAbs).map d64)] = _
  rw [rr, rqd, Rat.num_pow, Rat.den_pow, Int.natAbs_natCast, Int.sign_eq_one_of_pos (a := ((a.den ^ n : Nat) : Int)) (by have := Nat.pow_pos (n := n) (den_pos a); omega)]
theorem f47_ok (J : Keep) (k : Int) : C J 47 [.int .i64 k] (rr (mkRat 1 (gk k))) := by
  refine fn_ok Tryz.func47 rfl rfl rfl ?_
  obtain ⟨n, hn⟩ : ∃ n, intoN k 256 = n := ⟨_, rfl⟩
  have hn1 : n ≤ 256 := by rw [← hn]; unfold intoN; omega
  have c0 := f159_ok J k 256
  unfold gk
  have l2 : lh 2 ≤ 1 := lh_le (by decide)
  have m1 := Nat.mul_le_mul (show n + 1 ≤ 257 by omega) l2
  have c2 := f165_ok J (x := 2) (n := n) (by omega) (by show (n + 1) * lh 2 < _; omega)
  rw [hn] at c0 ⊢
  have l3 := lh_pow 2 n
  have m3 := Nat.mul_le_mul hn1 l2
  have l4 := lh_one
  have c3 := f148_at J (z := 1) (d := 2 ^ n) (Nat.pow_pos (by decide)) (by show lh 1 < _; omega) (by omega) (.inl ⟨rfl, rfl⟩)
  rw [show (2 : Int) ^ n = ((2 ^ n : Nat) : Int) by rw [Int.natCast_pow]; rfl] at c2
  repeat (first | (refine W.RS (by kernel_rfl) ?_; conv => whnf) | (refine W.ret ?_; conv => whnf) | (refine ⟨_, f139_ok J (z := 1) (by omega) (by omega), ?_⟩; conv => whnf) | (refine ⟨_, f139_ok J (z := 2) (by omega) (by omega), ?_⟩; conv => whnf) | (refine ⟨_, c0, ?_⟩; conv => whnf) | (refine ⟨_, c2, ?_⟩; conv => whnf) | (refine ⟨_, c3, ?_⟩; conv => whnf))
  rfl
theorem f38_ok (J : Keep) (hd : DOk a d1 d2) (ha : rl a < 2 ^ 30) (k : Int) : C J 38 [rqd a d1 d2, .int .i64 k] (rr (((a * (((gk k : Nat) : Int) : Rat)).floor : Rat) * mkRat 1 (gk k))) := by
  refine fn_ok Tryz.func38 rfl rfl rfl ?_
  rw [← mk_eq, mul_nat, floor_mk (den_pos a)]
  obtain ⟨n, hn⟩ : ∃ n, intoN k 256 = n := ⟨_, rfl⟩
  have hn1 : n ≤ 256 := by rw [← hn]; unfold intoN; omega
  have c0 := f159_ok J k 256
  unfold gk
  have l2 : lh 2 ≤ 1 := lh_le (by decide)
  have m1 := Nat.mul_le_mul (show n + 1 ≤ 257 by omega) l2
  have c2 := f165_ok J (x := 2) (n := n) (by omega) (by show (n + 1) * lh 2 < _; omega)
  rw [hn] at c0 ⊢
  have l3 := lh_pow 2 n
  have m3 := Nat.mul_le_mul hn1 l2
  have l4 := lh_one
  rw [show (2 : Int) ^ n = ((2 ^ n : Nat) : Int) by rw [Int.natCast_pow]; rfl] at c2
  obtain ⟨p, hp⟩ : ∃ p, 2 ^ n = p := ⟨_, rfl⟩
  have hp0 : 0 < p := by rw [← hp]; exact Nat.pow_pos (by decide)
  rw [hp] at c2 l3 ⊢
  unfold rl at ha
  have c3 := f146_ok J (x := a.num) (y := (p : Int)) (by omega) (by rw [lhi]; omega)
  have l5 := lh_mul a.num.natAbs p
  have e5 : (a.num * (p : Int)).natAbs = a.num.natAbs * p := by rw [Int.natAbs_mul, Int.natAbs_natCast]
  have c4 := f166_ok J (x := a.num * (p : Int)) (d := a.den) (den_pos a) (by rw [e5]; omega) (by omega)
  have l6 := lh_mono (Int.natAbs_ediv_le_natAbs (a.num * (p : Int)) (a.den : Int))
  rw [e5] at l6
  have c5 := f148_at J (z := a.num * (p : Int) / (a.den : Int)) (d := p) hp0 (by omega) (by omega) (.inl ⟨rfl, rfl⟩)
  repeat (first | (refine W.RS (by kernel_rfl) ?_; conv => whnf) | (refine W.ret ?_; conv => whnf) | (refine ⟨_, f139_ok J (z := 2) (by omega) (by omega), ?_⟩; conv => whnf) | (refine ⟨_, c0, ?_⟩; conv => whnf) | (refine ⟨_, c2, ?_⟩; conv => whnf) | (refine ⟨_, f153_ok J hd, ?_⟩; conv => whnf) | (refine ⟨_, c3, ?_⟩; conv => whnf) | (refine ⟨_, c4, ?_⟩; conv => whnf) | (refine ⟨_, c5, ?_⟩; conv => whnf) | (refine ⟨rfl, ?_⟩; conv => whnf))
  rfl
theorem f39_ok (J : Keep) (hd : DOk a d1 d2) (ha : rl a < 2 ^ 30) (k : Int) : C J 39 [rqd a d1 d2, .int .i64 k] (rr (-((-(a * (((gk k : Nat) : Int) : Rat))).floor : Rat) * mkRat 1 (gk k))) := by
  refine fn_ok Tryz.func39 rfl rfl rfl ?_
  have c1 := f38_ok J (a := -a) (DOk.rr _) (by rw [rl_neg]; exact ha) k
  rw [Rat.neg_mul] at c1
  rw [Rat.neg_mul]
  repeat (first | (refine W.RS (by kernel_rfl) ?_; conv => whnf) | (refine W.ret ?_; conv => whnf) | (refine ⟨_, f67_ok J hd, ?_⟩; conv => whnf) | (refine ⟨_, c1, ?_⟩; conv => whnf) | (refine ⟨_, f67_ok J (DOk.rr _), ?_⟩; conv => whnf))
  rfl
theorem gk_pos (k : Int) : 0 < gk k := Nat.pow_pos (by decide)
theorem lh_gk (k : Int) : lh (gk k) ≤ 257 := by
  unfold gk
  have l2 : lh 2 ≤ 1 := lh_le (by decide)
  have hn1 : intoN k 256 ≤ 256 := by unfold intoN; omega
  have l3 := lh_pow 2 (intoN k 256)
  have m3 := Nat.mul_le_mul hn1 l2
  omega
theorem rl_fine (k : Int) : rl (mkRat 1 (gk k)) ≤ 258 := by
  have h := rl_ratio (z := 1) (d := gk k) (gk_pos k)
  have l := lh_gk k
  have l4 : lh (1 : Int).natAbs ≤ 1 := lh_one
  omega
theorem rl_near (q : Rat) : rl ((nearI q : Int) : Rat) ≤ lh q.num.natAbs + 4 := by
  have h := rl_floor (q := q)
  have hff : lh q.floor.natAbs ≤ lh q.num.natAbs + 1 := by
    have : lh q.floor.natAbs ≤ rl ((q.floor : Int) : Rat) := by unfold rl; exact Nat.le_add_right _ _
    omega
  have h1 := lh_mono (Int.natAbs_add_le q.floor 1)
  have h2 := lh_add q.floor.natAbs (1 : Int).natAbs
  have h3 : lh (1 : Int).natAbs ≤ 1 := lh_one
  have r1 := rl_int q.floor
  have r2 := rl_int (q.floor + 1)
  unfold nearI
  split <;> omega
theorem fine_ne (k : Int) : mkRat 1 (gk k) ≠ 0 := by
  rw [Rat.mkRat_ne_zero (by have := gk_pos k; omega)]; decide
theorem div_fine (q : Rat) (k : Int) : q / mkRat 1 (gk k) = q * (((gk k : Nat) : Int) : Rat) := by
  have h : ((gk k : Nat) : Rat) ≠ 0 := by
    have h0 := gk_pos k
    intro e
    have : ((gk k : Nat) : Rat) = ((0 : Nat) : Rat) := e
    have := Rat.natCast_inj.1 this
    omega
  rw [Rat.mkRat_eq_div]
  show q / ((1 : Rat) / ((gk k : Nat) : Rat)) = q * ((gk k : Nat) : Rat)
  generalize ((gk k : Nat) : Rat) = g at h
  grind
theorem rl_gk (k : Int) : rl (((gk k : Nat) : Int) : Rat) ≤ 258 := by
  have := rl_int ((gk k : Nat) : Int)
  rw [lhi] at this
  have := lh_gk k
  omega
theorem f43_ok (J : Keep) (hd : DOk a d1 d2) (ha : rl a < 2 ^ 28) (k : Int) : C J 43 [rqd a d1 d2, .int .i64 k] (rr (((nearI (a * (((gk k : Nat) : Int) : Rat)) : Int) : Rat) * mkRat 1 (gk k))) := by
  refine fn_ok Tryz.func43 rfl rfl rfl ?_
  have r1 := rl_fine k
  have c2 := f60_ok J hd (DOk.rr (mkRat 1 (gk k))) (by omega) (by omega) (fine_ne k)
  rw [div_fine] at c2
  have r2 := rl_mul a (((gk k : Nat) : Int) : Rat)
  have r3 := rl_gk k
  have c3 := f168_ok J (DOk.rr (a * (((gk k : Nat) : Int) : Rat))) (by omega)
  have r4 := rl_near (a * (((gk k : Nat) : Int) : Rat))
  have r5 : lh (a * (((gk k : Nat) : Int) : Rat)).num.natAbs ≤ rl (a * (((gk k : Nat) : Int) : Rat)) := by unfold rl; omega
  obtain ⟨z, hz⟩ : ∃ z, nearI (a * (((gk k : Nat) : Int) : Rat)) = z := ⟨_, rfl⟩
  rw [hz] at c3 r4 ⊢
  have c4 := f65_ok J (a := (z : Rat)) (b := mkRat 1 (gk k)) (DOk.rr _) (DOk.rr _) (by omega) (by omega)
  repeat (first | (refine W.RS (by kernel_rfl) ?_; conv => whnf) | (refine W.ret ?_; conv => whnf) | (refine ⟨_, f47_ok J k, ?_⟩; conv => whnf) | (refine ⟨_, c2, ?_⟩; conv => whnf) | (refine ⟨_, c3, ?_⟩; conv => whnf) | (refine ⟨_, f82_ok J z, ?_⟩; conv => whnf) | (refine ⟨_, c4, ?_⟩; conv => whnf) | (refine ⟨rfl, ?_⟩; conv => whnf))
  rfl
end
end Go.Proofs.Fl
namespace Go.Proofs.Fl
open Go.RowKit Go.Proofs.Dig
attribute [local irreducible] IntKind.wrap PureC MutC MakC IterC
theorem padW_eq : ∀ (w n : Nat), 0 < w → n < 10 ^ w → padW w n = List.replicate (w - (decN n).length) 48 ++ decN n ∧ (decN n).length ≤ w
  | 0, _, h, _ => absurd h (by omega)
  | 1, n, _, h => by
    have hn : n < 10 := by simpa using h
    rw [decN_small hn]
    refine ⟨?_, by simp⟩
    show padW 0 (n / 10) ++ [dig8 (n % 10)] = _
    rw [Nat.mod_eq_of_lt hn]; rfl
  | w + 2, n, _, h => by
    show padW (w + 1) (n / 10) ++ [dig8 (n % 10)] = _ ∧ _
    by_cases hn : n < 10
    · rw [decN_small hn, Nat.mod_eq_of_lt hn, Nat.div_eq_of_lt hn, padW_zero]
      exact ⟨by simp, Nat.succ_le_succ (Nat.zero_le _)⟩
    · have hq : n / 10 < 10 ^ (w + 1) := by
        rw [Nat.pow_succ] at h
        exact Nat.div_lt_of_lt_mul (by omega)
      obtain ⟨h1, h2⟩ := padW_eq (w + 1) (n / 10) (by omega) hq
      rw [decN_big (by omega), h1]
      refine ⟨?_, by simp; omega⟩
      rw [List.length_append, List.length_singleton, List.append_assoc, show w + 2 - ((decN (n / 10)).length + 1) = w + 1 - (decN (n / 10)).length by omega]
theorem decN_len {n w : Nat} (hw : 0 < w) (h : n < 10 ^ w) : (decN n).length ≤ w := (padW_eq w n hw h).2
theorem itoa_dec (n : Nat) : Lib.itoa ((n : Nat) : Int) = decN n := by
  unfold Lib.itoa
  rw [if_neg (by omega), Int.toNat_natCast]
  induction n using Nat.strongRecOn with
  | _ n ih =>
    rw [Lib.decDigits]
    split
    · rename_i h; rw [decN_small h]; rfl
    · rename_i h; rw [decN_big (by omega), ih (n / 10) (by omega)]; rfl
theorem repeat_zero : ∀ c, Lib.repeatL [48] c = List.replicate c 48
  | 0 => rfl
  | c + 1 => by rw [List.replicate_succ, ← repeat_zero c]; rfl
def isBld : Bx → Bool
  | .bld _ => true
  | _ => false
theorem one_tb {m : List (Nat × Bx)} {g : Nat} (h : m.all (fun p => Nat.beq p.1 g || !isBld p.2) = true) : ∀ g' s', tbB m g' = some (.bld s') → g' = g := by
  intro g' s' hg
  induction m with
  | nil => cases hg
  | cons p m ih =>
    simp only [List.all_cons, Bool.and_eq_true] at h
    simp only [tbB] at hg
    cases hb : Nat.beq g' p.1 with
    | false => rw [hb] at hg; exact ih h.2 hg
    | true =>
      rw [hb] at hg
      simp only [cond_true, Option.some.injEq] at hg
      rw [hg] at h
      simp only [isBld, Bool.not_true, Bool.or_false] at h
      rw [Nat.eq_of_beq_eq_true hb, Nat.eq_of_beq_eq_true h.1]
theorem one_upd {bx : Nat → Option Bx} {g : Nat} {b : Option Bx} (h : ∀ g' s', bx g' = some (.bld s') → g' = g) : ∀ g' s', upd bx g b g' = some (.bld s') → g' = g := by
  intro g' s' hg
  by_cases e : g' = g
  · exact e
  · rw [upd_other _ _ _ e] at hg; exact h g' s' hg
theorem LibI.any {J : Keep} (L : LibI J) : LibI J.any := ⟨L.pow10, L.maxLen⟩
def preT (ds : List Nat) (k : Nat) : List UInt8 := if k = 0 then [] else decN (hiN ds k)
theorem preT_len {ds : List Nat} (hd : Dg B9 ds) {k : Nat} (hk : k ≤ ds.length) : (preT ds k).length ≤ 9 * k := by
  unfold preT
  split
  · simp
  · refine decN_len (by omega) ?_
    have := nv_lt (hd.drop (ds.length - k))
    rw [List.length_drop, show ds.length - (ds.length - k) = k by omega] at this
    have e : B9 ^ k = 10 ^ (9 * k) := by rw [Nat.pow_mul]
    rw [← e]; exact this
theorem preT_one {ds : List Nat} (hk : 0 < ds.length) : preT ds (0 + 1) = decN (ds.getD (ds.length - 1 - 0) 0) := by
  unfold preT
  rw [if_neg (by omega), hiN_succ hk, hiN_zero, Nat.zero_mul, Nat.zero_add]
theorem preT_succ {ds : List Nat} (hd : Ok B9 ds) {k : Nat} (h0 : 0 < k) (hk : k < ds.length) : preT ds (k + 1) = preT ds k ++ padW 9 (ds.getD (ds.length - 1 - k) 0) := by
  unfold preT
  rw [if_neg (by omega), if_neg (by omega), hiN_succ hk]
  have h1 : 0 < hiN ds k := by
    unfold hiN
    refine nv_pos (by decide) (hd.nm.drop _) (fun e => ?_)
    have := congrArg List.length e
    simp at this; omega
  exact decN_split 9 h1 (hd.dg.getD (by decide) _)
set_option maxHeartbeats 1000000 in
theorem f157_ds {J : Keep} (L : LibI J) {ds : List Nat} (hd : Ok B9 ds) (hl : ds.length < 2 ^ 43) : C J 157 [mgI ds] (.str (decN (nv B9 ds))) := by
  refine fn_ok (J := J.top) Tryz.func157 rfl rfl rfl ?_
  have lm : (ds.map u32).length = ds.length := by simp
  by_cases h0 : ds = []
  · subst h0
    repeat (first | (refine W.RS (by kernel_rfl) ?_; conv => whnf) | (refine W.S ?_) | (refine W.ret ?_; conv => whnf) | (refine W.condT rfl ?_) | (refine ⟨_, f163_ok J [], ?_⟩; conv => whnf))
    show IV.str [48] = IV.str (decN 0)
    rw [decN_small (by decide)]; rfl
  · have hp : 0 < ds.length := List.length_pos_iff.2 h0
    have c0 := f163_ok J (ds.map u32)
    rw [show (((ds.map u32).length : Int) == 0) = false by rw [lm]; exact beq_eq_false_iff_ne.2 (by omega)] at c0
    repeat (first | (refine W.S ?_; refine W.newBld rfl rfl rfl rfl rfl ?_; conv => whnf) | (refine W.RS (by kernel_rfl) ?_; conv => whnf) | (refine W.S ?_) | (refine W.block ?_) | (refine W.skip ?_; conv => whnf) | (refine W.condF rfl ?_) | (refine ⟨_, c0, ?_⟩; conv => whnf) | (refine ⟨224, [.sl (ds.map u32)], f192_ok J _, rfl, ?_⟩; conv => whnf))
    refine W.weak (σ' := mkA [(1, .ptr pinId 0), (3, .ptr (pinId + 1) 0), (11, .clo 224 [7])] [(pinId, .var (mgI ds)), (pinId + 1, .bld []), (7, .var (.sl (ds.map u32)))] 50) (Wk.tab [(pinId, 0), (pinId + 1, 4)] ⟨⟨rfl, rfl⟩, ⟨rfl, rfl⟩, ⟨rfl, rfl⟩, trivial⟩ ⟨rfl, rfl, rfl, trivial⟩ rfl) ?_
    refine W.range (f224_ok J (show ds.length < 2 ^ 60 by omega)) [pinId, pinId + 1] [(1, .ptr pinId 0), (3, .ptr (pinId + 1) 0)] (fun k => [(pinId, .var (mgI ds)), (pinId + 1, .bld (preT ds k))]) 60 rfl ⟨rfl, trivial⟩ (by simp) rfl back_two (fun _ => rfl) (fun _ => by intro p hp; simp at hp; rcases hp with rfl | rfl <;> rfl) rfl ⟨rfl, rfl, trivial⟩ rfl ⟨rfl, rfl, trivial⟩ rfl rfl (fun k hk => ?_) ?_
    · rw [back_at hk]
      rw [back_len] at hk
      show W J.any _ _ ⟨putsL (tbS [(1, .ptr pinId 0), (3, .ptr (pinId + 1) 0)]) [12, 13] [.int .i64 ((ds.length - 1 - k : Nat) : Int), u32 (ds.getD (ds.length - 1 - k) 0)], tbB [(pinId, .var (mgI ds)), (pinId + 1, .bld (preT ds k))], 60⟩ _
      have hlen := preT_len hd.dg (k := k) (by omega)
      have h3 := hd.dg.getD (by decide) (ds.length - 1 - k)
      have hpad := padW_eq 9 (ds.getD (ds.length - 1 - k) 0) (by decide) h3
      have hone := preT_one hp
      have hsucc := fun h0 => preT_succ hd (k := k) h0 hk
      obtain ⟨x, hx⟩ : ∃ x, ds.getD (ds.length - 1 - k) 0 = x := ⟨_, rfl⟩
      rw [hx] at h3 hpad hsucc ⊢
      have h3 : x < 1000000000 := h3
      have c1 := f198_ok (J := J.any) L.any (n := ((x : Nat) : Int)) (by omega) (by omega)
      rw [itoa_dec] at c1
      have hdl := hpad.2
      have c2 := f158_ok J (s := [48]) (c := 9 - (decN x).length) (by simp; omega) (by omega)
      rw [repeat_zero, show ((9 - (decN x).length : Nat) : Int) = 9 - ((decN x).length : Int) by omega] at c2
      by_cases hk0 : 0 < k
      · have he := hsucc hk0
        rw [hpad.1, ← List.append_assoc] at he
        have w1 := bld199 (s := preT ds k) (t := List.replicate (9 - (decN x).length) 48) (by simp; omega)
        have w2 := bld199 (s := preT ds k ++ List.replicate (9 - (decN x).length) 48) (t := decN x) (by simp; omega)
        rw [← he] at w2
        have o1 := one_tb (m := [(pinId, .var (mgI ds)), (pinId + 1, .bld (preT ds k))]) (g := pinId + 1) rfl
        repeat (first | (refine W.build 4 rfl rfl rfl rfl ?_; conv => whnf) | (refine W.build 1 rfl rfl rfl rfl ?_; conv => whnf) | (refine W.RS (by kernel_rfl) ?_; conv => whnf) | (refine W.R (by kernel_rfl) ?_; conv => whnf) | (refine W.S ?_) | (refine W.block ?_) | (refine W.condT rfl ?_) | (refine ⟨_, c1, ?_⟩; conv => whnf) | (refine ⟨_, c2, ?_⟩; conv => whnf) | (refine ⟨_, _, _, rfl, o1, w1, ?_⟩; conv => whnf) | (refine ⟨rfl, _, w64 (by omega), ?_⟩; conv => whnf) | (refine ⟨_, w64 (by omega), ?_⟩; conv => whnf) | (refine ⟨true, decide_eq_true (by omega), ?_⟩; conv => whnf) | (refine ⟨_, rfl, ?_⟩; conv => whnf) | (refine ⟨rfl, ?_⟩; conv => whnf))
        repeat (first | (refine ⟨_, _, _, rfl, one_upd o1, w2, ?_⟩; conv => whnf) | (refine ⟨rfl, ?_⟩; conv => whnf))
        exact trivial
      · have e0 : k = 0 := by omega
        subst e0
        rw [hx] at hone
        have hpe : preT ds 0 = [] := rfl
        have w2 : BldC Tryz.prog 199 [] [.str (decN x)] (preT ds (0 + 1)) (.tup [.int .i64 ((decN x).length : Nat), .nil 0]) := by
          rw [hone]; exact bld199 (s := []) (t := decN x) (by simp; omega)
        have o1 := one_tb (m := [(pinId, .var (mgI ds)), (pinId + 1, .bld [])]) (g := pinId + 1) rfl
        rw [hpe]
        repeat (first | (refine W.build 1 rfl rfl rfl rfl ?_; conv => whnf) | (refine W.RS (by kernel_rfl) ?_; conv => whnf) | (refine W.R (by kernel_rfl) ?_; conv => whnf) | (refine W.S ?_) | (refine W.block ?_) | (refine W.skip ?_; conv => whnf) | (refine W.condF rfl ?_) | (refine ⟨_, c1, ?_⟩; conv => whnf) | (refine ⟨_, _, _, rfl, o1, w2, ?_⟩; conv => whnf) | (refine ⟨rfl, _, w64 (by omega), ?_⟩; conv => whnf) | (refine ⟨_, w64 (by omega), ?_⟩; conv => whnf) | (refine ⟨false, decide_eq_false (by omega), ?_⟩; conv => whnf) | (refine ⟨_, rfl, ?_⟩; conv => whnf) | (refine ⟨rfl, ?_⟩; conv => whnf))
        exact trivial
    · rw [back_len]
      have hall : preT ds ds.length = decN (nv B9 ds) := by
        unfold preT
        rw [if_neg (by omega), hiN_all]
      rw [hall]
      have o1 := one_tb (m := [(pinId, .var (mgI ds)), (pinId + 1, .bld (decN (nv B9 ds)))]) (g := pinId + 1) rfl
      have w3 := bld200 (decN_ne (nv B9 ds))
      repeat (first | (refine W.S ?_; refine W.build 0 rfl rfl rfl rfl ?_; conv => whnf) | (refine W.ret ?_; conv => whnf) | (refine ⟨_, _, _, rfl, o1, w3, ?_⟩; conv => whnf))
      rfl
theorem f157_ok {J : Keep} (L : LibI J) {n : Nat} (h : ln n < 2 ^ 43) : C J 157 [mag n] (.str (decN n)) := by
  have := f157_ds L (dg_ok n) h
  rwa [dg_nv] at this
end Go.Proofs.Fl
namespace Go.Proofs.Fl
open Go.RowKit Go.Proofs.Dig
attribute [local irreducible] IntKind.wrap PureC MutC MakC IterC
def qtext (q : Rat) : List UInt8 := if q.den = 1 then ztext q.num else ztext q.num ++ [47] ++ decN q.den
theorem decN_ln (n : Nat) : (decN n).length ≤ 9 * ln n + 1 := by
  refine decN_len (by omega) ?_
  have h := lt_ln n
  have e : B9 ^ ln n = 10 ^ (9 * ln n) := by rw [Nat.pow_mul]
  have := Nat.pow_le_pow_right (n := 10) (by decide) (Nat.le_succ (9 * ln n))
  show n < 10 ^ (9 * ln n + 1)
  omega
theorem decN_lh (n : Nat) : (decN n).length ≤ 5 * lh n + 1 := by
  refine decN_len (by omega) ?_
  have h := lt_lh n
  have e : B15 ^ lh n ≤ 10 ^ (5 * lh n) := by rw [Nat.pow_mul]; exact Nat.pow_le_pow_left (by decide) _
  have := Nat.pow_le_pow_right (n := 10) (by decide) (Nat.le_succ (5 * lh n))
  show n < 10 ^ (5 * lh n + 1)
  omega
theorem ztext_nat (n : Nat) : ztext (n : Int) = decN n := by
  unfold ztext
  rw [if_neg (by omega), Int.natAbs_natCast]; rfl
theorem ztext_len (z : Int) : (ztext z).length ≤ (decN z.natAbs).length + 1 := by
  unfold ztext
  split <;> simp <;> omega
theorem f35_ok {J : Keep} (L : LibI J) {q : Rat} (h : qln q < 2 ^ 40) : C J 35 [qr q] (.str (qtext q)) := by
  refine fn_ok Tryz.func35 rfl rfl rfl ?_
  have hq := h
  unfold qln at hq
  have c1 := f157_ok L (n := q.num.natAbs) (by omega)
  have c2 := f157_ok L (n := q.den) (by omega)
  have c3 := f164_q J (q := q) (by omega)
  have l1 := decN_ln q.num.natAbs
  have l2 := decN_ln q.den
  have c4 := f163_ok J ((dg (q.den - 1)).map u32)
  have hz : (((dg (q.den - 1)).map u32).length = 0) ↔ q.den = 1 := by
    have := den_pos q
    rw [List.length_map]
    have h2 := @dg_nil_iff (q.den - 1)
    rw [← List.length_eq_zero_iff] at h2
    omega
  unfold qtext
  by_cases hn : q.num < 0
  · have e1 : ztext q.num = [45] ++ decN q.num.natAbs := by unfold ztext; rw [if_pos hn]
    show W J _ _ ⟨argS [.agg [.sl ((dg q.num.natAbs).map u32), .bool (decide (q.num < 0)), .sl ((dg (q.den - 1)).map u32)]], fun _ => none, 0⟩ _
    rw [decide_eq_true hn]
    unfold qr qd at c3
    rw [decide_eq_true hn] at c3
    by_cases hd : q.den = 1
    · rw [show (((dg (q.den - 1)).map u32).length : Int) == 0 by rw [beq_iff_eq]; have := hz.2 hd; omega] at c4
      rw [if_pos hd, e1]
      repeat (first | (refine W.RS (by kernel_rfl) ?_; conv => whnf) | (refine W.R (by kernel_rfl) ?_; conv => whnf) | (refine W.S ?_) | (refine W.ret ?_; conv => whnf) | (refine W.skip ?_; conv => whnf) | (refine W.condF rfl ?_) | (refine W.condT rfl ?_) | (refine ⟨_, c1, ?_⟩; conv => whnf) | (refine ⟨_, c4, ?_⟩; conv => whnf) | (refine ⟨by simp; omega, ?_⟩; conv => whnf) | (refine ⟨_, rfl, ?_⟩; conv => whnf))
      rfl
    · rw [show ((((dg (q.den - 1)).map u32).length : Int) == 0) = false by rw [beq_eq_false_iff_ne]; intro e; exact hd (hz.1 (by omega))] at c4
      rw [if_neg hd, e1]
      repeat (first | (refine W.RS (by kernel_rfl) ?_; conv => whnf) | (refine W.R (by kernel_rfl) ?_; conv => whnf) | (refine W.S ?_) | (refine W.ret ?_; conv => whnf) | (refine W.condT rfl ?_) | (refine ⟨_, c1, ?_⟩; conv => whnf) | (refine ⟨_, c2, ?_⟩; conv => whnf) | (refine ⟨_, c3, ?_⟩; conv => whnf) | (refine ⟨_, c4, ?_⟩; conv => whnf) | (refine ⟨by simp; omega, ?_⟩; conv => whnf) | (refine ⟨_, rfl, ?_⟩; conv => whnf))
      simp [oneOf]
  · have e1 : ztext q.num = decN q.num.natAbs := by unfold ztext; rw [if_neg hn]; rfl
    show W J _ _ ⟨argS [.agg [.sl ((dg q.num.natAbs).map u32), .bool (decide (q.num < 0)), .sl ((dg (q.den - 1)).map u32)]], fun _ => none, 0⟩ _
    rw [decide_eq_false hn]
    unfold qr qd at c3
    rw [decide_eq_false hn] at c3
    by_cases hd : q.den = 1
    · rw [show (((dg (q.den - 1)).map u32).length : Int) == 0 by rw [beq_iff_eq]; have := hz.2 hd; omega] at c4
      rw [if_pos hd, e1]
      repeat (first | (refine W.RS (by kernel_rfl) ?_; conv => whnf) | (refine W.S ?_) | (refine W.ret ?_; conv => whnf) | (refine W.skip ?_; conv => whnf) | (refine W.condF rfl ?_) | (refine ⟨_, c1, ?_⟩; conv => whnf) | (refine ⟨_, c4, ?_⟩; conv => whnf) | (refine ⟨_, rfl, ?_⟩; conv => whnf))
      rfl
    · rw [show ((((dg (q.den - 1)).map u32).length : Int) == 0) = false by rw [beq_eq_false_iff_ne]; intro e; exact hd (hz.1 (by omega))] at c4
      rw [if_neg hd, e1]
      repeat (first | (refine W.RS (by kernel_rfl) ?_; conv => whnf) | (refine W.R (by kernel_rfl) ?_; conv => whnf) | (refine W.S ?_) | (refine W.ret ?_; conv => whnf) | (refine W.skip ?_; conv => whnf) | (refine W.condF rfl ?_) | (refine W.condT rfl ?_) | (refine ⟨_, c1, ?_⟩; conv => whnf) | (refine ⟨_, c2, ?_⟩; conv => whnf) | (refine ⟨_, c3, ?_⟩; conv => whnf) | (refine ⟨_, c4, ?_⟩; conv => whnf) | (refine ⟨by simp; omega, ?_⟩; conv => whnf) | (refine ⟨_, rfl, ?_⟩; conv => whnf))
      simp [oneOf]
theorem f150_ok (J : Keep) {a : Rat} {d1 d2 : IV} (hd : DOk a d1 d2) (h : rl a < 2 ^ 36) : C J 150 [rqd a d1 d2] (.str (qtext a)) := by
  refine fn_ok Tryz.func150 rfl rfl rfl ?_
  unfold rl at h
  have c1 := f161_ok J (z := a.num) (by omega)
  have c2 := f161_ok J (z := (a.den : Int)) (by rw [lhi]; omega)
  rw [ztext_nat] at c2
  have l1 := ztext_len a.num
  have l2 := decN_lh a.num.natAbs
  have l3 := decN_lh a.den
  unfold qtext
  by_cases hd1 : a.den = 1
  · have e : (decN a.den == [49]) = true := by rw [hd1, decN_small (by decide)]; rfl
    rw [if_pos hd1]
    repeat (first | (refine W.RS (by kernel_rfl) ?_; conv => whnf) | (refine W.S ?_) | (refine W.ret ?_; conv => whnf) | (refine W.condT rfl ?_) | (refine ⟨_, f153_ok J hd, ?_⟩; conv => whnf) | (refine ⟨_, c1, ?_⟩; conv => whnf) | (refine ⟨_, c2, ?_⟩; conv => whnf) | (refine ⟨_, e, ?_⟩; conv => whnf))
    rfl
  · have e : (decN a.den == [49]) = false := by
      rw [beq_eq_false_iff_ne]
      intro h'
      exact hd1 (decN_inj (h'.trans (decN_small (n := 1) (by decide)).symm))
    rw [if_neg hd1]
    repeat (first | (refine W.RS (by kernel_rfl) ?_; conv => whnf) | (refine W.S ?_) | (refine W.ret ?_; conv => whnf) | (refine W.skip ?_; conv => whnf) | (refine W.condF rfl ?_) | (refine ⟨_, f153_ok J hd, ?_⟩; conv => whnf) | (refine ⟨_, c1, ?_⟩; conv => whnf) | (refine ⟨_, c2, ?_⟩; conv => whnf) | (refine ⟨_, e, ?_⟩; conv => whnf) | (refine ⟨by simp; omega, ?_⟩; conv => whnf) | (refine ⟨rfl, ?_⟩; conv => whnf))
    rfl
def qlen (q : Rat) : Nat := (decN q.num.natAbs).length + (decN q.den).length
theorem f80_ok (J : Keep) {a : Rat} {d1 d2 : IV} (hd : DOk a d1 d2) (h : rl a < 2 ^ 36) : C J 80 [rqd a d1 d2] (.int .i64 (qlen a : Nat)) := by
  refine fn_ok Tryz.func80 rfl rfl rfl ?_
  unfold rl at h
  have c1 := f161_ok J (z := ((a.num.natAbs : Nat) : Int)) (by rw [lhi]; omega)
  have c2 := f161_ok J (z := (a.den : Int)) (by rw [lhi]; omega)
  rw [ztext_nat] at c1 c2
  have l2 := decN_lh a.num.natAbs
  have l3 := decN_lh a.den
  repeat (first | (refine W.RS (by kernel_rfl) ?_; conv => whnf) | (refine W.ret ?_; conv => whnf) | (refine ⟨_, f153_ok J hd, ?_⟩; conv => whnf) | (refine ⟨_, f162_ok J a.num, ?_⟩; conv => whnf) | (refine ⟨_, c1, ?_⟩; conv => whnf) | (refine ⟨_, c2, ?_⟩; conv => whnf) | (refine ⟨rfl, _, w64 (by omega), ?_⟩; conv => whnf) | (refine ⟨_, rfl, ?_⟩; conv => whnf) | (refine ⟨rfl, ?_⟩; conv => whnf))
  show IV.int .i64 (((decN a.num.natAbs).length : Int) + ((decN a.den).length : Int)) = _
  unfold qlen
  rw [Int.natCast_add]
theorem f79_ok {J : Keep} (L : LibI J) {q : Rat} (h : qln q < 2 ^ 40) : C J 79 [qr q] (.int .i64 (qlen q : Nat)) := by
  refine fn_ok Tryz.func79 rfl rfl rfl ?_
  have hq := h
  unfold qln at hq
  have c1 := f157_ok L (n := q.num.natAbs) (by omega)
  have c2 := f157_ok L (n := q.den) (by omega)
  have c3 := f164_q J (q := q) (by omega)
  have l2 := decN_ln q.num.natAbs
  have l3 := decN_ln q.den
  repeat (first | (refine W.RS (by kernel_rfl) ?_; conv => whnf) | (refine W.ret ?_; conv => whnf) | (refine ⟨_, c1, ?_⟩; conv => whnf) | (refine ⟨_, c2, ?_⟩; conv => whnf) | (refine ⟨_, c3, ?_⟩; conv => whnf) | (refine ⟨rfl, _, w64 (by omega), ?_⟩; conv => whnf) | (refine ⟨_, rfl, ?_⟩; conv => whnf) | (refine ⟨rfl, ?_⟩; conv => whnf))
  show IV.int .i64 (((decN q.num.natAbs).length : Int) + ((decN q.den).length : Int)) = _
  unfold qlen
  rw [Int.natCast_add]
end Go.Proofs.Fl
namespace Go.Proofs.Fl
open Go.RowKit Go.Proofs.Dig
attribute [local irreducible] IntKind.wrap PureC MutC MakC IterC
theorem sv_pow (z : Int) (n : Nat) : sv (decide (z < 0) && (((n % 2 : Nat) : Int) == 1)) (z.natAbs ^ n) = z ^ n := by
  unfold sv
  by_cases hz : z < 0
  · obtain ⟨m, rfl⟩ : ∃ m : Nat, z = -(m : Int) := ⟨z.natAbs, by omega⟩
    rw [decide_eq_true hz, Int.natAbs_neg, Int.natAbs_natCast, Bool.true_and]
    rcases Nat.mod_two_eq_zero_or_one n with h | h
    · rw [h]
      have : n = 2 * (n / 2) := by omega
      have e : (-(m : Int)) ^ n = (m : Int) ^ n := by
        rw [this, Int.pow_mul, Int.pow_mul]
        congr 1
        rw [Int.pow_succ, Int.pow_succ, Int.pow_succ, Int.pow_succ]
        simp
        exact Int.neg_mul_neg _ _
      rw [e]; simp
    · rw [h]
      have : n = 2 * (n / 2) + 1 := by omega
      have e : (-(m : Int)) ^ n = -((m : Int) ^ n) := by
        rw [this, Int.pow_succ, Int.pow_succ, Int.pow_mul, Int.pow_mul]
        rw [show (-(m : Int)) ^ 2 = (m : Int) ^ 2 by rw [Int.pow_succ, Int.pow_succ, Int.pow_succ, Int.pow_succ]; simp; exact Int.neg_mul_neg _ _]
        rw [Int.mul_neg]
      rw [e]; simp
  · obtain ⟨m, rfl⟩ : ∃ m : Nat, z = (m : Int) := ⟨z.natAbs, by omega⟩
    rw [decide_eq_false hz, Int.natAbs_natCast]; simp
theorem qln_pow (q : Rat) (n : Nat) : qln (q ^ n) ≤ n * qln q + 2 := by
  unfold qln
  rw [Rat.num_pow, Rat.den_pow, Int.natAbs_pow]
  have h1 := ln_pow q.num.natAbs n
  have h2 := ln_pow q.den n
  rw [Nat.mul_add]
  omega
theorem f51_ok {J : Keep} {a : Rat} (ha : qln a < 2 ^ 28) (k : Int) : C J 51 [qr a, .int .i64 k] (qr (a ^ (intoN k 1000))) := by
  refine fn_ok Tryz.func51 rfl rfl rfl ?_
  obtain ⟨n, hn⟩ : ∃ n, intoN k 1000 = n := ⟨_, rfl⟩
  have hn1 : n ≤ 1000 := by rw [← hn]; unfold intoN; omega
  have hq := ha
  unfold qln at hq
  have m1 := Nat.mul_le_mul_right (ln a.num.natAbs) (show n + 1 ≤ 1001 by omega)
  have m2 := Nat.mul_le_mul_right (ln a.den) (show n + 1 ≤ 1001 by omega)
  have c0 := f154_ok J k 1000
  have c1 := f137_ok J (a := a.num.natAbs) (n := n) (by omega) (by omega)
  have c2 := f164_q J (q := a) (by omega)
  have c3 := f137_ok J (a := a.den) (n := n) (by omega) (by omega)
  have hp : 1 ≤ a.den ^ n := Nat.pow_pos (den_pos a)
  have l3 := ln_pow a.den n
  have m3 := Nat.mul_le_mul_right (ln a.den) (show n ≤ 1000 by omega)
  have c4 := f173_ok J (a := a.den ^ n) (b := 1) hp (by omega)
  have hm : ((n : Nat) : Int).tmod 2 = ((n % 2 : Nat) : Int) := tmodN n 2
  have c5 := f130_ok J (decide (a.num < 0) && (((n % 2 : Nat) : Int) == 1)) (a.num.natAbs ^ n)
  rw [sv_pow] at c5
  rw [hn] at c0 ⊢
  have fin : IV.agg [.sl ((dg (a.num ^ n).natAbs).map u32), .bool (decide (a.num ^ n < 0)), .sl ((dg (a.den ^ n - 1)).map u32)] = qr (a ^ n) := by
    rw [qr, qd, Rat.num_pow, Rat.den_pow]
  show W J _ _ ⟨argS [.agg [.sl ((dg a.num.natAbs).map u32), .bool (decide (a.num < 0)), .sl ((dg (a.den - 1)).map u32)], .int .i64 k], fun _ => none, 0⟩ _
  unfold qr qd at c2
  by_cases h : a.num < 0
  · rw [decide_eq_true h] at c2 c5 ⊢
    repeat (first | (refine W.RS (by kernel_rfl) ?_; conv => whnf) | (refine W.ret ?_; conv => whnf) | (refine ⟨_, c0, ?_⟩; conv => whnf) | (refine ⟨_, c1, ?_⟩; conv => whnf) | (refine ⟨_, c2, ?_⟩; conv => whnf) | (refine ⟨_, c3, ?_⟩; conv => whnf) | (refine ⟨_, c4, ?_⟩; conv => whnf) | (refine ⟨_, c5, ?_⟩; conv => whnf) | (refine ⟨_, f134_ok J (n := 1) (by omega), ?_⟩; conv => whnf) | (refine ⟨by omega, _, hm, ?_⟩; conv => whnf) | (refine ⟨_, rfl, ?_⟩; conv => whnf) | (refine ⟨rfl, ?_⟩; conv => whnf) | (refine ⟨_, fun _ => rfl, fun h => absurd h.symm Bool.false_ne_true, ?_⟩; conv => whnf))
    exact fin
  · rw [decide_eq_false h] at c2 c5 ⊢
    repeat (first | (refine W.RS (by kernel_rfl) ?_; conv => whnf) | (refine W.ret ?_; conv => whnf) | (refine ⟨_, c0, ?_⟩; conv => whnf) | (refine ⟨_, c1, ?_⟩; conv => whnf) | (refine ⟨_, c2, ?_⟩; conv => whnf) | (refine ⟨_, c3, ?_⟩; conv => whnf) | (refine ⟨_, c4, ?_⟩; conv => whnf) | (refine ⟨_, c5, ?_⟩; conv => whnf) | (refine ⟨_, f134_ok J (n := 1) (by omega), ?_⟩; conv => whnf) | (refine ⟨rfl, ?_⟩; conv => whnf) | (refine ⟨_, fun h => absurd h Bool.false_ne_true, fun _ => rfl, ?_⟩; conv => whnf))
    exact fin
end Go.Proofs.Fl
namespace Go.Proofs.Fl
open Go.RowKit Go.Proofs.Dig
attribute [local irreducible] IntKind.wrap PureC MutC MakC IterC
def chooseL (b : Int → Bool) : List Rat → Rat
  | [] => 0
  | x :: l => l.foldl (fun m y => if b (cmpR y m) then y else m) x
theorem chooseL_snoc (b : Int → Bool) (l : List Rat) (y : Rat) : chooseL b (l ++ [y]) = if l = [] then y else if b (cmpR y (chooseL b l)) then y else chooseL b l := by
  cases l with
  | nil => rfl
  | cons x l =>
    rw [if_neg (by simp)]
    show (l ++ [y]).foldl _ x = _
    rw [List.foldl_append]; rfl
theorem chooseL_mem (b : Int → Bool) : ∀ (l : List Rat), l ≠ [] → chooseL b l ∈ l
  | [], h => absurd rfl h
  | x :: l, _ => by
    show l.foldl _ x ∈ x :: l
    suffices h : ∀ (l : List Rat) (x : Rat), l.foldl (fun m y => if b (cmpR y m) then y else m) x = x ∨ l.foldl (fun m y => if b (cmpR y m) then y else m) x ∈ l by
      rcases h l x with h | h
      · rw [h]; simp
      · exact List.mem_cons_of_mem _ h
    intro l
    induction l with
    | nil => intro x; exact .inl rfl
    | cons y l ih =>
      intro x
      simp only [List.foldl_cons]
      by_cases hb : b (cmpR y x) = true
      · rw [if_pos hb]
        rcases ih y with h | h
        · rw [h]; exact .inr (by simp)
        · exact .inr (List.mem_cons_of_mem _ h)
      · rw [if_neg hb]
        rcases ih x with h | h
        · exact .inl h
        · exact .inr (List.mem_cons_of_mem _ h)
theorem f176_ok (J : Keep) (c : Int) : C J 176 [.int .i64 c] (.bool (decide (c < 0))) := by
  refine fn_ok Tryz.func176 rfl rfl rfl ?_
  by_cases h : c < 0
  · rw [decide_eq_true h]
    repeat (first | (refine W.RS (by kernel_rfl) ?_; conv => whnf) | (refine W.ret ?_; conv => whnf) | (refine ⟨true, decide_eq_true (by omega), ?_⟩; conv => whnf) | (refine ⟨rfl, ?_⟩; conv => whnf))
    rfl
  · rw [decide_eq_false h]
    repeat (first | (refine W.RS (by kernel_rfl) ?_; conv => whnf) | (refine W.ret ?_; conv => whnf) | (refine ⟨false, decide_eq_false (by omega), ?_⟩; conv => whnf) | (refine ⟨rfl, ?_⟩; conv => whnf))
    rfl
theorem f177_ok (J : Keep) (c : Int) : C J 177 [.int .i64 c] (.bool (decide (c > 0))) := by
  refine fn_ok Tryz.func177 rfl rfl rfl ?_
  by_cases h : c > 0
  · rw [decide_eq_true h]
    repeat (first | (refine W.RS (by kernel_rfl) ?_; conv => whnf) | (refine W.ret ?_; conv => whnf) | (refine ⟨true, decide_eq_true (by omega), ?_⟩; conv => whnf) | (refine ⟨rfl, ?_⟩; conv => whnf))
    rfl
  · rw [decide_eq_false h]
    repeat (first | (refine W.RS (by kernel_rfl) ?_; conv => whnf) | (refine W.ret ?_; conv => whnf) | (refine ⟨false, decide_eq_false (by omega), ?_⟩; conv => whnf) | (refine ⟨rfl, ?_⟩; conv => whnf))
    rfl
theorem varQ {x y : Rat} (h : x = y) : some (Bx.var (qr x)) = some (Bx.var (qr y)) := by rw [h]
theorem varE {x y : IV} (h : x = y) : some (Bx.var x) = some (Bx.var y) := by rw [h]
theorem getq {f : Rat → IV} {l : List Rat} {k : Nat} (h : k < l.length) : (l.map f)[k]? = some (f (l.getD k 0)) := by
  simp [h]
theorem take_snoc {l : List Rat} {k : Nat} (h : k < l.length) : l.take (k + 1) = l.take k ++ [l.getD k 0] := by
  rw [List.take_add_one, List.getElem?_eq_getElem h]
  simp [List.getD, h]
theorem take_ne {l : List Rat} {k : Nat} (h0 : ¬ k = 0) (h : k < l.length) : ¬ l.take k = [] := by
  intro e
  have := congrArg List.length e
  rw [List.length_take, List.length_nil] at this
  omega
theorem getD_mem {l : List Rat} {k : Nat} (h : k < l.length) : l.getD k 0 ∈ l := by
  simp [List.getD, h]
theorem take_mem {l : List Rat} {k : Nat} {x : Rat} (h : x ∈ l.take k) : x ∈ l := List.mem_of_mem_take h
theorem qln_zero : qln 0 ≤ 1 := by
  show ln 0 + ln 1 ≤ 1
  have h0 : ln 0 ≤ 0 := ln_le (by decide)
  rw [ln_one]; omega
theorem chooseL_all {P : Rat → Prop} (b : Int → Bool) {l : List Rat} (h0 : P 0) (h : ∀ x ∈ l, P x) : P (chooseL b l) := by
  by_cases he : l = []
  · subst he; exact h0
  · exact h _ (chooseL_mem b l he)
theorem f175_176 (J : Keep) {b : Int → Bool} (hf : ∀ c, C J 176 [.int .i64 c] (.bool (b c))) {l : List Rat} (hl : l.length < 2 ^ 60) (hq : ∀ x ∈ l, qln x < 2 ^ 38) : C J 175 [.fn 176, .sl (l.map qr)] (qr (chooseL b l)) := by
  refine fn_ok Tryz.func175 rfl rfl rfl ?_
  have lm : (l.map qr).length = l.length := by simp
  repeat (first | (refine W.RS (by kernel_rfl) ?_; conv => whnf) | (refine W.S ?_) | (refine W.block ?_) | (refine ⟨_, rfl, ?_⟩; conv => whnf))
  refine W.loop (G := { k : Nat // k ≤ l.length }) (fun k => mkA [(0, .iv (.fn 176)), (4, .ptr 0 0), (5, .ptr 1 0), (8, .iv (.sl (l.map qr))), (9, .iv (.int .i64 (l.length : Nat))), (10, .iv (.int .i64 (k.1 : Nat)))] [(0, .var (.agg [.sl [], .bool false, .sl []])), (1, .var (qr (chooseL b (l.take k.1))))] 40) (fun k => l.length - k.1) ⟨0, Nat.zero_le _⟩
    (Wk.tab [] ⟨⟨rfl, rfl⟩, ⟨rfl, rfl⟩, ⟨rfl, rfl⟩, ⟨rfl, rfl⟩, ⟨ivEq (by rw [lm]), rfl⟩, ⟨rfl, rfl⟩, trivial⟩ ⟨rfl, varE (by dsimp only; rw [List.take_zero]; exact dg_zero_qr.symm), trivial⟩ rfl) ?_
  rintro ⟨k, hk⟩
  show W J _ _ (mkA [(0, .iv (.fn 176)), (4, .ptr 0 0), (5, .ptr 1 0), (8, .iv (.sl (l.map qr))), (9, .iv (.int .i64 (l.length : Nat))), (10, .iv (.int .i64 (k : Nat)))] [(0, .var (.agg [.sl [], .bool false, .sl []])), (1, .var (qr (chooseL b (l.take k))))] 40) _
  by_cases h : k < l.length
  · have hg := getq (f := qr) h
    have hx := hq _ (getD_mem h)
    have hs := chooseL_snoc b (l.take k) (l.getD k 0)
    rw [← take_snoc h] at hs
    have hm : qln (chooseL b (l.take k)) < 2 ^ 38 := chooseL_all b (P := fun x => qln x < 2 ^ 38) (by have := qln_zero; omega) (fun x hx => hq x (take_mem hx))
    obtain ⟨x, hxe⟩ : ∃ x, l.getD k 0 = x := ⟨_, rfl⟩
    obtain ⟨m, hme⟩ : ∃ m, chooseL b (l.take k) = m := ⟨_, rfl⟩
    rw [hxe] at hg hx hs
    rw [hme] at hm hs
    rw [hme]
    have c1 := f37_ok (J := J) hx hm
    have c2 := hf (cmpR x m)
    by_cases h0 : k = 0
    · subst h0
      rw [if_pos (by simp)] at hs
      repeat (first | (refine W.RS (by kernel_rfl) ?_; conv => whnf) | (refine W.R (by kernel_rfl) ?_; conv => whnf) | (refine W.S ?_) | (refine W.block ?_) | (refine W.skip ?_; conv => whnf) | (refine W.condT rfl ?_) | (refine ⟨0, _, rfl, hg, rfl, ?_⟩; conv => whnf) | (refine ⟨rfl, _, w64 (by omega), ?_⟩; conv => whnf) | (refine ⟨true, decide_eq_true (by omega), ?_⟩; conv => whnf) | (refine ⟨rfl, ?_⟩; conv => whnf) | (refine ⟨_, fun _ => rfl, fun h => absurd h.symm Bool.false_ne_true, ?_⟩; conv => whnf))
      exact ⟨⟨0 + 1, by omega⟩, Wk.tab [] ⟨⟨rfl, rfl⟩, ⟨rfl, rfl⟩, ⟨rfl, rfl⟩, ⟨rfl, rfl⟩, ⟨rfl, rfl⟩, ⟨rfl, rfl⟩, trivial⟩ ⟨rfl, varQ hs.symm, trivial⟩ rfl, by dsimp only; omega⟩
    · rw [if_neg (take_ne h0 h)] at hs
      by_cases hb : b (cmpR x m) = true
      · rw [if_pos hb] at hs
        rw [hb] at c2
        repeat (first | (refine W.RS (by kernel_rfl) ?_; conv => whnf) | (refine W.R (by kernel_rfl) ?_; conv => whnf) | (refine W.S ?_) | (refine W.block ?_) | (refine W.skip ?_; conv => whnf) | (refine W.condT rfl ?_) | (refine ⟨_, c1, ?_⟩; conv => whnf) | (refine ⟨_, c2, ?_⟩; conv => whnf) | (refine ⟨k, _, rfl, hg, rfl, ?_⟩; conv => whnf) | (refine ⟨rfl, _, w64 (by omega), ?_⟩; conv => whnf) | (refine ⟨true, decide_eq_true (by omega), ?_⟩; conv => whnf) | (refine ⟨false, decide_eq_false (by omega), ?_⟩; conv => whnf) | (refine ⟨rfl, ?_⟩; conv => whnf) | (refine ⟨_, fun h => absurd h Bool.false_ne_true, fun _ => rfl, ?_⟩; conv => whnf))
        exact ⟨⟨k + 1, by omega⟩, Wk.tab [] ⟨⟨rfl, rfl⟩, ⟨rfl, rfl⟩, ⟨rfl, rfl⟩, ⟨rfl, rfl⟩, ⟨rfl, rfl⟩, ⟨rfl, rfl⟩, trivial⟩ ⟨rfl, varQ hs.symm, trivial⟩ rfl, by dsimp only; omega⟩
      · rw [if_neg hb] at hs
        rw [Bool.not_eq_true] at hb
        rw [hb] at c2
        repeat (first | (refine W.RS (by kernel_rfl) ?_; conv => whnf) | (refine W.R (by kernel_rfl) ?_; conv => whnf) | (refine W.S ?_) | (refine W.block ?_) | (refine W.skip ?_; conv => whnf) | (refine W.condF rfl ?_) | (refine W.condT rfl ?_) | (refine ⟨_, c1, ?_⟩; conv => whnf) | (refine ⟨_, c2, ?_⟩; conv => whnf) | (refine ⟨k, _, rfl, hg, rfl, ?_⟩; conv => whnf) | (refine ⟨rfl, _, w64 (by omega), ?_⟩; conv => whnf) | (refine ⟨true, decide_eq_true (by omega), ?_⟩; conv => whnf) | (refine ⟨false, decide_eq_false (by omega), ?_⟩; conv => whnf) | (refine ⟨rfl, ?_⟩; conv => whnf) | (refine ⟨_, fun h => absurd h Bool.false_ne_true, fun _ => rfl, ?_⟩; conv => whnf))
        exact ⟨⟨k + 1, by omega⟩, Wk.tab [] ⟨⟨rfl, rfl⟩, ⟨rfl, rfl⟩, ⟨rfl, rfl⟩, ⟨rfl, rfl⟩, ⟨rfl, rfl⟩, ⟨rfl, rfl⟩, trivial⟩ ⟨rfl, varQ hs.symm, trivial⟩ rfl, by dsimp only; omega⟩
  · repeat (first | (refine W.RS (by kernel_rfl) ?_; conv => whnf) | (refine W.S ?_) | (refine W.ret ?_; conv => whnf) | (refine W.exit ?_; conv => whnf) | (refine W.condF rfl ?_) | (refine ⟨false, decide_eq_false (by omega), ?_⟩; conv => whnf) | (refine ⟨rfl, ?_⟩; conv => whnf))
    rw [show l.take k = l by rw [List.take_of_length_le (by omega)]]
    rfl
theorem f175_177 (J : Keep) {b : Int → Bool} (hf : ∀ c, C J 177 [.int .i64 c] (.bool (b c))) {l : List Rat} (hl : l.length < 2 ^ 60) (hq : ∀ x ∈ l, qln x < 2 ^ 38) : C J 175 [.fn 177, .sl (l.map qr)] (qr (chooseL b l)) := by
  refine fn_ok Tryz.func175 rfl rfl rfl ?_
  have lm : (l.map qr).length = l.length := by simp
  repeat (first | (refine W.RS (by kernel_rfl) ?_; conv => whnf) | (refine W.S ?_) | (refine W.block ?_) | (refine ⟨_, rfl, ?_⟩; conv => whnf))
  refine W.loop (G := { k : Nat // k ≤ l.length }) (fun k => mkA [(0, .iv (.fn 177)), (4, .ptr 0 0), (5, .ptr 1 0), (8, .iv (.sl (l.map qr))), (9, .iv (.int .i64 (l.length : Nat))), (10, .iv (.int .i64 (k.1 : Nat)))] [(0, .var (.agg [.sl [], .bool false, .sl []])), (1, .var (qr (chooseL b (l.take k.1))))] 40) (fun k => l.length - k.1) ⟨0, Nat.zero_le _⟩
    (Wk.tab [] ⟨⟨rfl, rfl⟩, ⟨rfl, rfl⟩, ⟨rfl, rfl⟩, ⟨rfl, rfl⟩, ⟨ivEq (by rw [lm]), rfl⟩, ⟨rfl, rfl⟩, trivial⟩ ⟨rfl, varE (by dsimp only; rw [List.take_zero]; exact dg_zero_qr.symm), trivial⟩ rfl) ?_
  rintro ⟨k, hk⟩
  show W J _ _ (mkA [(0, .iv (.fn 177)), (4, .ptr 0 0), (5, .ptr 1 0), (8, .iv (.sl (l.map qr))), (9, .iv (.int .i64 (l.length : Nat))), (10, .iv (.int .i64 (k : Nat)))] [(0, .var (.agg [.sl [], .bool false, .sl []])), (1, .var (qr (chooseL b (l.take k))))] 40) _
  by_cases h : k < l.length
  · have hg := getq (f := qr) h
    have hx := hq _ (getD_mem h)
    have hs := chooseL_snoc b (l.take k) (l.getD k 0)
    rw [← take_snoc h] at hs
    have hm : qln (chooseL b (l.take k)) < 2 ^ 38 := chooseL_all b (P := fun x => qln x < 2 ^ 38) (by have := qln_zero; omega) (fun x hx => hq x (take_mem hx))
    obtain ⟨x, hxe⟩ : ∃ x, l.getD k 0 = x := ⟨_, rfl⟩
    obtain ⟨m, hme⟩ : ∃ m, chooseL b (l.take k) = m := ⟨_, rfl⟩
    rw [hxe] at hg hx hs
    rw [hme] at hm hs
    rw [hme]
    have c1 := f37_ok (J := J) hx hm
    have c2 := hf (cmpR x m)
    by_cases h0 : k = 0
    · subst h0
      rw [if_pos (by simp)] at hs
      repeat (first | (refine W.RS (by kernel_rfl) ?_; conv => whnf) | (refine W.R (by kernel_rfl) ?_; conv => whnf) | (refine W.S ?_) | (refine W.block ?_) | (refine W.skip ?_; conv => whnf) | (refine W.condT rfl ?_) | (refine ⟨0, _, rfl, hg, rfl, ?_⟩; conv => whnf) | (refine ⟨rfl, _, w64 (by omega), ?_⟩; conv => whnf) | (refine ⟨true, decide_eq_true (by omega), ?_⟩; conv => whnf) | (refine ⟨rfl, ?_⟩; conv => whnf) | (refine ⟨_, fun _ => rfl, fun h => absurd h.symm Bool.false_ne_true, ?_⟩; conv => whnf))
      exact ⟨⟨0 + 1, by omega⟩, Wk.tab [] ⟨⟨rfl, rfl⟩, ⟨rfl, rfl⟩, ⟨rfl, rfl⟩, ⟨rfl, rfl⟩, ⟨rfl, rfl⟩, ⟨rfl, rfl⟩, trivial⟩ ⟨rfl, varQ hs.symm, trivial⟩ rfl, by dsimp only; omega⟩
    · rw [if_neg (take_ne h0 h)] at hs
      by_cases hb : b (cmpR x m) = true
      · rw [if_pos hb] at hs
        rw [hb] at c2
        repeat (first | (refine W.RS (by kernel_rfl) ?_; conv => whnf) | (refine W.R (by kernel_rfl) ?_; conv => whnf) | (refine W.S ?_) | (refine W.block ?_) | (refine W.skip ?_; conv => whnf) | (refine W.condT rfl ?_) | (refine ⟨_, c1, ?_⟩; conv => whnf) | (refine ⟨_, c2, ?_⟩; conv => whnf) | (refine ⟨k, _, rfl, hg, rfl, ?_⟩; conv => whnf) | (refine ⟨rfl, _, w64 (by omega), ?_⟩; conv => whnf) | (refine ⟨true, decide_eq_true (by omega), ?_⟩; conv => whnf) | (refine ⟨false, decide_eq_false (by omega), ?_⟩; conv => whnf) | (refine ⟨rfl, ?_⟩; conv => whnf) | (refine ⟨_, fun h => absurd h Bool.false_ne_true, fun _ => rfl, ?_⟩; conv => whnf))
        exact ⟨⟨k + 1, by omega⟩, Wk.tab [] ⟨⟨rfl, rfl⟩, ⟨rfl, rfl⟩, ⟨rfl, rfl⟩, ⟨rfl, rfl⟩, ⟨rfl, rfl⟩, ⟨rfl, rfl⟩, trivial⟩ ⟨rfl, varQ hs.symm, trivial⟩ rfl, by dsimp only; omega⟩
      · rw [if_neg hb] at hs
        rw [Bool.not_eq_true] at hb
        rw [hb] at c2
        repeat (first | (refine W.RS (by kernel_rfl) ?_; conv => whnf) | (refine W.R (by kernel_rfl) ?_; conv => whnf) | (refine W.S ?_) | (refine W.block ?_) | (refine W.skip ?_; conv => whnf) | (refine W.condF rfl ?_) | (refine W.condT rfl ?_) | (refine ⟨_, c1, ?_⟩; conv => whnf) | (refine ⟨_, c2, ?_⟩; conv => whnf) | (refine ⟨k, _, rfl, hg, rfl, ?_⟩; conv => whnf) | (refine ⟨rfl, _, w64 (by omega), ?_⟩; conv => whnf) | (refine ⟨true, decide_eq_true (by omega), ?_⟩; conv => whnf) | (refine ⟨false, decide_eq_false (by omega), ?_⟩; conv => whnf) | (refine ⟨rfl, ?_⟩; conv => whnf) | (refine ⟨_, fun h => absurd h Bool.false_ne_true, fun _ => rfl, ?_⟩; conv => whnf))
        exact ⟨⟨k + 1, by omega⟩, Wk.tab [] ⟨⟨rfl, rfl⟩, ⟨rfl, rfl⟩, ⟨rfl, rfl⟩, ⟨rfl, rfl⟩, ⟨rfl, rfl⟩, ⟨rfl, rfl⟩, trivial⟩ ⟨rfl, varQ hs.symm, trivial⟩ rfl, by dsimp only; omega⟩
  · repeat (first | (refine W.RS (by kernel_rfl) ?_; conv => whnf) | (refine W.S ?_) | (refine W.ret ?_; conv => whnf) | (refine W.exit ?_; conv => whnf) | (refine W.condF rfl ?_) | (refine ⟨false, decide_eq_false (by omega), ?_⟩; conv => whnf) | (refine ⟨rfl, ?_⟩; conv => whnf))
    rw [show l.take k = l by rw [List.take_of_length_le (by omega)]]
    rfl
def minL : List Rat → Rat := chooseL fun c => decide (c < 0)
def maxL : List Rat → Rat := chooseL fun c => decide (c > 0)
theorem f70_ok (J : Keep) {l : List Rat} (hl : l.length < 2 ^ 60) (hq : ∀ x ∈ l, qln x < 2 ^ 38) : C J 70 [.sl (l.map qr)] (qr (minL l)) := by
  refine fn_ok Tryz.func70 rfl rfl rfl ?_
  repeat (first | (refine W.RS (by kernel_rfl) ?_; conv => whnf) | (refine W.ret ?_; conv => whnf) | (refine ⟨_, f175_176 J (f176_ok J) hl hq, ?_⟩; conv => whnf))
  rfl
theorem f71_ok (J : Keep) {l : List Rat} (hl : l.length < 2 ^ 60) (hq : ∀ x ∈ l, qln x < 2 ^ 38) : C J 71 [.sl (l.map qr)] (qr (maxL l)) := by
  refine fn_ok Tryz.func71 rfl rfl rfl ?_
  repeat (first | (refine W.RS (by kernel_rfl) ?_; conv => whnf) | (refine W.ret ?_; conv => whnf) | (refine ⟨_, f175_177 J (f177_ok J) hl hq, ?_⟩; conv => whnf))
  rfl
end Go.Proofs.Fl
namespace Go.Proofs.Fl
open Go.RowKit Go.Proofs.Dig
attribute [local irreducible] IntKind.wrap PureC MutC MakC IterC
def vx (e : Option Rat) : Rat := e.getD 0
def dx1 : Option Rat → IV
  | none => .int .i64 0
  | some _ => .int .i64 1
noncomputable def dx2 : Option Rat → IV
  | none => .sl []
  | some q => .sl ((dh q.den).map d64)
noncomputable abbrev rx (e : Option Rat) : IV := rqd (vx e) (dx1 e) (dx2 e)
theorem rx_ok : ∀ (e : Option Rat), DOk (vx e) (dx1 e) (dx2 e)
  | none => DOk.zero
  | some q => DOk.rr q
theorem f27_x (J : Keep) {a b : Option Rat} (ha : rl (vx a) < 2 ^ 34) (hb : rl (vx b) < 2 ^ 34) : C J 27 [rx a, rx b] (.int .i64 (cmpR (vx a) (vx b))) := by
  exact f27_ok J (rx_ok a) (rx_ok b) ha hb
def chooseE (b : Int → Bool) : List (Option Rat) → Option Rat
  | [] => none
  | x :: l => l.foldl (fun m y => if b (cmpR (vx y) (vx m)) then y else m) x
theorem chooseE_snoc (b : Int → Bool) (l : List (Option Rat)) (y : Option Rat) : chooseE b (l ++ [y]) = if l = [] then y else if b (cmpR (vx y) (vx (chooseE b l))) then y else chooseE b l := by
  cases l with
  | nil => rfl
  | cons x l =>
    rw [if_neg (by simp)]
    show (l ++ [y]).foldl _ x = _
    rw [List.foldl_append]; rfl
theorem chooseE_val (b : Int → Bool) (l : List (Option Rat)) : vx (chooseE b l) = chooseL b (l.map vx) := by
  cases l with
  | nil => rfl
  | cons x l =>
    show vx (l.foldl _ x) = (l.map vx).foldl _ (vx x)
    induction l generalizing x with
    | nil => rfl
    | cons y l ih =>
      simp only [List.foldl_cons, List.map_cons]
      rw [ih]
      congr 1
      split <;> rfl
theorem chooseE_some (b : Int → Bool) : ∀ (l : List Rat), l ≠ [] → chooseE b (l.map some) = some (chooseL b l)
  | [], h => absurd rfl h
  | x :: l, _ => by
    show (l.map some).foldl _ (some x) = some (l.foldl _ x)
    induction l generalizing x with
    | nil => rfl
    | cons y l ih =>
      simp only [List.foldl_cons, List.map_cons]
      rw [← ih _ (by simp)]
      congr 1
      show (if b (cmpR y x) = true then some y else some x) = _
      split <;> rfl
theorem getx {l : List (Option Rat)} {k : Nat} (h : k < l.length) : (l.map rx)[k]? = some (rx (l.getD k none)) := by simp [h]
theorem takex_snoc {l : List (Option Rat)} {k : Nat} (h : k < l.length) : l.take (k + 1) = l.take k ++ [l.getD k none] := by
  rw [List.take_add_one, List.getElem?_eq_getElem h]
  simp [List.getD, h]
theorem getDx_mem {l : List (Option Rat)} {k : Nat} (h : k < l.length) : l.getD k none ∈ l := by simp [List.getD, h]
theorem takex_ne {l : List (Option Rat)} {k : Nat} (h0 : ¬ k = 0) (h : k < l.length) : ¬ l.take k = [] := by
  intro e
  have := congrArg List.length e
  rw [List.length_take, List.length_nil] at this
  omega
theorem varX {x y : Option Rat} (h : x = y) : some (Bx.var (rx x)) = some (Bx.var (rx y)) := by rw [h]
theorem rl_zero : rl 0 ≤ 1 := by
  show lh 0 + lh 1 ≤ 1
  have h0 : lh 0 ≤ 0 := lh_le (by decide)
  have := lh_one
  omega
theorem chooseE_all {P : Rat → Prop} (b : Int → Bool) {l : List (Option Rat)} (h0 : P 0) (h : ∀ x ∈ l, P (vx x)) : P (vx (chooseE b l)) := by
  rw [chooseE_val]
  exact chooseL_all b h0 (fun x hx => by obtain ⟨e, he, rfl⟩ := List.mem_map.1 hx; exact h e he)
theorem f73_ok (J : Keep) {l : List (Option Rat)} (hl : l.length < 2 ^ 60) (hq : ∀ x ∈ l, rl (vx x) < 2 ^ 34) : C J 73 [.sl (l.map rx)] (rx (chooseE (fun c => decide (c < 0)) l)) := by
  refine fn_ok Tryz.func73 rfl rfl rfl ?_
  have lm : (l.map rx).length = l.length := by simp
  generalize hbe : (fun c : Int => decide (c < 0)) = b
  have hb0 : ∀ c : Int, b c = decide (c < 0) := fun c => by rw [← hbe]
  repeat (first | (refine W.RS (by kernel_rfl) ?_; conv => whnf) | (refine W.S ?_) | (refine W.block ?_))
  refine W.loop (G := { k : Nat // k ≤ l.length }) (fun k => mkA [(0, .iv (.sl (l.map rx))), (2, .ptr 0 0), (3, .ptr 1 0), (4, .iv (.int .i64 (k.1 : Nat)))] [(0, .var (.agg [.int .i64 0, .sl [], .int .i64 0, .sl []])), (1, .var (rx (chooseE b (l.take k.1))))] 40) (fun k => l.length - k.1) ⟨0, Nat.zero_le _⟩
    (Wk.tab [] ⟨⟨rfl, rfl⟩, ⟨rfl, rfl⟩, ⟨rfl, rfl⟩, ⟨rfl, rfl⟩, trivial⟩ ⟨rfl, varE (by dsimp only; rw [List.take_zero]; exact rq_zero.symm), trivial⟩ rfl) ?_
  rintro ⟨k, hk⟩
  show W J _ _ (mkA [(0, .iv (.sl (l.map rx))), (2, .ptr 0 0), (3, .ptr 1 0), (4, .iv (.int .i64 (k : Nat)))] [(0, .var (.agg [.int .i64 0, .sl [], .int .i64 0, .sl []])), (1, .var (rx (chooseE b (l.take k))))] 40) _
  by_cases h : k < l.length
  · have hg := getx h
    have hx := hq _ (getDx_mem h)
    have hs := chooseE_snoc b (l.take k) (l.getD k none)
    rw [← takex_snoc h] at hs
    have hm : rl (vx (chooseE b (l.take k))) < 2 ^ 34 := chooseE_all b (P := fun x => rl x < 2 ^ 34) (by have := rl_zero; omega) (fun x hx => hq x (List.mem_of_mem_take hx))
    obtain ⟨x, hxe⟩ : ∃ x, l.getD k none = x := ⟨_, rfl⟩
    obtain ⟨m, hme⟩ : ∃ m, chooseE b (l.take k) = m := ⟨_, rfl⟩
    rw [hxe] at hg hx hs
    rw [hme] at hm hs
    rw [hme]
    have c1 := f27_x J hx hm
    rw [hb0] at hs
    obtain ⟨c, hc⟩ : ∃ c, cmpR (vx x) (vx m) = c := ⟨_, rfl⟩
    rw [hc] at hs c1
    by_cases h0 : k = 0
    · subst h0
      rw [if_pos (by simp)] at hs
      repeat (first | (refine W.RS (by kernel_rfl) ?_; conv => whnf) | (refine W.R (by kernel_rfl) ?_; conv => whnf) | (refine W.S ?_) | (refine W.block ?_) | (refine W.skip ?_; conv => whnf) | (refine W.condT rfl ?_) | (refine ⟨0, _, rfl, hg, rfl, ?_⟩; conv => whnf) | (refine ⟨rfl, _, w64 (by omega), ?_⟩; conv => whnf) | (refine ⟨true, decide_eq_true (by omega), ?_⟩; conv => whnf) | (refine ⟨_, rfl, ?_⟩; conv => whnf) | (refine ⟨rfl, ?_⟩; conv => whnf) | (refine ⟨_, fun _ => rfl, fun h => absurd h.symm Bool.false_ne_true, ?_⟩; conv => whnf))
      exact ⟨⟨0 + 1, by omega⟩, Wk.tab [] ⟨⟨rfl, rfl⟩, ⟨rfl, rfl⟩, ⟨rfl, rfl⟩, ⟨rfl, rfl⟩, trivial⟩ ⟨rfl, varX hs.symm, trivial⟩ rfl, by dsimp only; omega⟩
    · rw [if_neg (takex_ne h0 h)] at hs
      by_cases hb : c < 0
      · rw [if_pos (by simpa using hb)] at hs
        repeat (first | (refine W.RS (by kernel_rfl) ?_; conv => whnf) | (refine W.R (by kernel_rfl) ?_; conv => whnf) | (refine W.S ?_) | (refine W.block ?_) | (refine W.skip ?_; conv => whnf) | (refine W.condT rfl ?_) | (refine ⟨_, c1, ?_⟩; conv => whnf) | (refine ⟨k, _, rfl, hg, rfl, ?_⟩; conv => whnf) | (refine ⟨rfl, _, w64 (by omega), ?_⟩; conv => whnf) | (refine ⟨true, decide_eq_true (by omega), ?_⟩; conv => whnf) | (refine ⟨false, decide_eq_false (by omega), ?_⟩; conv => whnf) | (refine ⟨_, rfl, ?_⟩; conv => whnf) | (refine ⟨rfl, ?_⟩; conv => whnf) | (refine ⟨_, fun h => absurd h Bool.false_ne_true, fun _ => rfl, ?_⟩; conv => whnf))
        exact ⟨⟨k + 1, by omega⟩, Wk.tab [] ⟨⟨rfl, rfl⟩, ⟨rfl, rfl⟩, ⟨rfl, rfl⟩, ⟨rfl, rfl⟩, trivial⟩ ⟨rfl, varX hs.symm, trivial⟩ rfl, by dsimp only; omega⟩
      · rw [if_neg (by simpa using hb)] at hs
        repeat (first | (refine W.RS (by kernel_rfl) ?_; conv => whnf) | (refine W.R (by kernel_rfl) ?_; conv => whnf) | (refine W.S ?_) | (refine W.block ?_) | (refine W.skip ?_; conv => whnf) | (refine W.condF rfl ?_) | (refine W.condT rfl ?_) | (refine ⟨_, c1, ?_⟩; conv => whnf) | (refine ⟨k, _, rfl, hg, rfl, ?_⟩; conv => whnf) | (refine ⟨rfl, _, w64 (by omega), ?_⟩; conv => whnf) | (refine ⟨true, decide_eq_true (by omega), ?_⟩; conv => whnf) | (refine ⟨false, decide_eq_false (by omega), ?_⟩; conv => whnf) | (refine ⟨_, rfl, ?_⟩; conv => whnf) | (refine ⟨rfl, ?_⟩; conv => whnf) | (refine ⟨_, fun h => absurd h Bool.false_ne_true, fun _ => rfl, ?_⟩; conv => whnf))
        exact ⟨⟨k + 1, by omega⟩, Wk.tab [] ⟨⟨rfl, rfl⟩, ⟨rfl, rfl⟩, ⟨rfl, rfl⟩, ⟨rfl, rfl⟩, trivial⟩ ⟨rfl, varX hs.symm, trivial⟩ rfl, by dsimp only; omega⟩
  · repeat (first | (refine W.RS (by kernel_rfl) ?_; conv => whnf) | (refine W.S ?_) | (refine W.ret ?_; conv => whnf) | (refine W.exit ?_; conv => whnf) | (refine W.condF rfl ?_) | (refine ⟨false, decide_eq_false (by omega), ?_⟩; conv => whnf) | (refine ⟨_, rfl, ?_⟩; conv => whnf) | (refine ⟨rfl, ?_⟩; conv => whnf))
    rw [show l.take k = l by rw [List.take_of_length_le (by omega)]]
    rfl
theorem f74_ok (J : Keep) {l : List (Option Rat)} (hl : l.length < 2 ^ 60) (hq : ∀ x ∈ l, rl (vx x) < 2 ^ 34) : C J 74 [.sl (l.map rx)] (rx (chooseE (fun c => decide (c > 0)) l)) := by
  refine fn_ok Tryz.func74 rfl rfl rfl ?_
  have lm : (l.map rx).length = l.length := by simp
  generalize hbe : (fun c : Int => decide (c > 0)) = b
  have hb0 : ∀ c : Int, b c = decide (c > 0) := fun c => by rw [← hbe]
  repeat (first | (refine W.RS (by kernel_rfl) ?_; conv => whnf) | (refine W.S ?_) | (refine W.block ?_))
  refine W.loop (G := { k : Nat // k ≤ l.length }) (fun k => mkA [(0, .iv (.sl (l.map rx))), (2, .ptr 0 0), (3, .ptr 1 0), (4, .iv (.int .i64 (k.1 : Nat)))] [(0, .var (.agg [.int .i64 0, .sl [], .int .i64 0, .sl []])), (1, .var (rx (chooseE b (l.take k.1))))] 40) (fun k => l.length - k.1) ⟨0, Nat.zero_le _⟩
    (Wk.tab [] ⟨⟨rfl, rfl⟩, ⟨rfl, rfl⟩, ⟨rfl, rfl⟩, ⟨rfl, rfl⟩, trivial⟩ ⟨rfl, varE (by dsimp only; rw [List.take_zero]; exact rq_zero.symm), trivial⟩ rfl) ?_
  rintro ⟨k, hk⟩
  show W J _ _ (mkA [(0, .iv (.sl (l.map rx))), (2, .ptr 0 0), (3, .ptr 1 0), (4, .iv (.int .i64 (k : Nat)))] [(0, .var (.agg [.int .i64 0, .sl [], .int .i64 0, .sl []])), (1, .var (rx (chooseE b (l.take k))))] 40) _
  by_cases h : k < l.length
  · have hg := getx h
    have hx := hq _ (getDx_mem h)
    have hs := chooseE_snoc b (l.take k) (l.getD k none)
    rw [← takex_snoc h] at hs
    have hm : rl (vx (chooseE b (l.take k))) < 2 ^ 34 := chooseE_all b (P := fun x => rl x < 2 ^ 34) (by have := rl_zero; omega) (fun x hx => hq x (List.mem_of_mem_take hx))
    obtain ⟨x, hxe⟩ : ∃ x, l.getD k none = x := ⟨_, rfl⟩
    obtain ⟨m, hme⟩ : ∃ m, chooseE b (l.take k) = m := ⟨_, rfl⟩
    rw [hxe] at hg hx hs
    rw [hme] at hm hs
    rw [hme]
    have c1 := f27_x J hx hm
    rw [hb0] at hs
    obtain ⟨c, hc⟩ : ∃ c, cmpR (vx x) (vx m) = c := ⟨_, rfl⟩
    rw [hc] at hs c1
    by_cases h0 : k = 0
    · subst h0
      rw [if_pos (by simp)] at hs
      repeat (first | (refine W.RS (by kernel_rfl) ?_; conv => whnf) | (refine W.R (by kernel_rfl) ?_; conv => whnf) | (refine W.S ?_) | (refine W.block ?_) | (refine W.skip ?_; conv => whnf) | (refine W.condT rfl ?_) | (refine ⟨0, _, rfl, hg, rfl, ?_⟩; conv => whnf) | (refine ⟨rfl, _, w64 (by omega), ?_⟩; conv => whnf) | (refine ⟨true, decide_eq_true (by omega), ?_⟩; conv => whnf) | (refine ⟨_, rfl, ?_⟩; conv => whnf) | (refine ⟨rfl, ?_⟩; conv => whnf) | (refine ⟨_, fun _ => rfl, fun h => absurd h.symm Bool.false_ne_true, ?_⟩; conv => whnf))
      exact ⟨⟨0 + 1, by omega⟩, Wk.tab [] ⟨⟨rfl, rfl⟩, ⟨rfl, rfl⟩, ⟨rfl, rfl⟩, ⟨rfl, rfl⟩, trivial⟩ ⟨rfl, varX hs.symm, trivial⟩ rfl, by dsimp only; omega⟩
    · rw [if_neg (takex_ne h0 h)] at hs
      by_cases hb : c > 0
      · rw [if_pos (by simpa using hb)] at hs
        repeat (first | (refine W.RS (by kernel_rfl) ?_; conv => whnf) | (refine W.R (by kernel_rfl) ?_; conv => whnf) | (refine W.S ?_) | (refine W.block ?_) | (refine W.skip ?_; conv => whnf) | (refine W.condT rfl ?_) | (refine ⟨_, c1, ?_⟩; conv => whnf) | (refine ⟨k, _, rfl, hg, rfl, ?_⟩; conv => whnf) | (refine ⟨rfl, _, w64 (by omega), ?_⟩; conv => whnf) | (refine ⟨true, decide_eq_true (by omega), ?_⟩; conv => whnf) | (refine ⟨false, decide_eq_false (by omega), ?_⟩; conv => whnf) | (refine ⟨_, rfl, ?_⟩; conv => whnf) | (refine ⟨rfl, ?_⟩; conv => whnf) | (refine ⟨_, fun h => absurd h Bool.false_ne_true, fun _ => rfl, ?_⟩; conv => whnf))
        exact ⟨⟨k + 1, by omega⟩, Wk.tab [] ⟨⟨rfl, rfl⟩, ⟨rfl, rfl⟩, ⟨rfl, rfl⟩, ⟨rfl, rfl⟩, trivial⟩ ⟨rfl, varX hs.symm, trivial⟩ rfl, by dsimp only; omega⟩
      · rw [if_neg (by simpa using hb)] at hs
        repeat (first | (refine W.RS (by kernel_rfl) ?_; conv => whnf) | (refine W.R (by kernel_rfl) ?_; conv => whnf) | (refine W.S ?_) | (refine W.block ?_) | (refine W.skip ?_; conv => whnf) | (refine W.condF rfl ?_) | (refine W.condT rfl ?_) | (refine ⟨_, c1, ?_⟩; conv => whnf) | (refine ⟨k, _, rfl, hg, rfl, ?_⟩; conv => whnf) | (refine ⟨rfl, _, w64 (by omega), ?_⟩; conv => whnf) | (refine ⟨true, decide_eq_true (by omega), ?_⟩; conv => whnf) | (refine ⟨false, decide_eq_false (by omega), ?_⟩; conv => whnf) | (refine ⟨_, rfl, ?_⟩; conv => whnf) | (refine ⟨rfl, ?_⟩; conv => whnf) | (refine ⟨_, fun h => absurd h Bool.false_ne_true, fun _ => rfl, ?_⟩; conv => whnf))
        exact ⟨⟨k + 1, by omega⟩, Wk.tab [] ⟨⟨rfl, rfl⟩, ⟨rfl, rfl⟩, ⟨rfl, rfl⟩, ⟨rfl, rfl⟩, trivial⟩ ⟨rfl, varX hs.symm, trivial⟩ rfl, by dsimp only; omega⟩
  · repeat (first | (refine W.RS (by kernel_rfl) ?_; conv => whnf) | (refine W.S ?_) | (refine W.ret ?_; conv => whnf) | (refine W.exit ?_; conv => whnf) | (refine W.condF rfl ?_) | (refine ⟨false, decide_eq_false (by omega), ?_⟩; conv => whnf) | (refine ⟨_, rfl, ?_⟩; conv => whnf) | (refine ⟨rfl, ?_⟩; conv => whnf))
    rw [show l.take k = l by rw [List.take_of_length_le (by omega)]]
    rfl
end Go.Proofs.Fl
namespace Go.Proofs.Fl
open Go.RowKit Go.Proofs.Dig
attribute [local irreducible] IntKind.wrap PureC MutC MakC IterC
theorem ln_lh (n : Nat) : ln n ≤ lh n := ln_le (Nat.lt_of_lt_of_le (lt_lh n) (Nat.pow_le_pow_left (by decide) _))
theorem qln_rl (q : Rat) : qln q ≤ rl q := by
  unfold qln rl
  have h1 := ln_lh q.num.natAbs
  have h2 := ln_lh q.den
  omega
end Go.Proofs.Fl
namespace Go.Proofs.Fl
open Go.RowKit Go.Proofs.Dig
attribute [local irreducible] IntKind.wrap PureC MutC MakC IterC
theorem dg_low {n : Nat} (h : n ≠ 0) : 0 < (dg n).length ∧ (dg n).getD 0 0 % 2 = n % 2 := by
  have h1 : dg n ≠ [] := fun e => h (dg_nil_iff.1 e)
  refine ⟨List.length_pos_iff.2 h1, ?_⟩
  obtain ⟨d, l, e⟩ : ∃ d l, dg n = d :: l := by
    cases hd : dg n with
    | nil => exact absurd hd h1
    | cons d l => exact ⟨d, l, rfl⟩
  have h2 := dg_nv n
  rw [e, nv_cons] at h2
  rw [e]
  show d % 2 = n % 2
  have h3 : B9 = 1000000000 := rfl
  rw [h3] at h2
  omega
theorem qln_i (z : Int) : qln (z : Rat) ≤ ln z.natAbs + 1 := by
  show ln z.natAbs + ln 1 ≤ _
  rw [ln_one]; omega
theorem ln_floor {q : Rat} : ln q.floor.natAbs ≤ ln q.num.natAbs := by
  rw [Rat.floor_def]
  exact ln_mono (Int.natAbs_ediv_le_natAbs q.num (q.den : Int))
set_option maxHeartbeats 4000000 in
theorem f156_ok {J : Keep} (B : Base J) {a : Rat} (ha : qln a < 2 ^ 30) : C J 156 [qr a] (qr ((nearI a : Int) : Rat)) := by
  have hq := ha
  unfold qln at hq
  have lf := ln_floor (q := a)
  have lf2 := qln_i a.floor
  have c1 := f86_ok (J := J) (q := a) (by omega)
  have c2 := f50_ok B (a := a) (b := ((a.floor : Int) : Rat)) (by omega) (by omega)
  have s1 := qln_add a (-((a.floor : Int) : Rat))
  rw [← Rat.sub_eq_add_neg] at s1
  have s2 : qln (-((a.floor : Int) : Rat)) = qln ((a.floor : Int) : Rat) := by unfold qln; rw [Rat.neg_num, Int.natAbs_neg, Rat.neg_den]
  rw [s2] at s1
  have c3 := f46_ok B 1
  rw [show (2 ^ intoN 1 256 : Nat) = 2 from rfl] at c3
  have s3 := qln_ratio (z := 1) (d := 2) (by decide)
  have s4 : ln (1 : Int).natAbs ≤ 1 := ln_le (by decide)
  have s5 : ln 2 ≤ 1 := ln_le (by decide)
  have c4 := f37_ok (J := J) (a := a - ((a.floor : Int) : Rat)) (b := mkRat 1 2) (by omega) (by omega)
  have hnc := near_c a
  have hcr := cmpR_range (a - ((a.floor : Int) : Rat)) (mkRat 1 2)
  have hlow := @dg_low a.floor.natAbs
  have c5 := f163_ok J ((dg a.floor.natAbs).map u32)
  have c6 := f61_ok J (n := 1) (by omega) (by omega)
  have c7 := f48_ok B (a := ((a.floor : Int) : Rat)) (b := ((1 : Int) : Rat)) (by omega) (by show ln 1 + ln 1 < _; rw [ln_one]; omega)
  rw [← Rat.intCast_add] at c7
  obtain ⟨c, hc⟩ : ∃ c, cmpR (a - ((a.floor : Int) : Rat)) (mkRat 1 2) = c := ⟨_, rfl⟩
  rw [hc] at hnc c4 hcr
  obtain ⟨F, hF⟩ : ∃ F, a.floor = F := ⟨_, rfl⟩
  simp only [hF] at hnc c1 c2 c4 c5 c7 hlow
  have lm : ((dg F.natAbs).map u32).length = (dg F.natAbs).length := by simp
  refine fn_ok Tryz.func156 rfl rfl rfl ?_
  by_cases h0 : F = 0
  · have e0 : (dg F.natAbs).length = 0 := by rw [h0]; show (dg 0).length = 0; rw [dg_zero]; rfl
    rw [show ((((dg F.natAbs).map u32).length : Int) == 0) = true by rw [beq_iff_eq]; omega] at c5
    by_cases h1 : c > 0
    · rw [if_neg (by omega)] at hnc
      rw [hnc]
      repeat (first | (refine W.RS (by kernel_rfl) ?_; conv => whnf) | (refine W.S ?_) | (refine W.ret ?_; conv => whnf) | (refine W.condT rfl ?_) | (refine ⟨_, c1, ?_⟩; conv => whnf) | (refine ⟨_, c2, ?_⟩; conv => whnf) | (refine ⟨_, c3, ?_⟩; conv => whnf) | (refine ⟨_, c4, ?_⟩; conv => whnf) | (refine ⟨_, c5, ?_⟩; conv => whnf) | (refine ⟨_, c6, ?_⟩; conv => whnf) | (refine ⟨_, c7, ?_⟩; conv => whnf) | (refine ⟨true, decide_eq_true (by omega), ?_⟩; conv => whnf) | (refine ⟨_, rfl, ?_⟩; conv => whnf) | (refine ⟨rfl, ?_⟩; conv => whnf) | (refine ⟨_, fun h => absurd h Bool.false_ne_true, fun _ => rfl, ?_⟩; conv => whnf) | (refine ⟨_, fun _ => rfl, fun h => absurd h.symm Bool.false_ne_true, ?_⟩; conv => whnf))
      rfl
    · rw [if_pos (by omega)] at hnc
      rw [hnc]
      by_cases h2 : c = 0
      · repeat (first | (refine W.RS (by kernel_rfl) ?_; conv => whnf) | (refine W.S ?_) | (refine W.ret ?_; conv => whnf) | (refine W.skip ?_; conv => whnf) | (refine W.condF rfl ?_) | (refine ⟨_, c1, ?_⟩; conv => whnf) | (refine ⟨_, c2, ?_⟩; conv => whnf) | (refine ⟨_, c3, ?_⟩; conv => whnf) | (refine ⟨_, c4, ?_⟩; conv => whnf) | (refine ⟨_, c5, ?_⟩; conv => whnf) | (refine ⟨true, decide_eq_true (by omega), ?_⟩; conv => whnf) | (refine ⟨false, decide_eq_false (by omega), ?_⟩; conv => whnf) | (refine ⟨_, rfl, ?_⟩; conv => whnf) | (refine ⟨rfl, ?_⟩; conv => whnf) | (refine ⟨_, fun h => absurd h Bool.false_ne_true, fun _ => rfl, ?_⟩; conv => whnf) | (refine ⟨_, fun _ => rfl, fun h => absurd h.symm Bool.false_ne_true, ?_⟩; conv => whnf))
        rfl
      · repeat (first | (refine W.RS (by kernel_rfl) ?_; conv => whnf) | (refine W.S ?_) | (refine W.ret ?_; conv => whnf) | (refine W.skip ?_; conv => whnf) | (refine W.condF rfl ?_) | (refine ⟨_, c1, ?_⟩; conv => whnf) | (refine ⟨_, c2, ?_⟩; conv => whnf) | (refine ⟨_, c3, ?_⟩; conv => whnf) | (refine ⟨_, c4, ?_⟩; conv => whnf) | (refine ⟨_, c5, ?_⟩; conv => whnf) | (refine ⟨false, decide_eq_false (by omega), ?_⟩; conv => whnf) | (refine ⟨_, rfl, ?_⟩; conv => whnf) | (refine ⟨rfl, ?_⟩; conv => whnf) | (refine ⟨_, fun h => absurd h Bool.false_ne_true, fun _ => rfl, ?_⟩; conv => whnf))
        rfl
  · obtain ⟨e0, e1⟩ := hlow (by omega)
    rw [show ((((dg F.natAbs).map u32).length : Int) == 0) = false by rw [beq_eq_false_iff_ne]; omega] at c5
    have hm : (((dg F.natAbs).getD 0 0 : Nat) : Int).tmod 2 = (((dg F.natAbs).getD 0 0 % 2 : Nat) : Int) := tmodN _ 2
    have hg := getu (l := dg F.natAbs) e0
    by_cases hp : F % 2 = 0
    · by_cases h1 : c > 0
      · rw [if_neg (by omega)] at hnc
        rw [hnc]
        repeat (first | (refine W.RS (by kernel_rfl) ?_; conv => whnf) | (refine W.S ?_) | (refine W.ret ?_; conv => whnf) | (refine W.condT rfl ?_) | (refine ⟨_, c1, ?_⟩; conv => whnf) | (refine ⟨_, c2, ?_⟩; conv => whnf) | (refine ⟨_, c3, ?_⟩; conv => whnf) | (refine ⟨_, c4, ?_⟩; conv => whnf) | (refine ⟨_, c5, ?_⟩; conv => whnf) | (refine ⟨_, c6, ?_⟩; conv => whnf) | (refine ⟨_, c7, ?_⟩; conv => whnf) | (refine ⟨by omega, _, hm, ?_⟩; conv => whnf) | (refine ⟨0, _, rfl, hg, rfl, ?_⟩; conv => whnf) | (refine ⟨true, decide_eq_true (by omega), ?_⟩; conv => whnf) | (refine ⟨false, decide_eq_false (by omega), ?_⟩; conv => whnf) | (refine ⟨_, rfl, ?_⟩; conv => whnf) | (refine ⟨rfl, ?_⟩; conv => whnf) | (refine ⟨_, fun _ => rfl, fun h => absurd h.symm Bool.false_ne_true, ?_⟩; conv => whnf))
        rfl
      · rw [if_pos (by omega)] at hnc
        rw [hnc]
        by_cases h2 : c = 0
        · repeat (first | (refine W.RS (by kernel_rfl) ?_; conv => whnf) | (refine W.S ?_) | (refine W.ret ?_; conv => whnf) | (refine W.skip ?_; conv => whnf) | (refine W.condF rfl ?_) | (refine ⟨_, c1, ?_⟩; conv => whnf) | (refine ⟨_, c2, ?_⟩; conv => whnf) | (refine ⟨_, c3, ?_⟩; conv => whnf) | (refine ⟨_, c4, ?_⟩; conv => whnf) | (refine ⟨_, c5, ?_⟩; conv => whnf) | (refine ⟨by omega, _, hm, ?_⟩; conv => whnf) | (refine ⟨0, _, rfl, hg, rfl, ?_⟩; conv => whnf) | (refine ⟨true, decide_eq_true (by omega), ?_⟩; conv => whnf) | (refine ⟨false, decide_eq_false (by omega), ?_⟩; conv => whnf) | (refine ⟨_, rfl, ?_⟩; conv => whnf) | (refine ⟨rfl, ?_⟩; conv => whnf) | (refine ⟨_, fun h => absurd h Bool.false_ne_true, fun _ => rfl, ?_⟩; conv => whnf) | (refine ⟨_, fun _ => rfl, fun h => absurd h.symm Bool.false_ne_true, ?_⟩; conv => whnf))
          rfl
        · repeat (first | (refine W.RS (by kernel_rfl) ?_; conv => whnf) | (refine W.S ?_) | (refine W.ret ?_; conv => whnf) | (refine W.skip ?_; conv => whnf) | (refine W.condF rfl ?_) | (refine ⟨_, c1, ?_⟩; conv => whnf) | (refine ⟨_, c2, ?_⟩; conv => whnf) | (refine ⟨_, c3, ?_⟩; conv => whnf) | (refine ⟨_, c4, ?_⟩; conv => whnf) | (refine ⟨_, c5, ?_⟩; conv => whnf) | (refine ⟨by omega, _, hm, ?_⟩; conv => whnf) | (refine ⟨0, _, rfl, hg, rfl, ?_⟩; conv => whnf) | (refine ⟨false, decide_eq_false (by omega), ?_⟩; conv => whnf) | (refine ⟨_, rfl, ?_⟩; conv => whnf) | (refine ⟨rfl, ?_⟩; conv => whnf) | (refine ⟨_, fun h => absurd h Bool.false_ne_true, fun _ => rfl, ?_⟩; conv => whnf) | (refine ⟨_, fun _ => rfl, fun h => absurd h.symm Bool.false_ne_true, ?_⟩; conv => whnf))
          rfl
    · by_cases h1 : c > 0
      · rw [if_neg (by omega)] at hnc
        rw [hnc]
        repeat (first | (refine W.RS (by kernel_rfl) ?_; conv => whnf) | (refine W.S ?_) | (refine W.ret ?_; conv => whnf) | (refine W.condT rfl ?_) | (refine ⟨_, c1, ?_⟩; conv => whnf) | (refine ⟨_, c2, ?_⟩; conv => whnf) | (refine ⟨_, c3, ?_⟩; conv => whnf) | (refine ⟨_, c4, ?_⟩; conv => whnf) | (refine ⟨_, c5, ?_⟩; conv => whnf) | (refine ⟨_, c6, ?_⟩; conv => whnf) | (refine ⟨_, c7, ?_⟩; conv => whnf) | (refine ⟨by omega, _, hm, ?_⟩; conv => whnf) | (refine ⟨0, _, rfl, hg, rfl, ?_⟩; conv => whnf) | (refine ⟨true, decide_eq_true (by omega), ?_⟩; conv => whnf) | (refine ⟨_, rfl, ?_⟩; conv => whnf) | (refine ⟨rfl, ?_⟩; conv => whnf) | (refine ⟨_, fun _ => rfl, fun h => absurd h.symm Bool.false_ne_true, ?_⟩; conv => whnf))
        rfl
      · by_cases h2 : c = 0
        · rw [if_neg (by omega)] at hnc
          rw [hnc]
          repeat (first | (refine W.RS (by kernel_rfl) ?_; conv => whnf) | (refine W.S ?_) | (refine W.ret ?_; conv => whnf) | (refine W.condT rfl ?_) | (refine ⟨_, c1, ?_⟩; conv => whnf) | (refine ⟨_, c2, ?_⟩; conv => whnf) | (refine ⟨_, c3, ?_⟩; conv => whnf) | (refine ⟨_, c4, ?_⟩; conv => whnf) | (refine ⟨_, c5, ?_⟩; conv => whnf) | (refine ⟨_, c6, ?_⟩; conv => whnf) | (refine ⟨_, c7, ?_⟩; conv => whnf) | (refine ⟨by omega, _, hm, ?_⟩; conv => whnf) | (refine ⟨0, _, rfl, hg, rfl, ?_⟩; conv => whnf) | (refine ⟨true, decide_eq_true (by omega), ?_⟩; conv => whnf) | (refine ⟨false, decide_eq_false (by omega), ?_⟩; conv => whnf) | (refine ⟨_, rfl, ?_⟩; conv => whnf) | (refine ⟨rfl, ?_⟩; conv => whnf) | (refine ⟨_, fun h => absurd h Bool.false_ne_true, fun _ => rfl, ?_⟩; conv => whnf) | (refine ⟨_, fun _ => rfl, fun h => absurd h.symm Bool.false_ne_true, ?_⟩; conv => whnf))
          rfl
        · rw [if_pos (by omega)] at hnc
          rw [hnc]
          repeat (first | (refine W.RS (by kernel_rfl) ?_; conv => whnf) | (refine W.S ?_) | (refine W.ret ?_; conv => whnf) | (refine W.skip ?_; conv => whnf) | (refine W.condF rfl ?_) | (refine ⟨_, c1, ?_⟩; conv => whnf) | (refine ⟨_, c2, ?_⟩; conv => whnf) | (refine ⟨_, c3, ?_⟩; conv => whnf) | (refine ⟨_, c4, ?_⟩; conv => whnf) | (refine ⟨_, c5, ?_⟩; conv => whnf) | (refine ⟨by omega, _, hm, ?_⟩; conv => whnf) | (refine ⟨0, _, rfl, hg, rfl, ?_⟩; conv => whnf) | (refine ⟨true, decide_eq_true (by omega), ?_⟩; conv => whnf) | (refine ⟨false, decide_eq_false (by omega), ?_⟩; conv => whnf) | (refine ⟨_, rfl, ?_⟩; conv => whnf) | (refine ⟨rfl, ?_⟩; conv => whnf) | (refine ⟨_, fun h => absurd h Bool.false_ne_true, fun _ => rfl, ?_⟩; conv => whnf) | (refine ⟨_, fun _ => rfl, fun h => absurd h.symm Bool.false_ne_true, ?_⟩; conv => whnf))
          rfl
theorem f42_ok {J : Keep} (B : Base J) {a : Rat} (ha : qln a < 2 ^ 28) (k : Int) : C J 42 [qr a, .int .i64 k] (qr (((nearI (a * (((gk k : Nat) : Int) : Rat)) : Int) : Rat) * mkRat 1 (gk k))) := by
  refine fn_ok Tryz.func42 rfl rfl rfl ?_
  have c1 := f167_ok B (q := a) (by omega) k
  have r2 := qln_mul a (((gk k : Nat) : Int) : Rat)
  have r3 : qln (((gk k : Nat) : Int) : Rat) ≤ 258 := by
    have h := qln_i ((gk k : Nat) : Int)
    rw [Int.natAbs_natCast] at h
    have := ln_two_pow k
    unfold gk at *
    omega
  have c2 := f156_ok B (a := a * (((gk k : Nat) : Int) : Rat)) (by omega)
  have l1 : ln (nearI (a * (((gk k : Nat) : Int) : Rat))).natAbs ≤ ln (a * (((gk k : Nat) : Int) : Rat)).num.natAbs + 2 := by
    generalize a * (((gk k : Nat) : Int) : Rat) = q
    have lf := ln_floor (q := q)
    unfold nearI
    split
    · omega
    · have h1 := ln_mono (Int.natAbs_add_le q.floor 1)
      have h2 := ln_add_le q.floor.natAbs (1 : Int).natAbs
      have h3 : ln (1 : Int).natAbs ≤ 1 := ln_le (by decide)
      omega
  have l2 : ln (a * (((gk k : Nat) : Int) : Rat)).num.natAbs ≤ qln (a * (((gk k : Nat) : Int) : Rat)) := by unfold qln; omega
  have l3 := qln_i (nearI (a * (((gk k : Nat) : Int) : Rat)))
  have r4 := qln_fine k
  have c3 := f49_ok B (a := ((nearI (a * (((gk k : Nat) : Int) : Rat)) : Int) : Rat)) (b := mkRat 1 (gk k)) (by omega) (by omega)
  repeat (first | (refine W.RS (by kernel_rfl) ?_; conv => whnf) | (refine W.ret ?_; conv => whnf) | (refine ⟨_, c1, ?_⟩; conv => whnf) | (refine ⟨_, c2, ?_⟩; conv => whnf) | (refine ⟨_, f46_ok B k, ?_⟩; conv => whnf) | (refine ⟨_, c3, ?_⟩; conv => whnf))
  rfl
end Go.Proofs.Fl
namespace Go.Proofs.Fl
open Go.RowKit Go.Proofs.Dig
attribute [local irreducible] IntKind.wrap PureC MutC MakC IterC
section
variable {J : Keep} {a b c d : Rat}
theorem mem2 {P : Rat → Prop} (ha : P a) (hb : P b) : ∀ x ∈ [a, b], P x := by
  intro x hx; simp at hx; rcases hx with rfl | rfl <;> assumption
theorem mem4 {P : Rat → Prop} (ha : P a) (hb : P b) (hc : P c) (hd : P d) : ∀ x ∈ [a, b, c, d], P x := by
  intro x hx; simp at hx; rcases hx with rfl | rfl | rfl | rfl <;> assumption
theorem f70_2 (ha : qln a < 2 ^ 38) (hb : qln b < 2 ^ 38) : C J 70 [.sl [qr a, qr b]] (qr (minL [a, b])) := f70_ok J (l := [a, b]) (by simp) (mem2 ha hb)
theorem f71_2 (ha : qln a < 2 ^ 38) (hb : qln b < 2 ^ 38) : C J 71 [.sl [qr a, qr b]] (qr (maxL [a, b])) := f71_ok J (l := [a, b]) (by simp) (mem2 ha hb)
theorem f181_ok {l : List Rat} (hl : l.length < 2 ^ 60) (hq : ∀ x ∈ l, qln x < 2 ^ 38) : C J 181 [.sl (l.map qr)] (sd (minL l) (maxL l)) := by
  refine fn_ok Tryz.func181 rfl rfl rfl ?_
  repeat (first | (refine W.RS (by kernel_rfl) ?_; conv => whnf) | (refine W.ret ?_; conv => whnf) | (refine ⟨_, f70_ok J hl hq, ?_⟩; conv => whnf) | (refine ⟨_, f71_ok J hl hq, ?_⟩; conv => whnf))
  rfl
theorem f181_2 (ha : qln a < 2 ^ 38) (hb : qln b < 2 ^ 38) : C J 181 [.sl [qr a, qr b]] (sd (minL [a, b]) (maxL [a, b])) := f181_ok (l := [a, b]) (by simp) (mem2 ha hb)
theorem f181_4 (ha : qln a < 2 ^ 38) (hb : qln b < 2 ^ 38) (hc : qln c < 2 ^ 38) (hd : qln d < 2 ^ 38) : C J 181 [.sl [qr a, qr b, qr c, qr d]] (sd (minL [a, b, c, d]) (maxL [a, b, c, d])) := f181_ok (l := [a, b, c, d]) (by simp) (mem4 ha hb hc hd)
def mulE (a b c d : Rat) : List Rat := [a * c, a * d, b * c, b * d]
def divE (a b c d : Rat) : List Rat := [a / c, a / d, b / c, b / d]
theorem f179_mul (B : Base J) (ha : qln a < 2 ^ 36) (hb : qln b < 2 ^ 36) (hc : qln c < 2 ^ 36) (hd : qln d < 2 ^ 36) : C J 179 [.fn 49, sd a b, sd c d] (sd (minL (mulE a b c d)) (maxL (mulE a b c d))) := by
  refine fn_ok Tryz.func179 rfl rfl rfl ?_
  have m1 := qln_mul a c
  have m2 := qln_mul a d
  have m3 := qln_mul b c
  have m4 := qln_mul b d
  have c1 := f181_4 (J := J) (a := a * c) (b := a * d) (c := b * c) (d := b * d) (by omega) (by omega) (by omega) (by omega)
  have d1 := f49_ok B (a := a) (b := c) (by omega) (by omega)
  have d2 := f49_ok B (a := a) (b := d) (by omega) (by omega)
  have d3 := f49_ok B (a := b) (b := c) (by omega) (by omega)
  have d4 := f49_ok B (a := b) (b := d) (by omega) (by omega)
  repeat (first | (refine W.RS (by kernel_rfl) ?_; conv => whnf) | (refine W.ret ?_; conv => whnf) | (refine ⟨_, d1, ?_⟩; conv => whnf) | (refine ⟨_, d2, ?_⟩; conv => whnf) | (refine ⟨_, d3, ?_⟩; conv => whnf) | (refine ⟨_, d4, ?_⟩; conv => whnf) | (refine ⟨_, c1, ?_⟩; conv => whnf) | (refine ⟨rfl, ?_⟩; conv => whnf))
  rfl
theorem f100_ok (B : Base J) (ha : qln a < 2 ^ 36) (hb : qln b < 2 ^ 36) (hc : qln c < 2 ^ 36) (hd : qln d < 2 ^ 36) : C J 100 [sd a b, sd c d] (sd (minL (mulE a b c d)) (maxL (mulE a b c d))) := by
  refine fn_ok Tryz.func100 rfl rfl rfl ?_
  repeat (first | (refine W.RS (by kernel_rfl) ?_; conv => whnf) | (refine W.ret ?_; conv => whnf) | (refine ⟨_, f179_mul B ha hb hc hd, ?_⟩; conv => whnf))
  rfl
theorem f104_ok (B : Base J) (ha : qln a < 2 ^ 36) (hb : qln b < 2 ^ 36) (hc : qln c < 2 ^ 36) : C J 104 [sd a b, qr c] (sd (minL [a * c, b * c]) (maxL [a * c, b * c])) := by
  refine fn_ok Tryz.func104 rfl rfl rfl ?_
  have m1 := qln_mul a c
  have m3 := qln_mul b c
  have c1 := f181_2 (J := J) (a := a * c) (b := b * c) (by omega) (by omega)
  have d1 := f49_ok B (a := a) (b := c) (by omega) (by omega)
  have d3 := f49_ok B (a := b) (b := c) (by omega) (by omega)
  repeat (first | (refine W.RS (by kernel_rfl) ?_; conv => whnf) | (refine W.ret ?_; conv => whnf) | (refine ⟨_, d1, ?_⟩; conv => whnf) | (refine ⟨_, d3, ?_⟩; conv => whnf) | (refine ⟨_, c1, ?_⟩; conv => whnf) | (refine ⟨rfl, ?_⟩; conv => whnf))
  rfl
theorem f109_ok (ha : qln a < 2 ^ 36) (hb : qln b < 2 ^ 36) (hc : qln c < 2 ^ 36) (hd : qln d < 2 ^ 36) : C J 109 [sd a b, sd c d] (sd (minL [a, c]) (maxL [b, d])) := by
  refine fn_ok Tryz.func109 rfl rfl rfl ?_
  have c1 := f70_2 (J := J) (a := a) (b := c) (by omega) (by omega)
  have c2 := f71_2 (J := J) (a := b) (b := d) (by omega) (by omega)
  repeat (first | (refine W.RS (by kernel_rfl) ?_; conv => whnf) | (refine W.ret ?_; conv => whnf) | (refine ⟨_, c1, ?_⟩; conv => whnf) | (refine ⟨_, c2, ?_⟩; conv => whnf) | (refine ⟨rfl, ?_⟩; conv => whnf))
  rfl
theorem f113_ok (L : LibI J) (ha : qln a < 2 ^ 36) (hb : qln b < 2 ^ 36) : C J 113 [sd a b] (.str ([91] ++ qtext a ++ [32] ++ qtext b ++ [93])) := by
  refine fn_ok Tryz.func113 rfl rfl rfl ?_
  have c1 := f35_ok L (q := a) (by omega)
  have c2 := f35_ok L (q := b) (by omega)
  have t : ∀ q : Rat, qln q < 2 ^ 36 → (qtext q).length < 2 ^ 42 := fun q h => by
    unfold qln at h
    have l1 := ztext_len q.num
    have l2 := decN_ln q.num.natAbs
    have l3 := decN_ln q.den
    unfold qtext
    split <;> simp <;> omega
  have t1 := t a ha
  have t2 := t b hb
  repeat (first | (refine W.RS (by kernel_rfl) ?_; conv => whnf) | (refine W.ret ?_; conv => whnf) | (refine ⟨_, c1, ?_⟩; conv => whnf) | (refine ⟨_, c2, ?_⟩; conv => whnf) | (refine ⟨by simp; omega, ?_⟩; conv => whnf) | (refine ⟨rfl, ?_⟩; conv => whnf))
  rfl
end
end Go.Proofs.Fl
namespace Go.Proofs.Fl
open Go.RowKit Go.Proofs.Dig
attribute [local irreducible] IntKind.wrap PureC MutC MakC IterC
theorem sd_zero : sd 0 0 = .agg [.sl [], .bool false, .sl [], .sl [], .bool false, .sl []] := by
  have h := dg_zero_qr
  unfold qr qd at h
  injection h with h
  injection h with h1 h
  injection h with h2 h
  injection h with h3 h
  show IV.agg [_, _, _, _, _, _] = _
  rw [h1, h2, h3]
theorem sign_cmp (q : Rat) : cmpI q.num 0 = cmpR q 0 := by
  unfold cmpR
  show cmpI q.num 0 = cmpI (q.num * ((1 : Nat) : Int)) (0 * (q.den : Int))
  rw [Int.zero_mul]; simp
section
variable {J : Keep} {a b c d : Rat}
theorem qln_max {l : List Rat} {N : Nat} (h : ∀ x ∈ l, qln x < N) (h0 : 1 < N) (f : Int → Bool) : qln (chooseL f l) < N := chooseL_all f (P := fun x => qln x < N) (by have := qln_zero; omega) h
theorem f106_ok (ha : qln a < 2 ^ 36) (hb : qln b < 2 ^ 36) (hc : qln c < 2 ^ 36) (hd : qln d < 2 ^ 36) : C J 106 [sd a b, sd c d] (if cmpR (maxL [a, c]) (minL [b, d]) ≤ 0 then .tup [sd (maxL [a, c]) (minL [b, d]), .bool true] else .tup [sd 0 0, .bool false]) := by
  refine fn_ok Tryz.func106 rfl rfl rfl ?_
  have c1 := f71_2 (J := J) (a := a) (b := c) (by omega) (by omega)
  have c2 := f70_2 (J := J) (a := b) (b := d) (by omega) (by omega)
  have h1 : qln (maxL [a, c]) < 2 ^ 36 := qln_max (mem2 (P := fun x => qln x < 2 ^ 36) ha hc) (by decide) _
  have h2 : qln (minL [b, d]) < 2 ^ 36 := qln_max (mem2 (P := fun x => qln x < 2 ^ 36) hb hd) (by decide) _
  have c3 := f55_ok (J := J) (a := maxL [a, c]) (b := minL [b, d]) (by omega) (by omega)
  by_cases h : cmpR (maxL [a, c]) (minL [b, d]) ≤ 0
  · rw [if_pos h]
    rw [decide_eq_true h] at c3
    repeat (first | (refine W.RS (by kernel_rfl) ?_; conv => whnf) | (refine W.S ?_) | (refine W.ret ?_; conv => whnf) | (refine W.skip ?_; conv => whnf) | (refine W.condF rfl ?_) | (refine ⟨_, c1, ?_⟩; conv => whnf) | (refine ⟨_, c2, ?_⟩; conv => whnf) | (refine ⟨_, c3, ?_⟩; conv => whnf) | (refine ⟨_, rfl, ?_⟩; conv => whnf) | (refine ⟨rfl, ?_⟩; conv => whnf))
    rfl
  · rw [if_neg h, sd_zero]
    rw [decide_eq_false h] at c3
    repeat (first | (refine W.RS (by kernel_rfl) ?_; conv => whnf) | (refine W.S ?_) | (refine W.ret ?_; conv => whnf) | (refine W.condT rfl ?_) | (refine ⟨_, c1, ?_⟩; conv => whnf) | (refine ⟨_, c2, ?_⟩; conv => whnf) | (refine ⟨_, c3, ?_⟩; conv => whnf) | (refine ⟨_, rfl, ?_⟩; conv => whnf) | (refine ⟨rfl, ?_⟩; conv => whnf))
    rfl
theorem f108_ok : C J 108 [sd a b] (if b.num < 0 then .tup [.int .i64 (-1), .bool true] else if a.num > 0 then .tup [.int .i64 1, .bool true] else .tup [.int .i64 0, .bool (decide (a.num = 0) && decide (b.num = 0))]) := by
  refine fn_ok Tryz.func108 rfl rfl rfl ?_
  have c1 := f22_ok J a
  have c2 := f22_ok J b
  have e1 : cmpI a.num 0 = if a.num < 0 then -1 else if a.num > 0 then 1 else 0 := by unfold cmpI; split <;> (try split) <;> (try omega) <;> rfl
  have e2 : cmpI b.num 0 = if b.num < 0 then -1 else if b.num > 0 then 1 else 0 := by unfold cmpI; split <;> (try split) <;> (try omega) <;> rfl
  rw [e1] at c1
  rw [e2] at c2
  by_cases h1 : b.num < 0
  · rw [if_pos h1] at c2
    rw [if_pos h1]
    obtain ⟨x, hx⟩ : ∃ x, (if a.num < 0 then -1 else if a.num > 0 then 1 else 0 : Int) = x := ⟨_, rfl⟩
    rw [hx] at c1
    repeat (first | (refine W.RS (by kernel_rfl) ?_; conv => whnf) | (refine W.S ?_) | (refine W.block ?_) | (refine W.ret ?_; conv => whnf) | (refine W.condT rfl ?_) | (refine ⟨_, c1, ?_⟩; conv => whnf) | (refine ⟨_, c2, ?_⟩; conv => whnf) | (refine ⟨true, decide_eq_true (by omega), ?_⟩; conv => whnf) | (refine ⟨rfl, ?_⟩; conv => whnf))
    rfl
  · rw [if_neg h1] at c2
    rw [if_neg h1]
    by_cases h2 : a.num > 0
    · rw [if_neg (by omega), if_pos h2] at c1
      rw [if_pos h2]
      by_cases h3 : b.num > 0
      · rw [if_pos h3] at c2
        repeat (first | (refine W.RS (by kernel_rfl) ?_; conv => whnf) | (refine W.S ?_) | (refine W.block ?_) | (refine W.ret ?_; conv => whnf) | (refine W.condF rfl ?_) | (refine W.condT rfl ?_) | (refine ⟨_, c1, ?_⟩; conv => whnf) | (refine ⟨_, c2, ?_⟩; conv => whnf) | (refine ⟨true, decide_eq_true (by omega), ?_⟩; conv => whnf) | (refine ⟨false, decide_eq_false (by omega), ?_⟩; conv => whnf) | (refine ⟨rfl, ?_⟩; conv => whnf))
        rfl
      · rw [if_neg h3] at c2
        repeat (first | (refine W.RS (by kernel_rfl) ?_; conv => whnf) | (refine W.S ?_) | (refine W.block ?_) | (refine W.ret ?_; conv => whnf) | (refine W.condF rfl ?_) | (refine W.condT rfl ?_) | (refine ⟨_, c1, ?_⟩; conv => whnf) | (refine ⟨_, c2, ?_⟩; conv => whnf) | (refine ⟨true, decide_eq_true (by omega), ?_⟩; conv => whnf) | (refine ⟨false, decide_eq_false (by omega), ?_⟩; conv => whnf) | (refine ⟨rfl, ?_⟩; conv => whnf))
        rfl
    · rw [if_neg h2]
      by_cases h3 : b.num > 0
      · rw [if_pos h3] at c2
        rw [decide_eq_false (p := b.num = 0) (by omega), Bool.and_false]
        by_cases h4 : a.num < 0
        · rw [if_pos h4] at c1
          repeat (first | (refine W.RS (by kernel_rfl) ?_; conv => whnf) | (refine W.S ?_) | (refine W.block ?_) | (refine W.ret ?_; conv => whnf) | (refine W.skip ?_; conv => whnf) | (refine W.condF rfl ?_) | (refine ⟨_, c1, ?_⟩; conv => whnf) | (refine ⟨_, c2, ?_⟩; conv => whnf) | (refine ⟨false, decide_eq_false (by omega), ?_⟩; conv => whnf) | (refine ⟨rfl, ?_⟩; conv => whnf) | (refine ⟨_, fun h => absurd h Bool.false_ne_true, fun _ => rfl, ?_⟩; conv => whnf))
          rfl
        · rw [if_neg h4, if_neg h2] at c1
          repeat (first | (refine W.RS (by kernel_rfl) ?_; conv => whnf) | (refine W.S ?_) | (refine W.block ?_) | (refine W.ret ?_; conv => whnf) | (refine W.skip ?_; conv => whnf) | (refine W.condF rfl ?_) | (refine ⟨_, c1, ?_⟩; conv => whnf) | (refine ⟨_, c2, ?_⟩; conv => whnf) | (refine ⟨true, decide_eq_true (by omega), ?_⟩; conv => whnf) | (refine ⟨false, decide_eq_false (by omega), ?_⟩; conv => whnf) | (refine ⟨rfl, ?_⟩; conv => whnf) | (refine ⟨_, fun _ => rfl, fun h => absurd h.symm Bool.false_ne_true, ?_⟩; conv => whnf))
          rfl
      · rw [if_neg h3] at c2
        rw [decide_eq_true (p := b.num = 0) (by omega), Bool.and_true]
        by_cases h4 : a.num < 0
        · rw [if_pos h4] at c1
          rw [decide_eq_false (p := a.num = 0) (by omega)]
          repeat (first | (refine W.RS (by kernel_rfl) ?_; conv => whnf) | (refine W.S ?_) | (refine W.block ?_) | (refine W.ret ?_; conv => whnf) | (refine W.skip ?_; conv => whnf) | (refine W.condF rfl ?_) | (refine ⟨_, c1, ?_⟩; conv => whnf) | (refine ⟨_, c2, ?_⟩; conv => whnf) | (refine ⟨false, decide_eq_false (by omega), ?_⟩; conv => whnf) | (refine ⟨rfl, ?_⟩; conv => whnf) | (refine ⟨_, fun h => absurd h Bool.false_ne_true, fun _ => rfl, ?_⟩; conv => whnf))
          rfl
        · rw [if_neg h4, if_neg h2] at c1
          rw [decide_eq_true (p := a.num = 0) (by omega)]
          repeat (first | (refine W.RS (by kernel_rfl) ?_; conv => whnf) | (refine W.S ?_) | (refine W.block ?_) | (refine W.ret ?_; conv => whnf) | (refine W.skip ?_; conv => whnf) | (refine W.condF rfl ?_) | (refine ⟨_, c1, ?_⟩; conv => whnf) | (refine ⟨_, c2, ?_⟩; conv => whnf) | (refine ⟨true, decide_eq_true (by omega), ?_⟩; conv => whnf) | (refine ⟨false, decide_eq_false (by omega), ?_⟩; conv => whnf) | (refine ⟨rfl, ?_⟩; conv => whnf) | (refine ⟨_, fun _ => rfl, fun h => absurd h.symm Bool.false_ne_true, ?_⟩; conv => whnf))
          rfl
theorem f117_ok (ha : qln a < 2 ^ 36) (hb : qln b < 2 ^ 36) : C J 117 [sd a b] (if 0 ≤ a.num then sd a b else if b.num ≤ 0 then sd (-b) (-a) else sd 0 (maxL [-a, b])) := by
  refine fn_ok Tryz.func117 rfl rfl rfl ?_
  have c1 := f22_ok J a
  have c2 := f22_ok J b
  have e1 : cmpI a.num 0 = if a.num < 0 then -1 else if a.num > 0 then 1 else 0 := by unfold cmpI; split <;> (try split) <;> (try omega) <;> rfl
  have e2 : cmpI b.num 0 = if b.num < 0 then -1 else if b.num > 0 then 1 else 0 := by unfold cmpI; split <;> (try split) <;> (try omega) <;> rfl
  have c3 := f102_ok J a b
  have c4 := f66_ok J a
  have hn : qln (-a) < 2 ^ 36 := by unfold qln at *; rw [Rat.neg_num, Int.natAbs_neg, Rat.neg_den]; exact ha
  have c5 := f71_2 (J := J) (a := -a) (b := b) (by omega) (by omega)
  have h1 : -1 ≤ cmpI a.num 0 ∧ cmpI a.num 0 ≤ 1 ∧ (cmpI a.num 0 ≥ 0 ↔ 0 ≤ a.num) := by rw [e1]; split <;> (try split) <;> omega
  have h2 : -1 ≤ cmpI b.num 0 ∧ cmpI b.num 0 ≤ 1 ∧ (cmpI b.num 0 ≤ 0 ↔ b.num ≤ 0) := by rw [e2]; split <;> (try split) <;> omega
  obtain ⟨x, hx⟩ : ∃ x, cmpI a.num 0 = x := ⟨_, rfl⟩
  obtain ⟨y, hy⟩ : ∃ y, cmpI b.num 0 = y := ⟨_, rfl⟩
  rw [hx] at c1 h1
  rw [hy] at c2 h2
  by_cases k1 : 0 ≤ a.num
  · rw [if_pos k1]
    repeat (first | (refine W.RS (by kernel_rfl) ?_; conv => whnf) | (refine W.S ?_) | (refine W.block ?_) | (refine W.ret ?_; conv => whnf) | (refine W.condT rfl ?_) | (refine ⟨_, c1, ?_⟩; conv => whnf) | (refine ⟨true, decide_eq_true (by omega), ?_⟩; conv => whnf) | (refine ⟨rfl, ?_⟩; conv => whnf))
    rfl
  · rw [if_neg k1]
    by_cases k2 : b.num ≤ 0
    · rw [if_pos k2]
      repeat (first | (refine W.RS (by kernel_rfl) ?_; conv => whnf) | (refine W.S ?_) | (refine W.block ?_) | (refine W.ret ?_; conv => whnf) | (refine W.condF rfl ?_) | (refine W.condT rfl ?_) | (refine ⟨_, c1, ?_⟩; conv => whnf) | (refine ⟨_, c2, ?_⟩; conv => whnf) | (refine ⟨_, c3, ?_⟩; conv => whnf) | (refine ⟨true, decide_eq_true (by omega), ?_⟩; conv => whnf) | (refine ⟨false, decide_eq_false (by omega), ?_⟩; conv => whnf) | (refine ⟨rfl, ?_⟩; conv => whnf))
      rfl
    · rw [if_neg k2]
      repeat (first | (refine W.RS (by kernel_rfl) ?_; conv => whnf) | (refine W.S ?_) | (refine W.block ?_) | (refine W.ret ?_; conv => whnf) | (refine W.skip ?_; conv => whnf) | (refine W.condF rfl ?_) | (refine ⟨_, c1, ?_⟩; conv => whnf) | (refine ⟨_, c2, ?_⟩; conv => whnf) | (refine ⟨_, c4, ?_⟩; conv => whnf) | (refine ⟨_, c5, ?_⟩; conv => whnf) | (refine ⟨false, decide_eq_false (by omega), ?_⟩; conv => whnf) | (refine ⟨rfl, ?_⟩; conv => whnf))
      have h := dg_zero_qr
      unfold qr qd at h
      injection h with h
      injection h with g1 h
      injection h with g2 h
      injection h with g3 h
      show IV.agg [_, _, _, _, _, _] = IV.agg [_, _, _, _, _, _]
      rw [g1, g2, g3]
end
end Go.Proofs.Fl
namespace Go.Proofs.Fl
open Go.RowKit Go.Proofs.Dig
attribute [local irreducible] IntKind.wrap PureC MutC MakC IterC
theorem qln_div (a b : Rat) : qln (a / b) ≤ qln a + qln b + 1 := by
  by_cases hb : b = 0
  · rw [hb, Rat.div_def, Rat.inv_zero, Rat.mul_zero]
    have := qln_zero; omega
  · have hi : b⁻¹.num.natAbs = b.den ∧ b⁻¹.den = b.num.natAbs := by
      have hn0 : b.num ≠ 0 := fun e => hb (Rat.num_eq_zero.1 e)
      show (Rat.inv b).num.natAbs = _ ∧ (Rat.inv b).den = _
      unfold Rat.inv
      split
      · simp
      · split
        · simp
        · omega
    have h := qln_mul a b⁻¹
    rw [← Rat.div_def] at h
    unfold qln at *
    rw [hi.1, hi.2] at h
    omega
section
variable {J : Keep} {a b c d : Rat}
theorem f179_div (B : Base J) (ha : qln a < 2 ^ 36) (hb : qln b < 2 ^ 36) (hc : qln c < 2 ^ 36) (hd : qln d < 2 ^ 36) (c0 : c ≠ 0) (d0 : d ≠ 0) : C J 179 [.fn 152, sd a b, sd c d] (sd (minL (divE a b c d)) (maxL (divE a b c d))) := by
  refine fn_ok Tryz.func179 rfl rfl rfl ?_
  have m1 := qln_div a c
  have m2 := qln_div a d
  have m3 := qln_div b c
  have m4 := qln_div b d
  have c1 := f181_4 (J := J) (a := a / c) (b := a / d) (c := b / c) (d := b / d) (by omega) (by omega) (by omega) (by omega)
  have d1 := f152_ok B (a := a) (b := c) c0 (by omega) (by omega)
  have d2 := f152_ok B (a := a) (b := d) d0 (by omega) (by omega)
  have d3 := f152_ok B (a := b) (b := c) c0 (by omega) (by omega)
  have d4 := f152_ok B (a := b) (b := d) d0 (by omega) (by omega)
  repeat (first | (refine W.RS (by kernel_rfl) ?_; conv => whnf) | (refine W.ret ?_; conv => whnf) | (refine ⟨_, d1, ?_⟩; conv => whnf) | (refine ⟨_, d2, ?_⟩; conv => whnf) | (refine ⟨_, d3, ?_⟩; conv => whnf) | (refine ⟨_, d4, ?_⟩; conv => whnf) | (refine ⟨_, c1, ?_⟩; conv => whnf) | (refine ⟨rfl, ?_⟩; conv => whnf))
  rfl
noncomputable def divR (a b c d : Rat) : IV :=
  if ¬ cmpR a b ≤ 0 ∨ ¬ cmpR c d ≤ 0 then .tup [sd 0 0, .int .i64 2]
  else if cmpR c 0 ≤ 0 ∧ cmpR 0 d ≤ 0 then .tup [sd 0 0, .int .i64 9]
  else .tup [sd (minL (divE a b c d)) (maxL (divE a b c d)), .int .i64 0]
theorem f115_ok (B : Base J) (ha : qln a < 2 ^ 36) (hb : qln b < 2 ^ 36) (hc : qln c < 2 ^ 36) (hd : qln d < 2 ^ 36) : C J 115 [sd a b, sd c d] (divR a b c d) := by
  refine fn_ok Tryz.func115 rfl rfl rfl ?_
  have c1 := f55_ok (J := J) (a := a) (b := b) (by omega) (by omega)
  have c2 := f55_ok (J := J) (a := c) (b := d) (by omega) (by omega)
  have c3 := f30_ok (J := J) (a := c) (b := d) (q := 0) (by omega) (by omega) (by have := qln_zero; omega)
  rw [dg_zero_qr] at c3
  unfold divR
  by_cases h1 : cmpR a b ≤ 0
  · rw [decide_eq_true h1] at c1
    by_cases h2 : cmpR c d ≤ 0
    · rw [decide_eq_true h2] at c2
      rw [if_neg (by omega)]
      by_cases h3 : cmpR c 0 ≤ 0 ∧ cmpR 0 d ≤ 0
      · rw [decide_eq_true h3.1, decide_eq_true h3.2] at c3
        rw [if_pos h3, sd_zero]
        repeat (first | (refine W.RS (by kernel_rfl) ?_; conv => whnf) | (refine W.S ?_) | (refine W.block ?_) | (refine W.ret ?_; conv => whnf) | (refine W.condF rfl ?_) | (refine W.condT rfl ?_) | (refine ⟨_, c1, ?_⟩; conv => whnf) | (refine ⟨_, c2, ?_⟩; conv => whnf) | (refine ⟨_, c3, ?_⟩; conv => whnf) | (refine ⟨_, rfl, ?_⟩; conv => whnf) | (refine ⟨_, fun h => absurd h Bool.false_ne_true, fun _ => rfl, ?_⟩; conv => whnf))
        rfl
      · have e : (decide (cmpR c 0 ≤ 0) && decide (cmpR 0 d ≤ 0)) = false := by
          rw [Bool.and_eq_false_iff, decide_eq_false_iff_not, decide_eq_false_iff_not]
          by_cases h4 : cmpR c 0 ≤ 0
          · exact .inr fun h5 => h3 ⟨h4, h5⟩
          · exact .inl h4
        rw [e] at c3
        rw [if_neg h3]
        have c0 : c ≠ 0 := fun e => h3 ⟨by rw [e]; exact cmpR_le.2 Rat.le_refl, by rw [← e]; exact h2⟩
        have d0 : d ≠ 0 := fun e => h3 ⟨by rw [← e]; exact h2, by rw [e]; exact cmpR_le.2 Rat.le_refl⟩
        have c4 := f179_div B ha hb hc hd c0 d0
        repeat (first | (refine W.RS (by kernel_rfl) ?_; conv => whnf) | (refine W.S ?_) | (refine W.block ?_) | (refine W.ret ?_; conv => whnf) | (refine W.skip ?_; conv => whnf) | (refine W.condF rfl ?_) | (refine ⟨_, c1, ?_⟩; conv => whnf) | (refine ⟨_, c2, ?_⟩; conv => whnf) | (refine ⟨_, c3, ?_⟩; conv => whnf) | (refine ⟨_, c4, ?_⟩; conv => whnf) | (refine ⟨_, rfl, ?_⟩; conv => whnf) | (refine ⟨_, fun h => absurd h Bool.false_ne_true, fun _ => rfl, ?_⟩; conv => whnf))
        rfl
    · rw [decide_eq_false h2] at c2
      rw [if_pos (.inr h2), sd_zero]
      repeat (first | (refine W.RS (by kernel_rfl) ?_; conv => whnf) | (refine W.S ?_) | (refine W.block ?_) | (refine W.ret ?_; conv => whnf) | (refine W.condT rfl ?_) | (refine ⟨_, c1, ?_⟩; conv => whnf) | (refine ⟨_, c2, ?_⟩; conv => whnf) | (refine ⟨_, rfl, ?_⟩; conv => whnf) | (refine ⟨_, fun h => absurd h Bool.false_ne_true, fun _ => rfl, ?_⟩; conv => whnf))
      rfl
  · rw [decide_eq_false h1] at c1
    rw [if_pos (.inl h1), sd_zero]
    repeat (first | (refine W.RS (by kernel_rfl) ?_; conv => whnf) | (refine W.S ?_) | (refine W.block ?_) | (refine W.ret ?_; conv => whnf) | (refine W.condT rfl ?_) | (refine ⟨_, c1, ?_⟩; conv => whnf) | (refine ⟨_, rfl, ?_⟩; conv => whnf) | (refine ⟨_, fun _ => rfl, fun h => absurd h.symm Bool.false_ne_true, ?_⟩; conv => whnf))
    rfl
noncomputable def powS (a b : Rat) (n : Nat) : Rat × Rat :=
  (if 0 < n ∧ n % 2 = 0 ∧ a.num < 0 ∧ 0 < b.num then 0 else minL [a ^ n, b ^ n], maxL [a ^ n, b ^ n])
theorem f119_ok (ha : qln a < 2 ^ 26) (hb : qln b < 2 ^ 26) (k : Int) : C J 119 [sd a b, .int .i64 k] (sd (powS a b (intoN k 1000)).1 (powS a b (intoN k 1000)).2) := by
  refine fn_ok Tryz.func119 rfl rfl rfl ?_
  have c0 := f154_ok J k 1000
  obtain ⟨n, hn⟩ : ∃ n, intoN k 1000 = n := ⟨_, rfl⟩
  have hn1 : n ≤ 1000 := by rw [← hn]; unfold intoN; omega
  have hnn : intoN (n : Int) 1000 = n := by unfold intoN; omega
  rw [hn] at c0 ⊢
  have c1 := f51_ok (J := J) (a := a) (by omega) (n : Int)
  have c2 := f51_ok (J := J) (a := b) (by omega) (n : Int)
  rw [hnn] at c1 c2
  have s1 := qln_pow a n
  have s2 := qln_pow b n
  have m1 := Nat.mul_le_mul_right (qln a) hn1
  have m2 := Nat.mul_le_mul_right (qln b) hn1
  have c3 := f181_2 (J := J) (a := a ^ n) (b := b ^ n) (by omega) (by omega)
  have c4 := f22_ok J a
  have c5 := f22_ok J b
  have hm : ((n : Nat) : Int).tmod 2 = ((n % 2 : Nat) : Int) := tmodN n 2
  have e1 : cmpI a.num 0 < 0 ↔ a.num < 0 := by unfold cmpI; split <;> (try split) <;> omega
  have e2 : 0 < cmpI b.num 0 ↔ 0 < b.num := by unfold cmpI; split <;> (try split) <;> omega
  obtain ⟨x, hx⟩ : ∃ x, cmpI a.num 0 = x := ⟨_, rfl⟩
  obtain ⟨y, hy⟩ : ∃ y, cmpI b.num 0 = y := ⟨_, rfl⟩
  rw [hx] at c4 e1
  rw [hy] at c5 e2
  unfold powS
  have hz : ∀ q : Rat, sd 0 q = .agg [.sl [], .bool false, .sl [], .sl ((dg q.num.natAbs).map u32), .bool (decide (q.num < 0)), .sl ((dg (q.den - 1)).map u32)] := fun q => by
    have h := dg_zero_qr
    unfold qr qd at h
    injection h with h
    injection h with g1 h
    injection h with g2 h
    injection h with g3 h
    show IV.agg [_, _, _, _, _, _] = IV.agg [_, _, _, _, _, _]
    rw [g1, g2, g3]
  by_cases h1 : 0 < n
  · by_cases h2 : n % 2 = 0
    · by_cases h3 : a.num < 0
      · by_cases h4 : 0 < b.num
        · rw [if_pos ⟨h1, h2, h3, h4⟩, hz]
          repeat (first | (refine W.RS (by kernel_rfl) ?_; conv => whnf) | (refine W.R (by kernel_rfl) ?_; conv => whnf) | (refine W.S ?_) | (refine W.ret ?_; conv => whnf) | (refine W.condT rfl ?_) | (refine ⟨_, c0, ?_⟩; conv => whnf) | (refine ⟨_, c1, ?_⟩; conv => whnf) | (refine ⟨_, c2, ?_⟩; conv => whnf) | (refine ⟨_, c3, ?_⟩; conv => whnf) | (refine ⟨_, c4, ?_⟩; conv => whnf) | (refine ⟨_, c5, ?_⟩; conv => whnf) | (refine ⟨by omega, _, hm, ?_⟩; conv => whnf) | (refine ⟨true, decide_eq_true (by omega), ?_⟩; conv => whnf) | (refine ⟨rfl, ?_⟩; conv => whnf) | (refine ⟨_, fun _ => rfl, fun h => absurd h.symm Bool.false_ne_true, ?_⟩; conv => whnf))
          rfl
        · rw [if_neg (fun h => h4 h.2.2.2)]
          repeat (first | (refine W.RS (by kernel_rfl) ?_; conv => whnf) | (refine W.S ?_) | (refine W.ret ?_; conv => whnf) | (refine W.skip ?_; conv => whnf) | (refine W.condF rfl ?_) | (refine ⟨_, c0, ?_⟩; conv => whnf) | (refine ⟨_, c1, ?_⟩; conv => whnf) | (refine ⟨_, c2, ?_⟩; conv => whnf) | (refine ⟨_, c3, ?_⟩; conv => whnf) | (refine ⟨_, c4, ?_⟩; conv => whnf) | (refine ⟨_, c5, ?_⟩; conv => whnf) | (refine ⟨by omega, _, hm, ?_⟩; conv => whnf) | (refine ⟨true, decide_eq_true (by omega), ?_⟩; conv => whnf) | (refine ⟨false, decide_eq_false (by omega), ?_⟩; conv => whnf) | (refine ⟨rfl, ?_⟩; conv => whnf) | (refine ⟨_, fun _ => rfl, fun h => absurd h.symm Bool.false_ne_true, ?_⟩; conv => whnf))
          rfl
      · rw [if_neg (fun h => h3 h.2.2.1)]
        repeat (first | (refine W.RS (by kernel_rfl) ?_; conv => whnf) | (refine W.S ?_) | (refine W.ret ?_; conv => whnf) | (refine W.skip ?_; conv => whnf) | (refine W.condF rfl ?_) | (refine ⟨_, c0, ?_⟩; conv => whnf) | (refine ⟨_, c1, ?_⟩; conv => whnf) | (refine ⟨_, c2, ?_⟩; conv => whnf) | (refine ⟨_, c3, ?_⟩; conv => whnf) | (refine ⟨_, c4, ?_⟩; conv => whnf) | (refine ⟨by omega, _, hm, ?_⟩; conv => whnf) | (refine ⟨true, decide_eq_true (by omega), ?_⟩; conv => whnf) | (refine ⟨false, decide_eq_false (by omega), ?_⟩; conv => whnf) | (refine ⟨rfl, ?_⟩; conv => whnf) | (refine ⟨_, fun h => absurd h Bool.false_ne_true, fun _ => rfl, ?_⟩; conv => whnf) | (refine ⟨_, fun _ => rfl, fun h => absurd h.symm Bool.false_ne_true, ?_⟩; conv => whnf))
        rfl
    · rw [if_neg (fun h => h2 h.2.1)]
      repeat (first | (refine W.RS (by kernel_rfl) ?_; conv => whnf) | (refine W.S ?_) | (refine W.ret ?_; conv => whnf) | (refine W.skip ?_; conv => whnf) | (refine W.condF rfl ?_) | (refine ⟨_, c0, ?_⟩; conv => whnf) | (refine ⟨_, c1, ?_⟩; conv => whnf) | (refine ⟨_, c2, ?_⟩; conv => whnf) | (refine ⟨_, c3, ?_⟩; conv => whnf) | (refine ⟨by omega, _, hm, ?_⟩; conv => whnf) | (refine ⟨true, decide_eq_true (by omega), ?_⟩; conv => whnf) | (refine ⟨false, decide_eq_false (by omega), ?_⟩; conv => whnf) | (refine ⟨rfl, ?_⟩; conv => whnf) | (refine ⟨_, fun h => absurd h Bool.false_ne_true, fun _ => rfl, ?_⟩; conv => whnf) | (refine ⟨_, fun _ => rfl, fun h => absurd h.symm Bool.false_ne_true, ?_⟩; conv => whnf))
      rfl
  · rw [if_neg (fun h => h1 h.1)]
    repeat (first | (refine W.RS (by kernel_rfl) ?_; conv => whnf) | (refine W.S ?_) | (refine W.ret ?_; conv => whnf) | (refine W.skip ?_; conv => whnf) | (refine W.condF rfl ?_) | (refine ⟨_, c0, ?_⟩; conv => whnf) | (refine ⟨_, c1, ?_⟩; conv => whnf) | (refine ⟨_, c2, ?_⟩; conv => whnf) | (refine ⟨_, c3, ?_⟩; conv => whnf) | (refine ⟨false, decide_eq_false (by omega), ?_⟩; conv => whnf) | (refine ⟨rfl, ?_⟩; conv => whnf) | (refine ⟨_, fun h => absurd h Bool.false_ne_true, fun _ => rfl, ?_⟩; conv => whnf))
    rfl
end
end Go.Proofs.Fl
namespace Go.Proofs.Fl
open Go.RowKit Go.Proofs.Dig
attribute [local irreducible] IntKind.wrap PureC MutC MakC IterC
noncomputable abbrev sx (e f : Option Rat) : IV := .agg [.int .i64 (vx e).num.sign, .sl ((dh (vx e).num.natAbs).map d64), dx1 e, dx2 e, .int .i64 (vx f).num.sign, .sl ((dh (vx f).num.natAbs).map d64), dx1 f, dx2 f]
section
variable {J : Keep} {a b c d : Rat} {e f : Option Rat}
theorem f91_ok : C J 91 [rr a] (sx (some a) (some a)) := by
  refine fn_ok Tryz.func91 rfl rfl rfl ?_
  repeat (first | (refine W.RS (by kernel_rfl) ?_; conv => whnf) | (refine W.ret ?_; conv => whnf))
  rfl
theorem f26_ok (ha : rl (vx e) < 2 ^ 34) (hb : rl (vx f) < 2 ^ 34) : C J 26 [sx e f] (.bool (decide (cmpR (vx e) (vx f) ≤ 0))) := by
  refine fn_ok Tryz.func26 rfl rfl rfl ?_
  have c1 := f27_x J ha hb
  by_cases h : cmpR (vx e) (vx f) ≤ 0
  · rw [decide_eq_true h]
    repeat (first | (refine W.RS (by kernel_rfl) ?_; conv => whnf) | (refine W.ret ?_; conv => whnf) | (refine ⟨_, c1, ?_⟩; conv => whnf) | (refine ⟨true, decide_eq_true (by omega), ?_⟩; conv => whnf) | (refine ⟨rfl, ?_⟩; conv => whnf))
    rfl
  · rw [decide_eq_false h]
    repeat (first | (refine W.RS (by kernel_rfl) ?_; conv => whnf) | (refine W.ret ?_; conv => whnf) | (refine ⟨_, c1, ?_⟩; conv => whnf) | (refine ⟨false, decide_eq_false (by omega), ?_⟩; conv => whnf) | (refine ⟨rfl, ?_⟩; conv => whnf))
    rfl
theorem f92_ok {g : Option Rat} (ha : rl a < 2 ^ 34) (hb : rl b < 2 ^ 34) (hg : rl (vx g) < 2 ^ 34) : C J 92 [sx (some a) (some b), rx g] (.bool (decide (cmpR a (vx g) ≤ 0) && decide (cmpR (vx g) b ≤ 0))) := by
  refine fn_ok Tryz.func92 rfl rfl rfl ?_
  have c1 := f27_x J (a := some a) (b := g) ha hg
  have c2 := f27_x J (a := g) (b := some b) hg hb
  have e1 : vx (some a) = a := rfl
  have e2 : vx (some b) = b := rfl
  rw [e1] at c1
  rw [e2] at c2
  by_cases h : cmpR a (vx g) ≤ 0
  · rw [decide_eq_true h]
    by_cases h2 : cmpR (vx g) b ≤ 0
    · rw [decide_eq_true h2]
      repeat (first | (refine W.RS (by kernel_rfl) ?_; conv => whnf) | (refine W.ret ?_; conv => whnf) | (refine ⟨_, c1, ?_⟩; conv => whnf) | (refine ⟨_, c2, ?_⟩; conv => whnf) | (refine ⟨true, decide_eq_true (by omega), ?_⟩; conv => whnf) | (refine ⟨rfl, ?_⟩; conv => whnf) | (refine ⟨_, fun _ => rfl, fun h => absurd h.symm Bool.false_ne_true, ?_⟩; conv => whnf))
      rfl
    · rw [decide_eq_false h2]
      repeat (first | (refine W.RS (by kernel_rfl) ?_; conv => whnf) | (refine W.ret ?_; conv => whnf) | (refine ⟨_, c1, ?_⟩; conv => whnf) | (refine ⟨_, c2, ?_⟩; conv => whnf) | (refine ⟨true, decide_eq_true (by omega), ?_⟩; conv => whnf) | (refine ⟨false, decide_eq_false (by omega), ?_⟩; conv => whnf) | (refine ⟨rfl, ?_⟩; conv => whnf) | (refine ⟨_, fun _ => rfl, fun h => absurd h.symm Bool.false_ne_true, ?_⟩; conv => whnf))
      rfl
  · rw [decide_eq_false h]
    repeat (first | (refine W.RS (by kernel_rfl) ?_; conv => whnf) | (refine W.ret ?_; conv => whnf) | (refine ⟨_, c1, ?_⟩; conv => whnf) | (refine ⟨false, decide_eq_false (by omega), ?_⟩; conv => whnf) | (refine ⟨rfl, ?_⟩; conv => whnf) | (refine ⟨_, fun h => absurd h Bool.false_ne_true, fun _ => rfl, ?_⟩; conv => whnf))
    rfl
theorem f28_ok (ha : rl a < 2 ^ 34) (hb : rl b < 2 ^ 34) : C J 28 [sx (some a) (some b)] (rr (b - a)) := by
  refine fn_ok Tryz.func28 rfl rfl rfl ?_
  have c1 := f64_ok J (DOk.rr b) (DOk.rr a) hb ha
  repeat (first | (refine W.RS (by kernel_rfl) ?_; conv => whnf) | (refine W.ret ?_; conv => whnf) | (refine ⟨_, c1, ?_⟩; conv => whnf))
  rfl
theorem f95_ok (ha : rl a < 2 ^ 31) (hb : rl b < 2 ^ 31) : C J 95 [sx (some a) (some b)] (rr ((a + b) * (((1 : Int) : Rat) / ((2 : Int) : Rat)))) := by
  refine fn_ok Tryz.func95 rfl rfl rfl ?_
  have c1 := f63_ok J (DOk.rr a) (DOk.rr b) (by omega) (by omega)
  have s1 := rl_add a b
  have c2 := f29_ok J (n := 1) (d := 2) (by omega) (by omega) (by omega) (by omega) (by omega)
  have s2 : rl (((1 : Int) : Rat) / ((2 : Int) : Rat)) < 2 ^ 5 := by
    have e : ((1 : Int) : Rat) / ((2 : Int) : Rat) = mkRat 1 2 := by rw [half]; rfl
    rw [e]
    have h := rl_ratio (z := 1) (d := 2) (by decide)
    have l1 : lh (1 : Int).natAbs ≤ 1 := lh_le (by decide)
    have l2 : lh 2 ≤ 1 := lh_le (by decide)
    omega
  have c3 := f65_ok J (DOk.rr (a + b)) (DOk.rr (((1 : Int) : Rat) / ((2 : Int) : Rat))) (by omega) (by omega)
  repeat (first | (refine W.RS (by kernel_rfl) ?_; conv => whnf) | (refine W.ret ?_; conv => whnf) | (refine ⟨_, c1, ?_⟩; conv => whnf) | (refine ⟨_, c2, ?_⟩; conv => whnf) | (refine ⟨_, c3, ?_⟩; conv => whnf))
  rfl
theorem f97_ok (ha : rl a < 2 ^ 34) (hb : rl b < 2 ^ 34) (hc : rl c < 2 ^ 34) (hd : rl d < 2 ^ 34) : C J 97 [sx (some a) (some b), sx (some c) (some d)] (sx (some (a + c)) (some (b + d))) := by
  refine fn_ok Tryz.func97 rfl rfl rfl ?_
  have c1 := f63_ok J (DOk.rr a) (DOk.rr c) ha hc
  have c2 := f63_ok J (DOk.rr b) (DOk.rr d) hb hd
  repeat (first | (refine W.RS (by kernel_rfl) ?_; conv => whnf) | (refine W.ret ?_; conv => whnf) | (refine ⟨_, c1, ?_⟩; conv => whnf) | (refine ⟨_, c2, ?_⟩; conv => whnf) | (refine ⟨rfl, ?_⟩; conv => whnf))
  rfl
theorem f99_ok (ha : rl a < 2 ^ 34) (hb : rl b < 2 ^ 34) (hc : rl c < 2 ^ 34) (hd : rl d < 2 ^ 34) : C J 99 [sx (some a) (some b), sx (some c) (some d)] (sx (some (a - d)) (some (b - c))) := by
  refine fn_ok Tryz.func99 rfl rfl rfl ?_
  have c1 := f64_ok J (DOk.rr a) (DOk.rr d) ha hd
  have c2 := f64_ok J (DOk.rr b) (DOk.rr c) hb hc
  repeat (first | (refine W.RS (by kernel_rfl) ?_; conv => whnf) | (refine W.ret ?_; conv => whnf) | (refine ⟨_, c1, ?_⟩; conv => whnf) | (refine ⟨_, c2, ?_⟩; conv => whnf) | (refine ⟨rfl, ?_⟩; conv => whnf))
  rfl
theorem f103_ok : C J 103 [sx (some a) (some b)] (sx (some (-b)) (some (-a))) := by
  refine fn_ok Tryz.func103 rfl rfl rfl ?_
  have c1 := f67_ok J (DOk.rr a)
  have c2 := f67_ok J (DOk.rr b)
  repeat (first | (refine W.RS (by kernel_rfl) ?_; conv => whnf) | (refine W.ret ?_; conv => whnf) | (refine ⟨_, c1, ?_⟩; conv => whnf) | (refine ⟨_, c2, ?_⟩; conv => whnf) | (refine ⟨rfl, ?_⟩; conv => whnf))
  rfl
theorem f73_2 (ha : rl a < 2 ^ 34) (hb : rl b < 2 ^ 34) : C J 73 [.sl [rr a, rr b]] (rr (minL [a, b])) := by
  have := f73_ok J (l := [some a, some b]) (by simp) (by intro x hx; simp at hx; rcases hx with rfl | rfl <;> assumption)
  have h := chooseE_some (fun c => decide (c < 0)) [a, b] (by simp)
  simp only [List.map_cons, List.map_nil] at h
  rw [h] at this
  exact this
theorem f74_2 (ha : rl a < 2 ^ 34) (hb : rl b < 2 ^ 34) : C J 74 [.sl [rr a, rr b]] (rr (maxL [a, b])) := by
  have := f74_ok J (l := [some a, some b]) (by simp) (by intro x hx; simp at hx; rcases hx with rfl | rfl <;> assumption)
  have h := chooseE_some (fun c => decide (c > 0)) [a, b] (by simp)
  simp only [List.map_cons, List.map_nil] at h
  rw [h] at this
  exact this
theorem f105_ok (ha : rl a < 2 ^ 33) (hb : rl b < 2 ^ 33) (hc : rl c < 2 ^ 33) : C J 105 [sx (some a) (some b), rr c] (sx (some (minL [a * c, b * c])) (some (maxL [a * c, b * c]))) := by
  refine fn_ok Tryz.func105 rfl rfl rfl ?_
  have m1 := rl_mul a c
  have m2 := rl_mul b c
  have d1 := f65_ok J (DOk.rr a) (DOk.rr c) (by omega) (by omega)
  have d2 := f65_ok J (DOk.rr b) (DOk.rr c) (by omega) (by omega)
  have c1 := f73_2 (J := J) (a := a * c) (b := b * c) (by omega) (by omega)
  have c2 := f74_2 (J := J) (a := a * c) (b := b * c) (by omega) (by omega)
  repeat (first | (refine W.RS (by kernel_rfl) ?_; conv => whnf) | (refine W.ret ?_; conv => whnf) | (refine ⟨_, d1, ?_⟩; conv => whnf) | (refine ⟨_, d2, ?_⟩; conv => whnf) | (refine ⟨_, c1, ?_⟩; conv => whnf) | (refine ⟨_, c2, ?_⟩; conv => whnf) | (refine ⟨rfl, ?_⟩; conv => whnf))
  rfl
theorem f110_ok (ha : rl a < 2 ^ 34) (hb : rl b < 2 ^ 34) (hc : rl c < 2 ^ 34) (hd : rl d < 2 ^ 34) : C J 110 [sx (some a) (some b), sx (some c) (some d)] (sx (some (minL [a, c])) (some (maxL [b, d]))) := by
  refine fn_ok Tryz.func110 rfl rfl rfl ?_
  have c1 := f73_2 (J := J) ha hc
  have c2 := f74_2 (J := J) hb hd
  repeat (first | (refine W.RS (by kernel_rfl) ?_; conv => whnf) | (refine W.ret ?_; conv => whnf) | (refine ⟨_, c1, ?_⟩; conv => whnf) | (refine ⟨_, c2, ?_⟩; conv => whnf) | (refine ⟨rfl, ?_⟩; conv => whnf))
  rfl
theorem rl_max {l : List Rat} {N : Nat} (h : ∀ x ∈ l, rl x < N) (h0 : 1 < N) (f : Int → Bool) : rl (chooseL f l) < N := chooseL_all f (P := fun x => rl x < N) (by have := rl_zero; omega) h
theorem f107_ok (ha : rl a < 2 ^ 34) (hb : rl b < 2 ^ 34) (hc : rl c < 2 ^ 34) (hd : rl d < 2 ^ 34) : C J 107 [sx (some a) (some b), sx (some c) (some d)] (if cmpR (maxL [a, c]) (minL [b, d]) ≤ 0 then .tup [sx (some (maxL [a, c])) (some (minL [b, d])), .bool true] else .tup [sx none none, .bool false]) := by
  refine fn_ok Tryz.func107 rfl rfl rfl ?_
  have c1 := f74_2 (J := J) ha hc
  have c2 := f73_2 (J := J) hb hd
  have h1 : rl (maxL [a, c]) < 2 ^ 34 := rl_max (mem2 (P := fun x => rl x < 2 ^ 34) ha hc) (by decide) _
  have h2 : rl (minL [b, d]) < 2 ^ 34 := rl_max (mem2 (P := fun x => rl x < 2 ^ 34) hb hd) (by decide) _
  have c3 := f26_ok (J := J) (e := some (maxL [a, c])) (f := some (minL [b, d])) h1 h2
  have e0 : sx none none = .agg [.int .i64 0, .sl [], .int .i64 0, .sl [], .int .i64 0, .sl [], .int .i64 0, .sl []] := by
    show IV.agg [.int .i64 0, .sl ((dh 0).map d64), .int .i64 0, .sl [], .int .i64 0, .sl ((dh 0).map d64), .int .i64 0, .sl []] = _
    rw [dh_zero]; rfl
  have e1 : vx (some (maxL [a, c])) = maxL [a, c] := rfl
  have e2 : vx (some (minL [b, d])) = minL [b, d] := rfl
  rw [e1, e2] at c3
  by_cases h : cmpR (maxL [a, c]) (minL [b, d]) ≤ 0
  · rw [if_pos h]
    rw [decide_eq_true h] at c3
    repeat (first | (refine W.RS (by kernel_rfl) ?_; conv => whnf) | (refine W.S ?_) | (refine W.ret ?_; conv => whnf) | (refine W.skip ?_; conv => whnf) | (refine W.condF rfl ?_) | (refine ⟨_, c1, ?_⟩; conv => whnf) | (refine ⟨_, c2, ?_⟩; conv => whnf) | (refine ⟨_, c3, ?_⟩; conv => whnf) | (refine ⟨_, rfl, ?_⟩; conv => whnf) | (refine ⟨rfl, ?_⟩; conv => whnf))
    rfl
  · rw [if_neg h, e0]
    rw [decide_eq_false h] at c3
    repeat (first | (refine W.RS (by kernel_rfl) ?_; conv => whnf) | (refine W.S ?_) | (refine W.ret ?_; conv => whnf) | (refine W.condT rfl ?_) | (refine ⟨_, c1, ?_⟩; conv => whnf) | (refine ⟨_, c2, ?_⟩; conv => whnf) | (refine ⟨_, c3, ?_⟩; conv => whnf) | (refine ⟨_, rfl, ?_⟩; conv => whnf) | (refine ⟨rfl, ?_⟩; conv => whnf))
    rfl
theorem f112_ok (ha : rl a < 2 ^ 30) (hb : rl b < 2 ^ 30) (k : Int) : C J 112 [sx (some a) (some b), .int .i64 k] (sx (some (((a * (((gk k : Nat) : Int) : Rat)).floor : Rat) * mkRat 1 (gk k))) (some (-((-(b * (((gk k : Nat) : Int) : Rat))).floor : Rat) * mkRat 1 (gk k)))) := by
  refine fn_ok Tryz.func112 rfl rfl rfl ?_
  have c1 := f38_ok J (DOk.rr a) ha k
  have c2 := f39_ok J (DOk.rr b) hb k
  repeat (first | (refine W.RS (by kernel_rfl) ?_; conv => whnf) | (refine W.ret ?_; conv => whnf) | (refine ⟨_, c1, ?_⟩; conv => whnf) | (refine ⟨_, c2, ?_⟩; conv => whnf) | (refine ⟨rfl, ?_⟩; conv => whnf))
  rfl
theorem f114_ok (ha : rl a < 2 ^ 33) (hb : rl b < 2 ^ 33) : C J 114 [sx (some a) (some b)] (.str ([91] ++ qtext a ++ [32] ++ qtext b ++ [93])) := by
  refine fn_ok Tryz.func114 rfl rfl rfl ?_
  have c1 := f150_ok J (DOk.rr a) (by omega)
  have c2 := f150_ok J (DOk.rr b) (by omega)
  have t : ∀ q : Rat, rl q < 2 ^ 33 → (qtext q).length < 2 ^ 42 := fun q h => by
    unfold rl at h
    have l1 := ztext_len q.num
    have l2 := decN_lh q.num.natAbs
    have l3 := decN_lh q.den
    unfold qtext
    split <;> simp <;> omega
  have t1 := t a ha
  have t2 := t b hb
  repeat (first | (refine W.RS (by kernel_rfl) ?_; conv => whnf) | (refine W.ret ?_; conv => whnf) | (refine ⟨_, c1, ?_⟩; conv => whnf) | (refine ⟨_, c2, ?_⟩; conv => whnf) | (refine ⟨by simp; omega, ?_⟩; conv => whnf) | (refine ⟨rfl, ?_⟩; conv => whnf))
  rfl
theorem f118_ok (ha : rl a < 2 ^ 34) (hb : rl b < 2 ^ 34) : C J 118 [sx (some a) (some b)] (if 0 ≤ a.num then sx (some a) (some b) else if b.num ≤ 0 then sx (some (-b)) (some (-a)) else sx none (some (maxL [-a, b]))) := by
  refine fn_ok Tryz.func118 rfl rfl rfl ?_
  have c1 := f59_ok (a := a) (d1 := .int .i64 1) (d2 := .sl ((dh a.den).map d64)) J
  have c2 := f59_ok (a := b) (d1 := .int .i64 1) (d2 := .sl ((dh b.den).map d64)) J
  have c3 := f103_ok (J := J) (a := a) (b := b)
  have c4 := f67_ok J (DOk.rr a)
  have hn : rl (-a) < 2 ^ 34 := by rw [rl_neg]; exact ha
  have c5 := f74_2 (J := J) hn hb
  have h1 : -1 ≤ a.num.sign ∧ a.num.sign ≤ 1 ∧ (a.num.sign ≥ 0 ↔ 0 ≤ a.num) := ⟨by have := sign3 a.num; omega, by have := sign3 a.num; omega, Int.sign_nonneg_iff⟩
  have h2 : -1 ≤ b.num.sign ∧ b.num.sign ≤ 1 ∧ (b.num.sign ≤ 0 ↔ b.num ≤ 0) := ⟨by have := sign3 b.num; omega, by have := sign3 b.num; omega, Int.sign_nonpos_iff⟩
  have z0 : ∀ g, sx none g = .agg [.int .i64 0, .sl [], .int .i64 0, .sl [], .int .i64 (vx g).num.sign, .sl ((dh (vx g).num.natAbs).map d64), dx1 g, dx2 g] := fun g => by
    show IV.agg [.int .i64 0, .sl ((dh 0).map d64), .int .i64 0, .sl [], _, _, _, _] = _
    rw [dh_zero]; rfl
  by_cases k1 : 0 ≤ a.num
  · rw [if_pos k1]
    repeat (first | (refine W.RS (by kernel_rfl) ?_; conv => whnf) | (refine W.S ?_) | (refine W.ret ?_; conv => whnf) | (refine W.condT rfl ?_) | (refine ⟨_, c1, ?_⟩; conv => whnf) | (refine ⟨true, decide_eq_true (by omega), ?_⟩; conv => whnf) | (refine ⟨rfl, ?_⟩; conv => whnf))
    rfl
  · rw [if_neg k1]
    by_cases k2 : b.num ≤ 0
    · rw [if_pos k2]
      repeat (first | (refine W.RS (by kernel_rfl) ?_; conv => whnf) | (refine W.S ?_) | (refine W.ret ?_; conv => whnf) | (refine W.skip ?_; conv => whnf) | (refine W.condF rfl ?_) | (refine W.condT rfl ?_) | (refine ⟨_, c1, ?_⟩; conv => whnf) | (refine ⟨_, c2, ?_⟩; conv => whnf) | (refine ⟨_, c3, ?_⟩; conv => whnf) | (refine ⟨true, decide_eq_true (by omega), ?_⟩; conv => whnf) | (refine ⟨false, decide_eq_false (by omega), ?_⟩; conv => whnf) | (refine ⟨rfl, ?_⟩; conv => whnf))
      rfl
    · rw [if_neg k2, z0]
      repeat (first | (refine W.RS (by kernel_rfl) ?_; conv => whnf) | (refine W.S ?_) | (refine W.ret ?_; conv => whnf) | (refine W.skip ?_; conv => whnf) | (refine W.condF rfl ?_) | (refine ⟨_, c1, ?_⟩; conv => whnf) | (refine ⟨_, c2, ?_⟩; conv => whnf) | (refine ⟨_, c4, ?_⟩; conv => whnf) | (refine ⟨_, c5, ?_⟩; conv => whnf) | (refine ⟨false, decide_eq_false (by omega), ?_⟩; conv => whnf) | (refine ⟨rfl, ?_⟩; conv => whnf))
      rfl
end
end Go.Proofs.Fl
namespace Go.Proofs.Fl
open Go.RowKit Go.Proofs.Dig
attribute [local irreducible] IntKind.wrap PureC MutC MakC IterC
section
variable {J : Keep} {a b c d : Rat} {e f : Option Rat}
theorem wq2 {k : Nat} (h : k ≤ 4) : IntKind.wrap .i64 (((k : Nat) : Int).tdiv 2) = ((k / 2 : Nat) : Int) := by
  rw [show (2 : Int) = ((2 : Nat) : Int) from rfl, tdivN]; exact w64 (by omega)
theorem wm2 (k : Nat) : ((k : Nat) : Int).tmod 2 = ((k % 2 : Nat) : Int) := tmodN k 2
theorem f73_4 (ha : rl a < 2 ^ 34) (hb : rl b < 2 ^ 34) (hc : rl c < 2 ^ 34) (hd : rl d < 2 ^ 34) : C J 73 [.sl [rr a, rr b, rr c, rr d]] (rr (minL [a, b, c, d])) := by
  have := f73_ok J (l := [some a, some b, some c, some d]) (by simp) (by intro x hx; simp at hx; rcases hx with rfl | rfl | rfl | rfl <;> assumption)
  have h := chooseE_some (fun c => decide (c < 0)) [a, b, c, d] (by simp)
  simp only [List.map_cons, List.map_nil] at h
  rw [h] at this
  exact this
theorem f74_4 (ha : rl a < 2 ^ 34) (hb : rl b < 2 ^ 34) (hc : rl c < 2 ^ 34) (hd : rl d < 2 ^ 34) : C J 74 [.sl [rr a, rr b, rr c, rr d]] (rr (maxL [a, b, c, d])) := by
  have := f74_ok J (l := [some a, some b, some c, some d]) (by simp) (by intro x hx; simp at hx; rcases hx with rfl | rfl | rfl | rfl <;> assumption)
  have h := chooseE_some (fun c => decide (c > 0)) [a, b, c, d] (by simp)
  simp only [List.map_cons, List.map_nil] at h
  rw [h] at this
  exact this
theorem oneX {z x : IV} {n : Nat} (h1 : x.cells.length = n) (h2 : x.isTup = false) : ∀ y ∈ List.take 1 (List.drop 0 ((List.replicate 1 z).set 0 x)), y.cells.length = n ∧ y.isTup = false := by
  intro y hy
  simp at hy; subst hy; exact ⟨h1, h2⟩
set_option maxHeartbeats 4000000 in
theorem f180_mul (ha : rl a < 2 ^ 32) (hb : rl b < 2 ^ 32) (hc : rl c < 2 ^ 32) (hd : rl d < 2 ^ 32) : C J 180 [sx (some a) (some b), sx (some c) (some d), .bool false] (sx (some (minL (mulE a b c d))) (some (maxL (mulE a b c d)))) := by
  refine fn_ok Tryz.func180 rfl rfl rfl ?_
  have m1 := rl_mul a c
  have m2 := rl_mul a d
  have m3 := rl_mul b c
  have m4 := rl_mul b d
  have d1 := f65_ok J (DOk.rr a) (DOk.rr c) (by omega) (by omega)
  have d2 := f65_ok J (DOk.rr a) (DOk.rr d) (by omega) (by omega)
  have d3 := f65_ok J (DOk.rr b) (DOk.rr c) (by omega) (by omega)
  have d4 := f65_ok J (DOk.rr b) (DOk.rr d) (by omega) (by omega)
  have e1 : C J 73 [.sl [rr (a * c), rr (a * d), rr (b * c), rr (b * d)]] (rr (minL (mulE a b c d))) := f73_4 (by omega) (by omega) (by omega) (by omega)
  have e2 : C J 74 [.sl [rr (a * c), rr (a * d), rr (b * c), rr (b * d)]] (rr (maxL (mulE a b c d))) := f74_4 (by omega) (by omega) (by omega) (by omega)
  repeat (first | (refine W.RS (by kernel_rfl) ?_; conv => whnf) | (refine W.S ?_) | (refine W.block ?_) | (refine ⟨rfl, ?_⟩; conv => whnf))
  refine W.loop (G := { k : Nat // k ≤ 4 }) (fun k => mkA [(2, .iv (.bool false)), (6, .ptr 2 0), (7, if k.1 = 0 then .nilS else .ref 5 0 k.1 true), (8, .ref 3 0 2 true), (9, .ref 4 0 2 true), (10, .iv (.int .i64 (k.1 : Nat)))]
      ([(2, .var (.agg [.int .i64 0, .sl [], .int .i64 0, .sl [], .int .i64 0, .sl [], .int .i64 0, .sl []])), (3, .arr 37 4 [rr a, rr b] false), (4, .arr 37 4 [rr c, rr d] false)] ++ if k.1 = 0 then [] else [(5, .arr 37 4 (([a * c, a * d, b * c, b * d].take k.1).map rr) false)]) 40) (fun k => 4 - k.1) ⟨0, Nat.zero_le _⟩
    (Wk.tab [(3, 8), (4, 13)] ⟨⟨rfl, rfl⟩, ⟨rfl, rfl⟩, ⟨rfl, rfl⟩, ⟨rfl, rfl⟩, ⟨rfl, rfl⟩, ⟨rfl, rfl⟩, trivial⟩ (show boxesW _ _ [(2, _), (3, _), (4, _)] from ⟨rfl, rfl, rfl, trivial⟩) rfl) ?_
  rintro ⟨k, hk⟩
  rcases (show k = 0 ∨ k = 1 ∨ k = 2 ∨ k = 3 ∨ k = 4 by omega) with rfl | rfl | rfl | rfl | rfl
  · show W J _ _ (mkA [(2, .iv (.bool false)), (6, .ptr 2 0), (7, .nilS), (8, .ref 3 0 2 true), (9, .ref 4 0 2 true), (10, .iv (.int .i64 ((0 : Nat) : Int)))] [(2, .var (.agg [.int .i64 0, .sl [], .int .i64 0, .sl [], .int .i64 0, .sl [], .int .i64 0, .sl []])), (3, .arr 37 4 [rr a, rr b] false), (4, .arr 37 4 [rr c, rr d] false)] 40) _
    repeat (first | (refine W.RS (by kernel_rfl) ?_; conv => whnf) | (refine W.R (by kernel_rfl) ?_; conv => whnf) | (refine W.S ?_) | (refine W.block ?_) | (refine W.skip ?_; conv => whnf) | (refine W.condF rfl ?_) | (refine W.condT rfl ?_) | (refine ⟨_, d1, ?_⟩; conv => whnf) | (refine ⟨by omega, _, wq2 (k := 0) (by omega), ?_⟩; conv => whnf) | (refine ⟨by omega, _, wm2 0, ?_⟩; conv => whnf) | (refine ⟨oneX rfl rfl, Nat.le_of_ble_eq_true rfl, Nat.le_of_ble_eq_true rfl, ?_⟩; conv => whnf) | (refine ⟨rfl, _, w64 (by omega), ?_⟩; conv => whnf) | (refine ⟨(rfl : (_ : Nat) = _), _, rfl, by omega, ?_⟩; conv => whnf) | (refine ⟨true, decide_eq_true (by omega), ?_⟩; conv => whnf) | (refine ⟨_, rfl, ?_⟩; conv => whnf) | (refine ⟨rfl, ?_⟩; conv => whnf))
    exact ⟨⟨1, by omega⟩, Wk.tab [(5, 56)] ⟨⟨rfl, rfl⟩, ⟨rfl, rfl⟩, ⟨rfl, rfl⟩, ⟨rfl, rfl⟩, ⟨rfl, rfl⟩, ⟨rfl, rfl⟩, trivial⟩ (show boxesW _ _ [(2, _), (3, _), (4, _), (5, _)] from ⟨rfl, rfl, rfl, rfl, trivial⟩) rfl, by dsimp only; omega⟩
  · show W J _ _ (mkA [(2, .iv (.bool false)), (6, .ptr 2 0), (7, .ref 5 0 1 true), (8, .ref 3 0 2 true), (9, .ref 4 0 2 true), (10, .iv (.int .i64 ((1 : Nat) : Int)))] [(2, .var (.agg [.int .i64 0, .sl [], .int .i64 0, .sl [], .int .i64 0, .sl [], .int .i64 0, .sl []])), (3, .arr 37 4 [rr a, rr b] false), (4, .arr 37 4 [rr c, rr d] false), (5, .arr 37 4 [rr (a * c)] false)] 40) _
    repeat (first | (refine W.RS (by kernel_rfl) ?_; conv => whnf) | (refine W.R (by kernel_rfl) ?_; conv => whnf) | (refine W.S ?_) | (refine W.block ?_) | (refine W.skip ?_; conv => whnf) | (refine W.condF rfl ?_) | (refine W.condT rfl ?_) | (refine ⟨_, d2, ?_⟩; conv => whnf) | (refine ⟨by omega, _, wq2 (k := 1) (by omega), ?_⟩; conv => whnf) | (refine ⟨by omega, _, wm2 1, ?_⟩; conv => whnf) | (refine ⟨nin1 rfl, rfl, rfl, rfl, oneX rfl rfl, Nat.le_of_ble_eq_true rfl, Nat.le_of_ble_eq_true rfl, ?_⟩; conv => whnf) | (refine ⟨rfl, _, w64 (by omega), ?_⟩; conv => whnf) | (refine ⟨rfl, _, castA _, ?_⟩; conv => whnf) | (refine ⟨(rfl : (_ : Nat) = _), _, rfl, by omega, ?_⟩; conv => whnf) | (refine ⟨true, decide_eq_true (by omega), ?_⟩; conv => whnf) | (refine ⟨_, rfl, ?_⟩; conv => whnf) | (refine ⟨rfl, ?_⟩; conv => whnf) | (refine And.intro (by omega) ?_; conv => whnf))
    exact ⟨⟨2, by omega⟩, Wk.tab [(5, 56)] ⟨⟨rfl, rfl⟩, ⟨rfl, rfl⟩, ⟨rfl, rfl⟩, ⟨rfl, rfl⟩, ⟨rfl, rfl⟩, ⟨rfl, rfl⟩, trivial⟩ (show boxesW _ _ [(2, _), (3, _), (4, _), (5, _)] from ⟨rfl, rfl, rfl, rfl, trivial⟩) rfl, by dsimp only; omega⟩
  · show W J _ _ (mkA [(2, .iv (.bool false)), (6, .ptr 2 0), (7, .ref 5 0 2 true), (8, .ref 3 0 2 true), (9, .ref 4 0 2 true), (10, .iv (.int .i64 ((2 : Nat) : Int)))] [(2, .var (.agg [.int .i64 0, .sl [], .int .i64 0, .sl [], .int .i64 0, .sl [], .int .i64 0, .sl []])), (3, .arr 37 4 [rr a, rr b] false), (4, .arr 37 4 [rr c, rr d] false), (5, .arr 37 4 [rr (a * c), rr (a * d)] false)] 40) _
    repeat (first | (refine W.RS (by kernel_rfl) ?_; conv => whnf) | (refine W.R (by kernel_rfl) ?_; conv => whnf) | (refine W.S ?_) | (refine W.block ?_) | (refine W.skip ?_; conv => whnf) | (refine W.condF rfl ?_) | (refine W.condT rfl ?_) | (refine ⟨_, d3, ?_⟩; conv => whnf) | (refine ⟨by omega, _, wq2 (k := 2) (by omega), ?_⟩; conv => whnf) | (refine ⟨by omega, _, wm2 2, ?_⟩; conv => whnf) | (refine ⟨nin1 rfl, rfl, rfl, rfl, oneX rfl rfl, Nat.le_of_ble_eq_true rfl, Nat.le_of_ble_eq_true rfl, ?_⟩; conv => whnf) | (refine ⟨rfl, _, w64 (by omega), ?_⟩; conv => whnf) | (refine ⟨rfl, _, castA _, ?_⟩; conv => whnf) | (refine ⟨(rfl : (_ : Nat) = _), _, rfl, by omega, ?_⟩; conv => whnf) | (refine ⟨true, decide_eq_true (by omega), ?_⟩; conv => whnf) | (refine ⟨_, rfl, ?_⟩; conv => whnf) | (refine ⟨rfl, ?_⟩; conv => whnf) | (refine And.intro (by omega) ?_; conv => whnf))
    exact ⟨⟨3, by omega⟩, Wk.tab [(5, 56)] ⟨⟨rfl, rfl⟩, ⟨rfl, rfl⟩, ⟨rfl, rfl⟩, ⟨rfl, rfl⟩, ⟨rfl, rfl⟩, ⟨rfl, rfl⟩, trivial⟩ (show boxesW _ _ [(2, _), (3, _), (4, _), (5, _)] from ⟨rfl, rfl, rfl, rfl, trivial⟩) rfl, by dsimp only; omega⟩
  · show W J _ _ (mkA [(2, .iv (.bool false)), (6, .ptr 2 0), (7, .ref 5 0 3 true), (8, .ref 3 0 2 true), (9, .ref 4 0 2 true), (10, .iv (.int .i64 ((3 : Nat) : Int)))] [(2, .var (.agg [.int .i64 0, .sl [], .int .i64 0, .sl [], .int .i64 0, .sl [], .int .i64 0, .sl []])), (3, .arr 37 4 [rr a, rr b] false), (4, .arr 37 4 [rr c, rr d] false), (5, .arr 37 4 [rr (a * c), rr (a * d), rr (b * c)] false)] 40) _
    repeat (first | (refine W.RS (by kernel_rfl) ?_; conv => whnf) | (refine W.R (by kernel_rfl) ?_; conv => whnf) | (refine W.S ?_) | (refine W.block ?_) | (refine W.skip ?_; conv => whnf) | (refine W.condF rfl ?_) | (refine W.condT rfl ?_) | (refine ⟨_, d4, ?_⟩; conv => whnf) | (refine ⟨by omega, _, wq2 (k := 3) (by omega), ?_⟩; conv => whnf) | (refine ⟨by omega, _, wm2 3, ?_⟩; conv => whnf) | (refine ⟨nin1 rfl, rfl, rfl, rfl, oneX rfl rfl, Nat.le_of_ble_eq_true rfl, Nat.le_of_ble_eq_true rfl, ?_⟩; conv => whnf) | (refine ⟨rfl, _, w64 (by omega), ?_⟩; conv => whnf) | (refine ⟨rfl, _, castA _, ?_⟩; conv => whnf) | (refine ⟨true, decide_eq_true (by omega), ?_⟩; conv => whnf) | (refine ⟨_, rfl, ?_⟩; conv => whnf) | (refine ⟨rfl, ?_⟩; conv => whnf) | (refine And.intro (by omega) ?_; conv => whnf))
    exact ⟨⟨4, by omega⟩, Wk.tab [(5, 56)] ⟨⟨rfl, rfl⟩, ⟨rfl, rfl⟩, ⟨rfl, rfl⟩, ⟨rfl, rfl⟩, ⟨rfl, rfl⟩, ⟨rfl, rfl⟩, trivial⟩ (show boxesW _ _ [(2, _), (3, _), (4, _), (5, _)] from ⟨rfl, rfl, rfl, rfl, trivial⟩) rfl, by dsimp only; omega⟩
  · show W J _ _ (mkA [(2, .iv (.bool false)), (6, .ptr 2 0), (7, .ref 5 0 4 true), (8, .ref 3 0 2 true), (9, .ref 4 0 2 true), (10, .iv (.int .i64 ((4 : Nat) : Int)))] [(2, .var (.agg [.int .i64 0, .sl [], .int .i64 0, .sl [], .int .i64 0, .sl [], .int .i64 0, .sl []])), (3, .arr 37 4 [rr a, rr b] false), (4, .arr 37 4 [rr c, rr d] false), (5, .arr 37 4 [rr (a * c), rr (a * d), rr (b * c), rr (b * d)] false)] 40) _
    repeat (first | (refine W.RS (by kernel_rfl) ?_; conv => whnf) | (refine W.S ?_) | (refine W.ret ?_; conv => whnf) | (refine W.exit ?_; conv => whnf) | (refine W.condF rfl ?_) | (refine ⟨_, e1, ?_⟩; conv => whnf) | (refine ⟨_, e2, ?_⟩; conv => whnf) | (refine ⟨false, decide_eq_false (by omega), ?_⟩; conv => whnf) | (refine ⟨rfl, ?_⟩; conv => whnf))
    rfl
end
end Go.Proofs.Fl
namespace Go.Proofs.Fl
open Go.RowKit Go.Proofs.Dig
attribute [local irreducible] IntKind.wrap PureC MutC MakC IterC
theorem rl_div (a b : Rat) : rl (a / b) ≤ rl a + rl b + 1 := by
  by_cases hb : b = 0
  · rw [hb, Rat.div_def, Rat.inv_zero, Rat.mul_zero]
    have := rl_zero; omega
  · have hi : b⁻¹.num.natAbs = b.den ∧ b⁻¹.den = b.num.natAbs := by
      have hn0 : b.num ≠ 0 := fun e => hb (Rat.num_eq_zero.1 e)
      show (Rat.inv b).num.natAbs = _ ∧ (Rat.inv b).den = _
      unfold Rat.inv
      split
      · simp
      · split
        · simp
        · omega
    have h := rl_mul a b⁻¹
    rw [← Rat.div_def] at h
    unfold rl at *
    rw [hi.1, hi.2] at h
    omega
section
variable {J : Keep} {a b c d : Rat} {e f : Option Rat}
set_option maxHeartbeats 4000000 in
theorem f180_div (ha : rl a < 2 ^ 32) (hb : rl b < 2 ^ 32) (hc : rl c < 2 ^ 32) (hd : rl d < 2 ^ 32) (c0 : c ≠ 0) (d0 : d ≠ 0) : C J 180 [sx (some a) (some b), sx (some c) (some d), .bool true] (sx (some (minL (divE a b c d))) (some (maxL (divE a b c d)))) := by
  refine fn_ok Tryz.func180 rfl rfl rfl ?_
  have m1 := rl_div a c
  have m2 := rl_div a d
  have m3 := rl_div b c
  have m4 := rl_div b d
  have d1 := f60_ok J (DOk.rr a) (DOk.rr c) (by omega) (by omega) c0
  have d2 := f60_ok J (DOk.rr a) (DOk.rr d) (by omega) (by omega) d0
  have d3 := f60_ok J (DOk.rr b) (DOk.rr c) (by omega) (by omega) c0
  have d4 := f60_ok J (DOk.rr b) (DOk.rr d) (by omega) (by omega) d0
  have e1 : C J 73 [.sl [rr (a / c), rr (a / d), rr (b / c), rr (b / d)]] (rr (minL (divE a b c d))) := f73_4 (by omega) (by omega) (by omega) (by omega)
  have e2 : C J 74 [.sl [rr (a / c), rr (a / d), rr (b / c), rr (b / d)]] (rr (maxL (divE a b c d))) := f74_4 (by omega) (by omega) (by omega) (by omega)
  repeat (first | (refine W.RS (by kernel_rfl) ?_; conv => whnf) | (refine W.S ?_) | (refine W.block ?_) | (refine ⟨rfl, ?_⟩; conv => whnf))
  refine W.loop (G := { k : Nat // k ≤ 4 }) (fun k => mkA [(2, .iv (.bool true)), (6, .ptr 2 0), (7, if k.1 = 0 then .nilS else .ref 5 0 k.1 true), (8, .ref 3 0 2 true), (9, .ref 4 0 2 true), (10, .iv (.int .i64 (k.1 : Nat)))]
      ([(2, .var (.agg [.int .i64 0, .sl [], .int .i64 0, .sl [], .int .i64 0, .sl [], .int .i64 0, .sl []])), (3, .arr 37 4 [rr a, rr b] false), (4, .arr 37 4 [rr c, rr d] false)] ++ if k.1 = 0 then [] else [(5, .arr 37 4 (([a / c, a / d, b / c, b / d].take k.1).map rr) false)]) 40) (fun k => 4 - k.1) ⟨0, Nat.zero_le _⟩
    (Wk.tab [(3, 8), (4, 13)] ⟨⟨rfl, rfl⟩, ⟨rfl, rfl⟩, ⟨rfl, rfl⟩, ⟨rfl, rfl⟩, ⟨rfl, rfl⟩, ⟨rfl, rfl⟩, trivial⟩ (show boxesW _ _ [(2, _), (3, _), (4, _)] from ⟨rfl, rfl, rfl, trivial⟩) rfl) ?_
  rintro ⟨k, hk⟩
  rcases (show k = 0 ∨ k = 1 ∨ k = 2 ∨ k = 3 ∨ k = 4 by omega) with rfl | rfl | rfl | rfl | rfl
  · show W J _ _ (mkA [(2, .iv (.bool true)), (6, .ptr 2 0), (7, .nilS), (8, .ref 3 0 2 true), (9, .ref 4 0 2 true), (10, .iv (.int .i64 ((0 : Nat) : Int)))] [(2, .var (.agg [.int .i64 0, .sl [], .int .i64 0, .sl [], .int .i64 0, .sl [], .int .i64 0, .sl []])), (3, .arr 37 4 [rr a, rr b] false), (4, .arr 37 4 [rr c, rr d] false)] 40) _
    repeat (first | (refine W.RS (by kernel_rfl) ?_; conv => whnf) | (refine W.R (by kernel_rfl) ?_; conv => whnf) | (refine W.S ?_) | (refine W.block ?_) | (refine W.skip ?_; conv => whnf) | (refine W.condT rfl ?_) | (refine ⟨_, d1, ?_⟩; conv => whnf) | (refine ⟨by omega, _, wq2 (k := 0) (by omega), ?_⟩; conv => whnf) | (refine ⟨by omega, _, wm2 0, ?_⟩; conv => whnf) | (refine ⟨oneX rfl rfl, Nat.le_of_ble_eq_true rfl, Nat.le_of_ble_eq_true rfl, ?_⟩; conv => whnf) | (refine ⟨rfl, _, w64 (by omega), ?_⟩; conv => whnf) | (refine ⟨(rfl : (_ : Nat) = _), _, rfl, by omega, ?_⟩; conv => whnf) | (refine ⟨true, decide_eq_true (by omega), ?_⟩; conv => whnf) | (refine ⟨_, rfl, ?_⟩; conv => whnf) | (refine ⟨rfl, ?_⟩; conv => whnf))
    exact ⟨⟨1, by omega⟩, Wk.tab [(5, 56)] ⟨⟨rfl, rfl⟩, ⟨rfl, rfl⟩, ⟨rfl, rfl⟩, ⟨rfl, rfl⟩, ⟨rfl, rfl⟩, ⟨rfl, rfl⟩, trivial⟩ (show boxesW _ _ [(2, _), (3, _), (4, _), (5, _)] from ⟨rfl, rfl, rfl, rfl, trivial⟩) rfl, by dsimp only; omega⟩
  · show W J _ _ (mkA [(2, .iv (.bool true)), (6, .ptr 2 0), (7, .ref 5 0 1 true), (8, .ref 3 0 2 true), (9, .ref 4 0 2 true), (10, .iv (.int .i64 ((1 : Nat) : Int)))] [(2, .var (.agg [.int .i64 0, .sl [], .int .i64 0, .sl [], .int .i64 0, .sl [], .int .i64 0, .sl []])), (3, .arr 37 4 [rr a, rr b] false), (4, .arr 37 4 [rr c, rr d] false), (5, .arr 37 4 [rr (a / c)] false)] 40) _
    repeat (first | (refine W.RS (by kernel_rfl) ?_; conv => whnf) | (refine W.R (by kernel_rfl) ?_; conv => whnf) | (refine W.S ?_) | (refine W.block ?_) | (refine W.skip ?_; conv => whnf) | (refine W.condT rfl ?_) | (refine ⟨_, d2, ?_⟩; conv => whnf) | (refine ⟨by omega, _, wq2 (k := 1) (by omega), ?_⟩; conv => whnf) | (refine ⟨by omega, _, wm2 1, ?_⟩; conv => whnf) | (refine ⟨nin1 rfl, rfl, rfl, rfl, oneX rfl rfl, Nat.le_of_ble_eq_true rfl, Nat.le_of_ble_eq_true rfl, ?_⟩; conv => whnf) | (refine ⟨rfl, _, w64 (by omega), ?_⟩; conv => whnf) | (refine ⟨rfl, _, castA _, ?_⟩; conv => whnf) | (refine ⟨(rfl : (_ : Nat) = _), _, rfl, by omega, ?_⟩; conv => whnf) | (refine ⟨true, decide_eq_true (by omega), ?_⟩; conv => whnf) | (refine ⟨_, rfl, ?_⟩; conv => whnf) | (refine ⟨rfl, ?_⟩; conv => whnf) | (refine And.intro (by omega) ?_; conv => whnf))
    exact ⟨⟨2, by omega⟩, Wk.tab [(5, 56)] ⟨⟨rfl, rfl⟩, ⟨rfl, rfl⟩, ⟨rfl, rfl⟩, ⟨rfl, rfl⟩, ⟨rfl, rfl⟩, ⟨rfl, rfl⟩, trivial⟩ (show boxesW _ _ [(2, _), (3, _), (4, _), (5, _)] from ⟨rfl, rfl, rfl, rfl, trivial⟩) rfl, by dsimp only; omega⟩
  · show W J _ _ (mkA [(2, .iv (.bool true)), (6, .ptr 2 0), (7, .ref 5 0 2 true), (8, .ref 3 0 2 true), (9, .ref 4 0 2 true), (10, .iv (.int .i64 ((2 : Nat) : Int)))] [(2, .var (.agg [.int .i64 0, .sl [], .int .i64 0, .sl [], .int .i64 0, .sl [], .int .i64 0, .sl []])), (3, .arr 37 4 [rr a, rr b] false), (4, .arr 37 4 [rr c, rr d] false), (5, .arr 37 4 [rr (a / c), rr (a / d)] false)] 40) _
    repeat (first | (refine W.RS (by kernel_rfl) ?_; conv => whnf) | (refine W.R (by kernel_rfl) ?_; conv => whnf) | (refine W.S ?_) | (refine W.block ?_) | (refine W.skip ?_; conv => whnf) | (refine W.condT rfl ?_) | (refine ⟨_, d3, ?_⟩; conv => whnf) | (refine ⟨by omega, _, wq2 (k := 2) (by omega), ?_⟩; conv => whnf) | (refine ⟨by omega, _, wm2 2, ?_⟩; conv => whnf) | (refine ⟨nin1 rfl, rfl, rfl, rfl, oneX rfl rfl, Nat.le_of_ble_eq_true rfl, Nat.le_of_ble_eq_true rfl, ?_⟩; conv => whnf) | (refine ⟨rfl, _, w64 (by omega), ?_⟩; conv => whnf) | (refine ⟨rfl, _, castA _, ?_⟩; conv => whnf) | (refine ⟨(rfl : (_ : Nat) = _), _, rfl, by omega, ?_⟩; conv => whnf) | (refine ⟨true, decide_eq_true (by omega), ?_⟩; conv => whnf) | (refine ⟨_, rfl, ?_⟩; conv => whnf) | (refine ⟨rfl, ?_⟩; conv => whnf) | (refine And.intro (by omega) ?_; conv => whnf))
    exact ⟨⟨3, by omega⟩, Wk.tab [(5, 56)] ⟨⟨rfl, rfl⟩, ⟨rfl, rfl⟩, ⟨rfl, rfl⟩, ⟨rfl, rfl⟩, ⟨rfl, rfl⟩, ⟨rfl, rfl⟩, trivial⟩ (show boxesW _ _ [(2, _), (3, _), (4, _), (5, _)] from ⟨rfl, rfl, rfl, rfl, trivial⟩) rfl, by dsimp only; omega⟩
  · show W J _ _ (mkA [(2, .iv (.bool true)), (6, .ptr 2 0), (7, .ref 5 0 3 true), (8, .ref 3 0 2 true), (9, .ref 4 0 2 true), (10, .iv (.int .i64 ((3 : Nat) : Int)))] [(2, .var (.agg [.int .i64 0, .sl [], .int .i64 0, .sl [], .int .i64 0, .sl [], .int .i64 0, .sl []])), (3, .arr 37 4 [rr a, rr b] false), (4, .arr 37 4 [rr c, rr d] false), (5, .arr 37 4 [rr (a / c), rr (a / d), rr (b / c)] false)] 40) _
    repeat (first | (refine W.RS (by kernel_rfl) ?_; conv => whnf) | (refine W.R (by kernel_rfl) ?_; conv => whnf) | (refine W.S ?_) | (refine W.block ?_) | (refine W.skip ?_; conv => whnf) | (refine W.condT rfl ?_) | (refine ⟨_, d4, ?_⟩; conv => whnf) | (refine ⟨by omega, _, wq2 (k := 3) (by omega), ?_⟩; conv => whnf) | (refine ⟨by omega, _, wm2 3, ?_⟩; conv => whnf) | (refine ⟨nin1 rfl, rfl, rfl, rfl, oneX rfl rfl, Nat.le_of_ble_eq_true rfl, Nat.le_of_ble_eq_true rfl, ?_⟩; conv => whnf) | (refine ⟨rfl, _, w64 (by omega), ?_⟩; conv => whnf) | (refine ⟨rfl, _, castA _, ?_⟩; conv => whnf) | (refine ⟨true, decide_eq_true (by omega), ?_⟩; conv => whnf) | (refine ⟨_, rfl, ?_⟩; conv => whnf) | (refine ⟨rfl, ?_⟩; conv => whnf) | (refine And.intro (by omega) ?_; conv => whnf))
    exact ⟨⟨4, by omega⟩, Wk.tab [(5, 56)] ⟨⟨rfl, rfl⟩, ⟨rfl, rfl⟩, ⟨rfl, rfl⟩, ⟨rfl, rfl⟩, ⟨rfl, rfl⟩, ⟨rfl, rfl⟩, trivial⟩ (show boxesW _ _ [(2, _), (3, _), (4, _), (5, _)] from ⟨rfl, rfl, rfl, rfl, trivial⟩) rfl, by dsimp only; omega⟩
  · show W J _ _ (mkA [(2, .iv (.bool true)), (6, .ptr 2 0), (7, .ref 5 0 4 true), (8, .ref 3 0 2 true), (9, .ref 4 0 2 true), (10, .iv (.int .i64 ((4 : Nat) : Int)))] [(2, .var (.agg [.int .i64 0, .sl [], .int .i64 0, .sl [], .int .i64 0, .sl [], .int .i64 0, .sl []])), (3, .arr 37 4 [rr a, rr b] false), (4, .arr 37 4 [rr c, rr d] false), (5, .arr 37 4 [rr (a / c), rr (a / d), rr (b / c), rr (b / d)] false)] 40) _
    repeat (first | (refine W.RS (by kernel_rfl) ?_; conv => whnf) | (refine W.S ?_) | (refine W.ret ?_; conv => whnf) | (refine W.exit ?_; conv => whnf) | (refine W.condF rfl ?_) | (refine ⟨_, e1, ?_⟩; conv => whnf) | (refine ⟨_, e2, ?_⟩; conv => whnf) | (refine ⟨false, decide_eq_false (by omega), ?_⟩; conv => whnf) | (refine ⟨rfl, ?_⟩; conv => whnf))
    rfl
theorem f101_ok (ha : rl a < 2 ^ 32) (hb : rl b < 2 ^ 32) (hc : rl c < 2 ^ 32) (hd : rl d < 2 ^ 32) : C J 101 [sx (some a) (some b), sx (some c) (some d)] (sx (some (minL (mulE a b c d))) (some (maxL (mulE a b c d)))) := by
  refine fn_ok Tryz.func101 rfl rfl rfl ?_
  repeat (first | (refine W.RS (by kernel_rfl) ?_; conv => whnf) | (refine W.ret ?_; conv => whnf) | (refine ⟨_, f180_mul ha hb hc hd, ?_⟩; conv => whnf))
  rfl
theorem f116_ok (ha : rl a < 2 ^ 32) (hb : rl b < 2 ^ 32) (hc : rl c < 2 ^ 32) (hd : rl d < 2 ^ 32) (c0 : c ≠ 0) (d0 : d ≠ 0) : C J 116 [sx (some a) (some b), sx (some c) (some d)] (sx (some (minL (divE a b c d))) (some (maxL (divE a b c d)))) := by
  refine fn_ok Tryz.func116 rfl rfl rfl ?_
  repeat (first | (refine W.RS (by kernel_rfl) ?_; conv => whnf) | (refine W.ret ?_; conv => whnf) | (refine ⟨_, f180_div ha hb hc hd c0 d0, ?_⟩; conv => whnf))
  rfl
def powE (a b : Rat) (n : Nat) : List (Option Rat) := if 0 < n ∧ n % 2 = 0 ∧ a.num < 0 ∧ 0 < b.num then [some (a ^ n), some (b ^ n), none] else [some (a ^ n), some (b ^ n)]
set_option maxHeartbeats 4000000 in
theorem f120_ok (ha : rl a < 2 ^ 22) (hb : rl b < 2 ^ 22) (k : Int) : C J 120 [sx (some a) (some b), .int .i64 k] (sx (chooseE (fun c => decide (c < 0)) (powE a b (intoN k 1000))) (chooseE (fun c => decide (c > 0)) (powE a b (intoN k 1000)))) := by
  refine fn_ok Tryz.func120 rfl rfl rfl ?_
  have c0 := f159_ok J k 1000
  obtain ⟨n, hn⟩ : ∃ n, intoN k 1000 = n := ⟨_, rfl⟩
  have hn1 : n ≤ 1000 := by rw [← hn]; unfold intoN; omega
  have hnn : intoN (n : Int) 1000 = n := by unfold intoN; omega
  rw [hn] at c0 ⊢
  have c1 := f69_ok J (DOk.rr a) (by omega) (n : Int)
  have c2 := f69_ok J (DOk.rr b) (by omega) (n : Int)
  rw [hnn] at c1 c2
  have s1 := rl_pow a n
  have s2 := rl_pow b n
  have m1 := Nat.mul_le_mul_right (rl a) hn1
  have m2 := Nat.mul_le_mul_right (rl b) hn1
  have g1 : rl (a ^ n) < 2 ^ 34 := by omega
  have g2 : rl (b ^ n) < 2 ^ 34 := by omega
  have c3 : C J 73 [.sl [rr (a ^ n), rr (b ^ n)]] _ := f73_ok J (l := [some (a ^ n), some (b ^ n)]) (by simp) (by intro x hx; simp at hx; rcases hx with rfl | rfl <;> assumption)
  have c4 : C J 74 [.sl [rr (a ^ n), rr (b ^ n)]] _ := f74_ok J (l := [some (a ^ n), some (b ^ n)]) (by simp) (by intro x hx; simp at hx; rcases hx with rfl | rfl <;> assumption)
  have g0 : rl 0 < 2 ^ 34 := by have := rl_zero; omega
  have c5 := f73_ok J (l := [some (a ^ n), some (b ^ n), none]) (by simp) (by intro x hx; simp at hx; rcases hx with rfl | rfl | rfl <;> assumption)
  have c6 := f74_ok J (l := [some (a ^ n), some (b ^ n), none]) (by simp) (by intro x hx; simp at hx; rcases hx with rfl | rfl | rfl <;> assumption)
  have er : [some (a ^ n), some (b ^ n), none].map rx = [rr (a ^ n), rr (b ^ n), .agg [.int .i64 0, .sl [], .int .i64 0, .sl []]] := by
    rw [← rq_zero]; rfl
  rw [er] at c5 c6
  have hm : ((n : Nat) : Int).tmod 2 = ((n % 2 : Nat) : Int) := tmodN n 2
  have d1 := f59_ok (a := a) (d1 := .int .i64 1) (d2 := .sl ((dh a.den).map d64)) J
  have d2 := f59_ok (a := b) (d1 := .int .i64 1) (d2 := .sl ((dh b.den).map d64)) J
  have e1 : -1 ≤ a.num.sign ∧ a.num.sign ≤ 1 ∧ (a.num.sign < 0 ↔ a.num < 0) := ⟨by have := sign3 a.num; omega, by have := sign3 a.num; omega, Int.sign_neg_iff⟩
  have e2 : -1 ≤ b.num.sign ∧ b.num.sign ≤ 1 ∧ (0 < b.num.sign ↔ 0 < b.num) := ⟨by have := sign3 b.num; omega, by have := sign3 b.num; omega, Int.sign_pos_iff⟩
  unfold powE
  by_cases h1 : 0 < n
  · by_cases h2 : n % 2 = 0
    · by_cases h3 : a.num < 0
      · by_cases h4 : 0 < b.num
        · rw [if_pos ⟨h1, h2, h3, h4⟩]
          repeat (first | (refine W.RS (by kernel_rfl) ?_; conv => whnf) | (refine W.R (by kernel_rfl) ?_; conv => whnf) | (refine W.S ?_) | (refine W.ret ?_; conv => whnf) | (refine W.condT rfl ?_) | (refine ⟨_, c0, ?_⟩; conv => whnf) | (refine ⟨_, c1, ?_⟩; conv => whnf) | (refine ⟨_, c2, ?_⟩; conv => whnf) | (refine ⟨_, d1, ?_⟩; conv => whnf) | (refine ⟨_, d2, ?_⟩; conv => whnf) | (refine ⟨by omega, _, hm, ?_⟩; conv => whnf) | (refine ⟨nin1 rfl, rfl, rfl, rfl, oneX rfl rfl, Nat.le_of_ble_eq_true rfl, Nat.le_of_ble_eq_true rfl, ?_⟩; conv => whnf) | (refine ⟨_, c5, ?_⟩; conv => whnf) | (refine ⟨_, c6, ?_⟩; conv => whnf) | (refine ⟨true, decide_eq_true (by omega), ?_⟩; conv => whnf) | (refine ⟨rfl, ?_⟩; conv => whnf) | (refine ⟨_, fun _ => rfl, fun h => absurd h.symm Bool.false_ne_true, ?_⟩; conv => whnf))
          rfl
        · rw [if_neg (fun h => h4 h.2.2.2)]
          repeat (first | (refine W.RS (by kernel_rfl) ?_; conv => whnf) | (refine W.S ?_) | (refine W.ret ?_; conv => whnf) | (refine W.skip ?_; conv => whnf) | (refine W.condF rfl ?_) | (refine ⟨_, c0, ?_⟩; conv => whnf) | (refine ⟨_, c1, ?_⟩; conv => whnf) | (refine ⟨_, c2, ?_⟩; conv => whnf) | (refine ⟨_, d1, ?_⟩; conv => whnf) | (refine ⟨_, d2, ?_⟩; conv => whnf) | (refine ⟨by omega, _, hm, ?_⟩; conv => whnf) | (refine ⟨_, c3, ?_⟩; conv => whnf) | (refine ⟨_, c4, ?_⟩; conv => whnf) | (refine ⟨true, decide_eq_true (by omega), ?_⟩; conv => whnf) | (refine ⟨false, decide_eq_false (by omega), ?_⟩; conv => whnf) | (refine ⟨rfl, ?_⟩; conv => whnf) | (refine ⟨_, fun _ => rfl, fun h => absurd h.symm Bool.false_ne_true, ?_⟩; conv => whnf))
          rfl
      · rw [if_neg (fun h => h3 h.2.2.1)]
        repeat (first | (refine W.RS (by kernel_rfl) ?_; conv => whnf) | (refine W.S ?_) | (refine W.ret ?_; conv => whnf) | (refine W.skip ?_; conv => whnf) | (refine W.condF rfl ?_) | (refine ⟨_, c0, ?_⟩; conv => whnf) | (refine ⟨_, c1, ?_⟩; conv => whnf) | (refine ⟨_, c2, ?_⟩; conv => whnf) | (refine ⟨_, d1, ?_⟩; conv => whnf) | (refine ⟨by omega, _, hm, ?_⟩; conv => whnf) | (refine ⟨_, c3, ?_⟩; conv => whnf) | (refine ⟨_, c4, ?_⟩; conv => whnf) | (refine ⟨true, decide_eq_true (by omega), ?_⟩; conv => whnf) | (refine ⟨false, decide_eq_false (by omega), ?_⟩; conv => whnf) | (refine ⟨rfl, ?_⟩; conv => whnf) | (refine ⟨_, fun h => absurd h Bool.false_ne_true, fun _ => rfl, ?_⟩; conv => whnf) | (refine ⟨_, fun _ => rfl, fun h => absurd h.symm Bool.false_ne_true, ?_⟩; conv => whnf))
        rfl
    · rw [if_neg (fun h => h2 h.2.1)]
      repeat (first | (refine W.RS (by kernel_rfl) ?_; conv => whnf) | (refine W.S ?_) | (refine W.ret ?_; conv => whnf) | (refine W.skip ?_; conv => whnf) | (refine W.condF rfl ?_) | (refine ⟨_, c0, ?_⟩; conv => whnf) | (refine ⟨_, c1, ?_⟩; conv => whnf) | (refine ⟨_, c2, ?_⟩; conv => whnf) | (refine ⟨by omega, _, hm, ?_⟩; conv => whnf) | (refine ⟨_, c3, ?_⟩; conv => whnf) | (refine ⟨_, c4, ?_⟩; conv => whnf) | (refine ⟨true, decide_eq_true (by omega), ?_⟩; conv => whnf) | (refine ⟨false, decide_eq_false (by omega), ?_⟩; conv => whnf) | (refine ⟨rfl, ?_⟩; conv => whnf) | (refine ⟨_, fun h => absurd h Bool.false_ne_true, fun _ => rfl, ?_⟩; conv => whnf) | (refine ⟨_, fun _ => rfl, fun h => absurd h.symm Bool.false_ne_true, ?_⟩; conv => whnf))
      rfl
  · rw [if_neg (fun h => h1 h.1)]
    repeat (first | (refine W.RS (by kernel_rfl) ?_; conv => whnf) | (refine W.S ?_) | (refine W.ret ?_; conv => whnf) | (refine W.skip ?_; conv => whnf) | (refine W.condF rfl ?_) | (refine ⟨_, c0, ?_⟩; conv => whnf) | (refine ⟨_, c1, ?_⟩; conv => whnf) | (refine ⟨_, c2, ?_⟩; conv => whnf) | (refine ⟨_, c3, ?_⟩; conv => whnf) | (refine ⟨_, c4, ?_⟩; conv => whnf) | (refine ⟨false, decide_eq_false (by omega), ?_⟩; conv => whnf) | (refine ⟨rfl, ?_⟩; conv => whnf) | (refine ⟨_, fun h => absurd h Bool.false_ne_true, fun _ => rfl, ?_⟩; conv => whnf))
    rfl
end
end Go.Proofs.Fl
namespace Go.Proofs.Fl
open Go.RowKit Go.Proofs.Dig
attribute [local irreducible] IntKind.wrap PureC MutC MakC IterC
def digB (c : UInt8) : Bool := decide (48 ≤ c.toNat ∧ c.toNat ≤ 57)
def digs (s : List UInt8) : Bool := !s.isEmpty && s.all digB
def intS (s : List UInt8) : Bool := digs s && (decide (s.length = 1) || decide (s.head? ≠ some 48))
def tenS : List UInt8 := [48, 49, 50, 51, 52, 53, 54, 55, 56, 57]
theorem ten_contains (c : UInt8) : tenS.contains c = digB c := by
  have : ∀ n : Fin 256, tenS.contains (UInt8.ofNat n.1) = digB (UInt8.ofNat n.1) := by decide +kernel
  have h := this ⟨c.toNat, c.toNat_lt⟩
  simpa using h
theorem dropWhile_nil {l : List UInt8} {p : UInt8 → Bool} : l.dropWhile p = [] ↔ l.all p = true := by
  induction l with
  | nil => simp
  | cons c l ih =>
    by_cases h : p c = true
    · rw [List.dropWhile_cons_of_pos h, ih]; simp [h]
    · rw [List.dropWhile_cons_of_neg h]; simp [h]
theorem takeWhile_mem {l : List UInt8} {p : UInt8 → Bool} {x : UInt8} (h : x ∈ l.takeWhile p) : p x = true := by
  induction l with
  | nil => simp at h
  | cons c l ih =>
    by_cases hc : p c = true
    · rw [List.takeWhile_cons_of_pos hc] at h
      rcases List.mem_cons.1 h with rfl | h
      · exact hc
      · exact ih h
    · rw [List.takeWhile_cons_of_neg hc] at h; simp at h
theorem trimS_nil {l : List UInt8} : Lib.trimS l tenS = [] ↔ l.all digB = true := by
  have e : (fun c => tenS.contains c) = digB := funext ten_contains
  unfold Lib.trimS Lib.trimLeftS Lib.trimRightS
  rw [e]
  constructor
  · intro h
    have h1 := dropWhile_nil.1 h
    rw [List.all_reverse] at h1
    -- what was dropped is of digits, what stays too
    have h2 : (l.reverse.takeWhile digB ++ l.reverse.dropWhile digB) = l.reverse := List.takeWhile_append_dropWhile
    have h3 : l.reverse.all digB = true := by
      rw [← h2, List.all_append, h1, Bool.and_true]
      rw [List.all_eq_true]
      intro x hx
      exact takeWhile_mem hx
    rwa [List.all_reverse] at h3
  · intro h
    have h1 : l.reverse.dropWhile digB = [] := dropWhile_nil.2 (by rwa [List.all_reverse])
    rw [h1]; rfl
theorem f189_set (J : Keep) {s : List UInt8} (hs : s.length ≤ 9223372036854775807) : C J 189 [.str s, .str tenS] (.str (Lib.trimS s tenS)) := by
  refine pure_lib ⟨_, Tryz.func189, rfl, rfl⟩ fun H w args hI hargs => ?_
  obtain ⟨u, v, rfl, hu, hv⟩ := hargs.two
  obtain ⟨s, rfl, rfl⟩ := VR.asStr hu
  obtain ⟨p, rfl, hp⟩ := VR.asStr hv
  rw [← hp]
  have hsz : p.size < 4294967281 := by rw [strSize, hp]; decide
  have hasc : ∀ (j : Nat) b, p.data.toList[j]? = some b → b.toNat < 128 := by rw [hp]; exact ascii_of_all (by decide)
  refine (Any.strings_Trim_laid Tryz.lays160 (by kernel_rfl) s p w (by rw [strSize]; exact hs) hsz hasc).mono ?_
  rintro e w' ⟨rfl, hb⟩
  exact ⟨_, rfl, fun H => .str _ _ (by simp), hb⟩
theorem f132_ok (J : Keep) {s : List UInt8} (hs : s.length ≤ 9223372036854775807) : C J 132 [.str s] (.bool (digs s)) := by
  refine fn_ok Tryz.func132 rfl rfl rfl ?_
  have c1 := f189_set J hs
  unfold digs
  by_cases h0 : s = []
  · subst h0
    repeat (first | (refine W.RS (by kernel_rfl) ?_; conv => whnf) | (refine W.ret ?_; conv => whnf) | (refine ⟨_, rfl, ?_⟩; conv => whnf) | (refine ⟨_, fun h => absurd h Bool.false_ne_true, fun _ => rfl, ?_⟩; conv => whnf))
    rfl
  · have e0 : (s == ([] : List UInt8)) = false := by rw [beq_eq_false_iff_ne]; exact h0
    have e1 : (!(s == ([] : List UInt8))) = true := by rw [e0]; rfl
    have e2 : (!s.isEmpty) = true := by simp [h0]
    rw [e2, Bool.true_and]
    have e3 : (Lib.trimS s tenS == ([] : List UInt8)) = s.all digB := by
      cases hb : s.all digB with
      | true => rw [beq_iff_eq]; exact trimS_nil.2 hb
      | false =>
        rw [beq_eq_false_iff_ne]
        intro e
        rw [trimS_nil.1 e] at hb; cases hb
    repeat (first | (refine W.RS (by kernel_rfl) ?_; conv => whnf) | (refine W.ret ?_; conv => whnf) | (refine ⟨_, e1, ?_⟩; conv => whnf) | (refine ⟨_, c1, ?_⟩; conv => whnf) | (refine ⟨_, e3, ?_⟩; conv => whnf) | (refine ⟨_, fun _ => rfl, fun h => absurd h.symm Bool.false_ne_true, ?_⟩; conv => whnf))
    rfl
theorem f128_ok (J : Keep) {s : List UInt8} (hs : s.length ≤ 9223372036854775807) : C J 128 [.str s] (.bool (intS s)) := by
  refine fn_ok Tryz.func128 rfl rfl rfl ?_
  have c1 := f132_ok J hs
  unfold intS
  cases hd : digs s with
  | false =>
    rw [hd] at c1
    repeat (first | (refine W.RS (by kernel_rfl) ?_; conv => whnf) | (refine W.ret ?_; conv => whnf) | (refine ⟨_, c1, ?_⟩; conv => whnf) | (refine ⟨_, fun h => absurd h Bool.false_ne_true, fun _ => rfl, ?_⟩; conv => whnf))
    rfl
  | true =>
    rw [hd] at c1
    rw [Bool.true_and]
    cases s with
    | nil => cases hd
    | cons c s =>
      by_cases h1 : (c :: s).length = 1
      · have h1' : s.length + 1 = 1 := h1
        rw [decide_eq_true h1, Bool.true_or]
        repeat (first | (refine W.RS (by kernel_rfl) ?_; conv => whnf) | (refine W.ret ?_; conv => whnf) | (refine ⟨_, c1, ?_⟩; conv => whnf) | (refine ⟨_, castA _, ?_⟩; conv => whnf) | (refine ⟨true, decide_eq_true (by omega), ?_⟩; conv => whnf) | (refine ⟨rfl, ?_⟩; conv => whnf) | (refine ⟨_, fun _ => rfl, fun h => absurd h.symm Bool.false_ne_true, ?_⟩; conv => whnf))
        rfl
      · have h1' : ¬ s.length + 1 = 1 := h1
        rw [decide_eq_false h1, Bool.false_or]
        by_cases h2 : c = 48
        · subst h2
          rw [decide_eq_false (by simp)]
          repeat (first | (refine W.RS (by kernel_rfl) ?_; conv => whnf) | (refine W.ret ?_; conv => whnf) | (refine ⟨_, c1, ?_⟩; conv => whnf) | (refine ⟨0, 48, rfl, rfl, ?_⟩; conv => whnf) | (refine ⟨_, castA _, ?_⟩; conv => whnf) | (refine ⟨false, decide_eq_false (by omega), ?_⟩; conv => whnf) | (refine ⟨false, bne_eq_false_iff_eq.2 (by omega), ?_⟩; conv => whnf) | (refine ⟨rfl, ?_⟩; conv => whnf) | (refine ⟨_, fun h => absurd h Bool.false_ne_true, fun _ => rfl, ?_⟩; conv => whnf) | (refine ⟨_, fun _ => rfl, fun h => absurd h.symm Bool.false_ne_true, ?_⟩; conv => whnf))
          rfl
        · have hct : (c.toNat : Int) ≠ 48 := fun e => h2 (UInt8.toNat_inj.1 (Int.ofNat.inj e))
          rw [decide_eq_true (by simpa using h2)]
          repeat (first | (refine W.RS (by kernel_rfl) ?_; conv => whnf) | (refine W.ret ?_; conv => whnf) | (refine ⟨_, c1, ?_⟩; conv => whnf) | (refine ⟨0, c, rfl, rfl, ?_⟩; conv => whnf) | (refine ⟨_, castA _, ?_⟩; conv => whnf) | (refine ⟨false, decide_eq_false (by omega), ?_⟩; conv => whnf) | (refine ⟨true, bne_iff_ne.2 (by omega), ?_⟩; conv => whnf) | (refine ⟨_, rfl, ?_⟩; conv => whnf) | (refine ⟨rfl, ?_⟩; conv => whnf) | (refine ⟨_, fun h => absurd h Bool.false_ne_true, fun _ => rfl, ?_⟩; conv => whnf) | (refine ⟨_, fun _ => rfl, fun h => absurd h.symm Bool.false_ne_true, ?_⟩; conv => whnf))
          rfl
end Go.Proofs.Fl
namespace Go.Proofs.Fl
open Go.RowKit Go.Proofs.Dig
attribute [local irreducible] IntKind.wrap PureC MutC MakC IterC
theorem digB_iff {c : UInt8} : digB c = true ↔ 48 ≤ c.toNat ∧ c.toNat ≤ 57 := by simp [digB]
theorem all_dig {s : List UInt8} (h : s.all digB = true) : ∀ c ∈ s, 48 ≤ c.toNat ∧ c.toNat ≤ 57 := fun c hc => digB_iff.1 (List.all_eq_true.1 h c hc)
theorem decFrom_dig : ∀ {l : List UInt8} (acc : Nat), l.all digB = true → Lib.decFrom acc l = some (l.foldl (fun a c => a * 10 + (c.toNat - 48)) acc)
  | [], _, _ => rfl
  | c :: l, acc, h => by
    simp only [List.all_cons, Bool.and_eq_true] at h
    have hc := digB_iff.1 h.1
    rw [Lib.decFrom, Lib.digitVal, if_pos hc]
    exact decFrom_dig _ h.2
theorem atoi_dig {l : List UInt8} (h : l.all digB = true) (hne : l ≠ []) : Lib.atoi l = some ((dv l : Nat) : Int) := by
  cases l with
  | nil => exact absurd rfl hne
  | cons c l =>
    have hc : 48 ≤ c.toNat := by
      simp only [List.all_cons, Bool.and_eq_true] at h
      exact (digB_iff.1 h.1).1
    have n45 : (c == 45) = false := by
      rw [beq_eq_false_iff_ne]; intro e; rw [e] at hc; exact absurd hc (by decide)
    have n43 : (c == 43) = false := by
      rw [beq_eq_false_iff_ne]; intro e; rw [e] at hc; exact absurd hc (by decide)
    unfold Lib.atoi
    simp only [n45, n43, Bool.false_eq_true, if_false]
    unfold Lib.decNat
    rw [if_neg (by simp), decFrom_dig 0 h]
    rfl
theorem dv_foldl (l : List UInt8) : ∀ acc : Nat, l.foldl (fun a c => a * 10 + (c.toNat - 48)) acc = acc * 10 ^ l.length + dv l := by
  induction l with
  | nil => intro acc; simp [dv]
  | cons c l ih =>
    intro acc
    unfold dv
    simp only [List.foldl_cons, List.length_cons]
    rw [ih, ih]
    rw [Nat.pow_succ, Nat.add_mul, Nat.zero_mul, Nat.zero_add, Nat.mul_assoc, Nat.mul_comm 10]
    omega
theorem dv_append (a b : List UInt8) : dv (a ++ b) = dv a * 10 ^ b.length + dv b := by
  show (a ++ b).foldl _ 0 = _
  rw [List.foldl_append, dv_foldl]; rfl
theorem all_take {s : List UInt8} (h : s.all digB = true) (k : Nat) : (s.take k).all digB = true := List.all_eq_true.2 fun c hc => List.all_eq_true.1 h c (List.mem_of_mem_take hc)
theorem all_drop {s : List UInt8} (h : s.all digB = true) (k : Nat) : (s.drop k).all digB = true := List.all_eq_true.2 fun c hc => List.all_eq_true.1 h c (List.mem_of_mem_drop hc)
noncomputable def rdInv (rest : List UInt8) : List Nat → AS
  | [] => mkA [(0, .iv (.str rest)), (2, .ptr 0 0), (3, .nilS)] [(0, .var (.agg [.sl []]))] 40
  | x :: o => mkA [(0, .iv (.str rest)), (2, .ptr 0 0), (3, .ref 5 0 (o.length + 1) true)] [(0, .var (.agg [.sl []])), (5, .arr 173 1 ((x :: o).map u32) false)] 40
set_option maxHeartbeats 2000000 in
theorem f131_ok (J : Keep) {s : List UInt8} (h : s.all digB = true) (hl : s.length < 2 ^ 40) : C J 131 [.str s] (mag (dv s)) := by
  refine fn_ok Tryz.func131 rfl rfl rfl ?_
  repeat (first | (refine W.RS (by kernel_rfl) ?_; conv => whnf) | (refine W.S ?_) | (refine W.block ?_))
  refine W.loop (G := { p : List UInt8 × List Nat // p.1.all digB = true ∧ dv s = dv p.1 * B9 ^ p.2.length + nv B9 p.2 ∧ Dg B9 p.2 ∧ p.1.length + p.2.length ≤ s.length }) (fun p => rdInv p.1.1 p.1.2) (fun p => p.1.1.length) ⟨(s, []), h, by simp [nv], Dg.nil _, by simp⟩
    (Wk.tab (l := [(0, .iv (.str s)), (2, .ptr 0 0), (3, .nilS)]) (m := [(0, .var (.agg [.sl []]))]) [] ⟨⟨rfl, rfl⟩, ⟨rfl, rfl⟩, ⟨rfl, rfl⟩, trivial⟩ ⟨rfl, trivial⟩ rfl) ?_
  rintro ⟨⟨rest, ds⟩, i1, i2, i3, i4⟩
  dsimp only at i1 i2 i3 i4
  show W J _ _ (rdInv rest ds) _
  by_cases h0 : rest = []
  · subst h0
    have hdv : dv s = nv B9 ds := by rw [i2]; simp [dv]
    have c1 := f188_at J (l := ds) rfl (by omega)
    have e : mgI (strip ds) = mag (dv s) := by
      show IV.agg [.sl ((strip ds).map u32)] = IV.agg [.sl ((dg (dv s)).map u32)]
      rw [dg_strip i3 hdv.symm]
    rw [e] at c1
    cases ds with
    | nil =>
      show W J _ _ (mkA [(0, .iv (.str [])), (2, .ptr 0 0), (3, .nilS)] [(0, .var (.agg [.sl []]))] 40) _
      repeat (first | (refine W.RS (by kernel_rfl) ?_; conv => whnf) | (refine W.S ?_) | (refine W.ret ?_; conv => whnf) | (refine W.exit ?_; conv => whnf) | (refine W.condF rfl ?_) | (refine ⟨_, c1, ?_⟩; conv => whnf) | (refine ⟨_, rfl, ?_⟩; conv => whnf) | (refine ⟨rfl, ?_⟩; conv => whnf))
      rfl
    | cons x o =>
      show W J _ _ (mkA [(0, .iv (.str [])), (2, .ptr 0 0), (3, .ref 5 0 (o.length + 1) true)] [(0, .var (.agg [.sl []])), (5, .arr 173 1 ((x :: o).map u32) false)] 40) _
      have c2 : C J 188 [.sl (List.take (o.length + 1) (List.drop 0 (List.map u32 (x :: o))))] (mag (dv s)) := by
        rw [← e]
        exact f188_at J (l := x :: o) (by rw [List.drop_zero, List.take_of_length_le (by simp)]) (by omega)
      repeat (first | (refine W.RS (by kernel_rfl) ?_; conv => whnf) | (refine W.S ?_) | (refine W.ret ?_; conv => whnf) | (refine W.exit ?_; conv => whnf) | (refine W.condF rfl ?_) | (refine ⟨_, c2, ?_⟩; conv => whnf) | (refine ⟨_, rfl, ?_⟩; conv => whnf) | (refine ⟨rfl, ?_⟩; conv => whnf))
      rfl
  · have hp : 0 < rest.length := List.length_pos_iff.2 h0
    obtain ⟨k, hk⟩ : ∃ k, rest.length - 9 = k := ⟨_, rfl⟩
    have hkl : k < rest.length := by omega
    have hmax : (if ((rest.length : Nat) : Int) - 9 > 0 then ((rest.length : Nat) : Int) - 9 else 0) = ((k : Nat) : Int) := by split <;> omega
    have hch : (rest.drop k).length ≤ 9 := by rw [List.length_drop]; omega
    have hcn : rest.drop k ≠ [] := fun e => by
      have := congrArg List.length e
      rw [List.length_drop, List.length_nil] at this; omega
    have hcd := all_drop i1 k
    have hv : dv (rest.drop k) < 1000000000 := by
      have h1 := dv_lt (all_dig hcd)
      have h2 : 10 ^ (rest.drop k).length ≤ 10 ^ 9 := Nat.pow_le_pow_right (by decide) hch
      have h3 : (10 : Nat) ^ 9 = 1000000000 := by decide
      omega
    have hat := atoi_dig hcd hcn
    have htk : List.drop k (List.take rest.length rest) = rest.drop k := by rw [List.take_length]
    have c1 := f187_ok J (s := List.drop k (List.take rest.length rest)) (n := ((dv (rest.drop k) : Nat) : Int)) (by rw [htk]; omega) (by rw [htk]; exact hat)
    have hsplit : dv rest = dv (rest.take k) * 10 ^ (rest.drop k).length + dv (rest.drop k) := by rw [← dv_append, List.take_append_drop]
    have hnext : dv s = dv (rest.take k) * B9 ^ (ds ++ [dv (rest.drop k)]).length + nv B9 (ds ++ [dv (rest.drop k)]) := by
      rw [i2, hsplit, nv_snoc, List.length_append, List.length_singleton, Nat.pow_succ]
      have h9 : dv (rest.take k) * 10 ^ (rest.drop k).length = dv (rest.take k) * B9 := by
        by_cases hk0 : k = 0
        · subst hk0
          show dv [] * _ = dv [] * _
          simp [dv]
        · rw [List.length_drop, show rest.length - k = 9 by omega]
      rw [h9, Nat.add_mul, Nat.mul_assoc, Nat.mul_comm B9, Nat.mul_comm (dv (rest.drop k))]
      omega
    have h32 : IntKind.wrap .u32 ((dv (rest.drop k) : Nat) : Int) = ((dv (rest.drop k) : Nat) : Int) := w32 (by omega)
    have hG : (rest.take k).all digB = true ∧ dv s = dv (rest.take k) * B9 ^ (ds ++ [dv (rest.drop k)]).length + nv B9 (ds ++ [dv (rest.drop k)]) ∧ Dg B9 (ds ++ [dv (rest.drop k)]) ∧ (rest.take k).length + (ds ++ [dv (rest.drop k)]).length ≤ s.length :=
      ⟨all_take i1 k, hnext, i3.append (Dg.single hv), by rw [List.length_append, List.length_singleton, List.length_take]; omega⟩
    have hmu : (rest.take k).length < rest.length := by rw [List.length_take]; omega
    cases ds with
    | nil =>
      show W J _ _ (mkA [(0, .iv (.str rest)), (2, .ptr 0 0), (3, .nilS)] [(0, .var (.agg [.sl []]))] 40) _
      repeat (first | (refine W.RS (by kernel_rfl) ?_; conv => whnf) | (refine W.R (by kernel_rfl) ?_; conv => whnf) | (refine W.S ?_) | (refine W.block ?_) | (refine W.skip ?_; conv => whnf) | (refine W.condT rfl ?_) | (refine ⟨_, c1, ?_⟩; conv => whnf) | (refine ⟨_, hmax, ?_⟩; conv => whnf) | (refine ⟨k, rfl, ?_⟩; conv => whnf) | (refine ⟨by omega, Nat.le_refl _, ?_⟩; conv => whnf) | (refine ⟨_, h32, ?_⟩; conv => whnf) | (refine ⟨by omega, by omega, ?_⟩; conv => whnf) | (refine ⟨rfl, _, w64 (by omega), ?_⟩; conv => whnf) | (refine ⟨one32, Nat.le_of_ble_eq_true rfl, Nat.le_of_ble_eq_true rfl, ?_⟩; conv => whnf) | (refine ⟨true, decide_eq_true (by omega), ?_⟩; conv => whnf) | (refine ⟨_, rfl, ?_⟩; conv => whnf) | (refine ⟨rfl, ?_⟩; conv => whnf))
      exact ⟨⟨(rest.take k, [dv (rest.drop k)]), hG⟩, Wk.tab (l := [(0, .iv (.str (rest.take k))), (2, .ptr 0 0), (3, .ref 5 0 (0 + 1) true)]) (m := [(0, .var (.agg [.sl []])), (5, .arr 173 1 ([dv (rest.drop k)].map u32) false)]) [(5, 61)] ⟨⟨rfl, rfl⟩, ⟨rfl, rfl⟩, ⟨rfl, rfl⟩, trivial⟩ ⟨rfl, rfl, trivial⟩ rfl, hmu⟩
    | cons x o =>
      show W J _ _ (mkA [(0, .iv (.str rest)), (2, .ptr 0 0), (3, .ref 5 0 (o.length + 1) true)] [(0, .var (.agg [.sl []])), (5, .arr 173 1 ((x :: o).map u32) false)] 40) _
      repeat (first | (refine W.RS (by kernel_rfl) ?_; conv => whnf) | (refine W.S ?_) | (refine W.block ?_) | (refine W.skip ?_; conv => whnf) | (refine W.condT rfl ?_) | (refine ⟨_, c1, ?_⟩; conv => whnf) | (refine ⟨_, hmax, ?_⟩; conv => whnf) | (refine ⟨k, rfl, ?_⟩; conv => whnf) | (refine ⟨by omega, Nat.le_refl _, ?_⟩; conv => whnf) | (refine ⟨_, h32, ?_⟩; conv => whnf) | (refine ⟨rfl, _, w64 (by omega), ?_⟩; conv => whnf) | (refine ⟨true, decide_eq_true (by omega), ?_⟩; conv => whnf) | (refine ⟨_, rfl, ?_⟩; conv => whnf) | (refine ⟨rfl, ?_⟩; conv => whnf))
      refine ⟨nin1 rfl, rfl, rfl, by simp, one32, ?_, ?_, ?_⟩
      · show (o.length + 1 + 1) * 4 ≤ 140737488355328
        simp at i4; omega
      · show o.length + 1 + 1 ≤ maxLen
        simp at i4
        unfold maxLen; omega
      · repeat (first | (refine W.R (by kernel_rfl) ?_; conv => whnf) | (refine ⟨k, rfl, ?_⟩; conv => whnf) | (refine ⟨by omega, by omega, ?_⟩; conv => whnf))
        refine ⟨⟨(rest.take k, x :: o ++ [dv (rest.drop k)]), hG⟩, Wk.tab (l := [(0, .iv (.str (rest.take k))), (2, .ptr 0 0), (3, .ref 5 0 ((o ++ [dv (rest.drop k)]).length + 1) true)]) (m := [(0, .var (.agg [.sl []])), (5, .arr 173 1 ((x :: (o ++ [dv (rest.drop k)])).map u32) false)]) [(5, 61)] ⟨⟨rfl, rfl⟩, ⟨rfl, rfl⟩, ⟨?_, rfl⟩, trivial⟩ ⟨rfl, ?_, trivial⟩ rfl, hmu⟩
        · refine congrArg (fun k => SV.ref 61 0 k true) ?_
          show o.length + 1 + 1 = _
          simp
        · refine congrArg (fun l => some (Bx.arr 173 1 l false)) ?_
          simp; rfl
end Go.Proofs.Fl
namespace Go.Proofs.Fl
open Go.RowKit Go.Proofs.Dig
attribute [local irreducible] IntKind.wrap PureC MutC MakC IterC
theorem base (J : Keep) : Base J := ⟨fun _ h => f135_ok J h⟩
theorem cut_len (s sep : List UInt8) : (Lib.cut s sep).1.length ≤ s.length ∧ (Lib.cut s sep).2.1.length ≤ s.length ∧ ((Lib.cut s sep).2.2 = false → (Lib.cut s sep).2.1 = []) := by
  unfold Lib.cut
  split
  · simp; omega
  · simp
theorem trimP_len (s p : List UInt8) : (Lib.trimPrefix s p).length ≤ s.length := by
  unfold Lib.trimPrefix
  split
  · simp
  · exact Nat.le_refl _
theorem digs_all {s : List UInt8} (h : digs s = true) : s.all digB = true := by
  simp only [digs, Bool.and_eq_true] at h; exact h.2
theorem intS_digs {s : List UInt8} (h : intS s = true) : digs s = true := by
  simp only [intS, Bool.and_eq_true] at h; exact h.1
theorem intS_all {s : List UInt8} (h : intS s = true) : s.all digB = true := digs_all (intS_digs h)
theorem dv_cons (c : UInt8) (l : List UInt8) : dv (c :: l) = (c.toNat - 48) * 10 ^ l.length + dv l := by
  show l.foldl _ (0 * 10 + (c.toNat - 48)) = _
  rw [dv_foldl]; simp
theorem intS_pos {s : List UInt8} (h : intS s = true) (h0 : s ≠ [48]) : 0 < dv s := by
  have hd := intS_digs h
  have ha := all_dig (intS_all h)
  cases s with
  | nil => cases hd
  | cons c s =>
    rw [dv_cons]
    have hc := ha c (by simp)
    have h48 : c.toNat ≠ 48 := fun e => by
      have ec : c = 48 := UInt8.toNat_inj.1 e
      subst ec
      simp only [intS, Bool.and_eq_true, Bool.or_eq_true, decide_eq_true_eq] at h
      rcases h.2 with h1 | h1
      · have : s = [] := List.length_eq_zero_iff.1 (by simpa using h1)
        exact h0 (by rw [this])
      · simp at h1
    have := Nat.mul_pos (show 0 < c.toNat - 48 by omega) (Nat.pow_pos (n := s.length) (show 0 < 10 by decide))
    omega
theorem ln_dv {s : List UInt8} (h : s.all digB = true) : ln (dv s) ≤ s.length := ln_le (Nat.lt_of_lt_of_le (dv_lt (all_dig h)) (Nat.pow_le_pow_left (by decide) _))
def parseQ (s : List UInt8) : Rat × Int :=
  if s.length > 1000 then (0, 5)
  else if (Lib.cut (Lib.trimPrefix s [45]) [47]).2.2 then
    if (!intS (Lib.cut (Lib.trimPrefix s [45]) [47]).1 || !intS (Lib.cut (Lib.trimPrefix s [45]) [47]).2.1) then (0, 4)
    else if (Lib.cut (Lib.trimPrefix s [45]) [47]).2.1 = [48] then (0, 9)
    else (mkRat (sv (Lib.hasPrefix s [45]) (dv (Lib.cut (Lib.trimPrefix s [45]) [47]).1)) (dv (Lib.cut (Lib.trimPrefix s [45]) [47]).2.1), 0)
  else
    let d := Lib.cut (Lib.trimPrefix s [45]) [101]
    let f := Lib.cut d.1 [46]
    let ex := Lib.trimPrefix d.2.1 [45]
    if (!intS f.1 || ((f.2.2 && !digs f.2.1) || (d.2.2 && !intS ex))) then (0, 4)
    else if dv ex > 1000 then (0, 5)
    else
      let P : Int := (if Lib.hasPrefix d.2.1 [45] then -(dv ex : Int) else (dv ex : Int)) - f.2.1.length
      (mkRat (sv (Lib.hasPrefix s [45]) (dv (f.1 ++ f.2.1) * 10 ^ P.toNat)) (10 ^ (-P).toNat), 0)
noncomputable def rePq (p : Rat × Int) : IV := .tup [qr p.1, .int .i64 p.2]
theorem rePq_zero (e : Int) : rePq (0, e) = .tup [.agg [.sl [], .bool false, .sl []], .int .i64 e] := by
  unfold rePq
  show IV.tup [qr 0, _] = _
  rw [dg_zero_qr]
theorem W.wkRS {J : Keep} {nt id : Nat} {σ σ' : AS} {K : Exit → AS → Prop} {all : Array Oper} {draw : Bool} {y : Code} (hw : Wk σ σ') (h0 : regOk nt all draw = true) (h : regP (cx J) all draw σ' fun σ' => W J nt y σ' K) : W J nt (.seq (.region id all draw) y) σ K :=
  W.weak hw (W.RS h0 h)
set_option maxHeartbeats 1000000 in
theorem parse_limit {J : Keep} {s t a b d1 d2 fa fr ex : List UInt8} {m d3 f3 dn gr gx : Bool} {E : Nat} {cv : Int} (h1000 : ¬ s.length > 1000) (c1 : C J 126 [.str s, .str [45]] (.tup [.str t, .bool m])) (c2 : C J 127 [.str t, .str [47]] (.tup [.str a, .str b, .bool false]))
    (c5 : C J 127 [.str t, .str [101]] (.tup [.str d1, .str d2, .bool d3])) (c6 : C J 127 [.str d1, .str [46]] (.tup [.str fa, .str fr, .bool f3])) (c7 : C J 126 [.str d2, .str [45]] (.tup [.str ex, .bool dn]))
    (c8 : C J 128 [.str fa] (.bool true)) (c9 : C J 132 [.str fr] (.bool gr)) (c10 : C J 128 [.str ex] (.bool gx)) (k9 : f3 = true → gr = true) (k10 : d3 = true → gx = true)
    (c11 : C J 131 [.str ex] (mag E)) (c12 : C J 134 [.int .u64 (1000 : Nat)] (mag 1000)) (c13 : C J 133 [mag E, mag 1000] (.int .i64 cv)) (hcv : cv > 0) : C J 20 [.str s] (.tup [.agg [.sl [], .bool false, .sl []], .int .i64 5]) := by
  refine fn_ok Tryz.func20 rfl rfl rfl ?_
  cases f3 with
  | true =>
    rw [k9 rfl] at c9
    cases d3 with
    | true =>
      rw [k10 rfl] at c10
      repeat (first | (refine W.wkRS (id := 16) (σ' := mkA [(2, .ptr 0 0), (4, .iv (.bool m)), (8, .iv (.str ex)), (10, .iv (.str fa)), (11, .iv (.str fr)), (13, .iv (.bool dn))] [(0, .var (.agg [.sl [], .bool false, .sl []]))] 40) (Wk.tab [] ⟨⟨rfl, rfl⟩, ⟨rfl, rfl⟩, ⟨rfl, rfl⟩, ⟨rfl, rfl⟩, ⟨rfl, rfl⟩, ⟨rfl, rfl⟩, trivial⟩ ⟨rfl, trivial⟩ rfl) (by kernel_rfl) ?_; conv => whnf) | (refine W.RS (by kernel_rfl) ?_; conv => whnf) | (refine W.S ?_) | (refine W.ret ?_; conv => whnf) | (refine W.skip ?_; conv => whnf) | (refine W.condF rfl ?_) | (refine W.condT rfl ?_) | (refine ⟨_, c1, ?_⟩; conv => whnf) | (refine ⟨_, c2, ?_⟩; conv => whnf) | (refine ⟨_, c5, ?_⟩; conv => whnf) | (refine ⟨_, c6, ?_⟩; conv => whnf) | (refine ⟨_, c7, ?_⟩; conv => whnf) | (refine ⟨_, c8, ?_⟩; conv => whnf) | (refine ⟨_, c9, ?_⟩; conv => whnf) | (refine ⟨_, c10, ?_⟩; conv => whnf) | (refine ⟨_, c11, ?_⟩; conv => whnf) | (refine ⟨_, c12, ?_⟩; conv => whnf) | (refine ⟨_, c13, ?_⟩; conv => whnf) | (refine ⟨true, decide_eq_true (by omega), ?_⟩; conv => whnf) | (refine ⟨false, decide_eq_false (by omega), ?_⟩; conv => whnf) | (refine ⟨_, rfl, ?_⟩; conv => whnf) | (refine ⟨rfl, ?_⟩; conv => whnf) | (refine ⟨_, fun h => absurd h Bool.false_ne_true, fun _ => rfl, ?_⟩; conv => whnf) | (refine ⟨_, fun _ => rfl, fun h => absurd h.symm Bool.false_ne_true, ?_⟩; conv => whnf))
      rfl
    | false =>
      repeat (first | (refine W.wkRS (id := 16) (σ' := mkA [(2, .ptr 0 0), (4, .iv (.bool m)), (8, .iv (.str ex)), (10, .iv (.str fa)), (11, .iv (.str fr)), (13, .iv (.bool dn))] [(0, .var (.agg [.sl [], .bool false, .sl []]))] 40) (Wk.tab [] ⟨⟨rfl, rfl⟩, ⟨rfl, rfl⟩, ⟨rfl, rfl⟩, ⟨rfl, rfl⟩, ⟨rfl, rfl⟩, ⟨rfl, rfl⟩, trivial⟩ ⟨rfl, trivial⟩ rfl) (by kernel_rfl) ?_; conv => whnf) | (refine W.RS (by kernel_rfl) ?_; conv => whnf) | (refine W.S ?_) | (refine W.ret ?_; conv => whnf) | (refine W.skip ?_; conv => whnf) | (refine W.condF rfl ?_) | (refine W.condT rfl ?_) | (refine ⟨_, c1, ?_⟩; conv => whnf) | (refine ⟨_, c2, ?_⟩; conv => whnf) | (refine ⟨_, c5, ?_⟩; conv => whnf) | (refine ⟨_, c6, ?_⟩; conv => whnf) | (refine ⟨_, c7, ?_⟩; conv => whnf) | (refine ⟨_, c8, ?_⟩; conv => whnf) | (refine ⟨_, c9, ?_⟩; conv => whnf) | (refine ⟨_, c11, ?_⟩; conv => whnf) | (refine ⟨_, c12, ?_⟩; conv => whnf) | (refine ⟨_, c13, ?_⟩; conv => whnf) | (refine ⟨true, decide_eq_true (by omega), ?_⟩; conv => whnf) | (refine ⟨false, decide_eq_false (by omega), ?_⟩; conv => whnf) | (refine ⟨_, rfl, ?_⟩; conv => whnf) | (refine ⟨rfl, ?_⟩; conv => whnf) | (refine ⟨_, fun h => absurd h Bool.false_ne_true, fun _ => rfl, ?_⟩; conv => whnf) | (refine ⟨_, fun _ => rfl, fun h => absurd h.symm Bool.false_ne_true, ?_⟩; conv => whnf))
      rfl
  | false =>
    cases d3 with
    | true =>
      rw [k10 rfl] at c10
      repeat (first | (refine W.wkRS (id := 16) (σ' := mkA [(2, .ptr 0 0), (4, .iv (.bool m)), (8, .iv (.str ex)), (10, .iv (.str fa)), (11, .iv (.str fr)), (13, .iv (.bool dn))] [(0, .var (.agg [.sl [], .bool false, .sl []]))] 40) (Wk.tab [] ⟨⟨rfl, rfl⟩, ⟨rfl, rfl⟩, ⟨rfl, rfl⟩, ⟨rfl, rfl⟩, ⟨rfl, rfl⟩, ⟨rfl, rfl⟩, trivial⟩ ⟨rfl, trivial⟩ rfl) (by kernel_rfl) ?_; conv => whnf) | (refine W.RS (by kernel_rfl) ?_; conv => whnf) | (refine W.S ?_) | (refine W.ret ?_; conv => whnf) | (refine W.skip ?_; conv => whnf) | (refine W.condF rfl ?_) | (refine W.condT rfl ?_) | (refine ⟨_, c1, ?_⟩; conv => whnf) | (refine ⟨_, c2, ?_⟩; conv => whnf) | (refine ⟨_, c5, ?_⟩; conv => whnf) | (refine ⟨_, c6, ?_⟩; conv => whnf) | (refine ⟨_, c7, ?_⟩; conv => whnf) | (refine ⟨_, c8, ?_⟩; conv => whnf) | (refine ⟨_, c10, ?_⟩; conv => whnf) | (refine ⟨_, c11, ?_⟩; conv => whnf) | (refine ⟨_, c12, ?_⟩; conv => whnf) | (refine ⟨_, c13, ?_⟩; conv => whnf) | (refine ⟨true, decide_eq_true (by omega), ?_⟩; conv => whnf) | (refine ⟨false, decide_eq_false (by omega), ?_⟩; conv => whnf) | (refine ⟨_, rfl, ?_⟩; conv => whnf) | (refine ⟨rfl, ?_⟩; conv => whnf) | (refine ⟨_, fun h => absurd h Bool.false_ne_true, fun _ => rfl, ?_⟩; conv => whnf) | (refine ⟨_, fun _ => rfl, fun h => absurd h.symm Bool.false_ne_true, ?_⟩; conv => whnf))
      rfl
    | false =>
      repeat (first | (refine W.wkRS (id := 16) (σ' := mkA [(2, .ptr 0 0), (4, .iv (.bool m)), (8, .iv (.str ex)), (10, .iv (.str fa)), (11, .iv (.str fr)), (13, .iv (.bool dn))] [(0, .var (.agg [.sl [], .bool false, .sl []]))] 40) (Wk.tab [] ⟨⟨rfl, rfl⟩, ⟨rfl, rfl⟩, ⟨rfl, rfl⟩, ⟨rfl, rfl⟩, ⟨rfl, rfl⟩, ⟨rfl, rfl⟩, trivial⟩ ⟨rfl, trivial⟩ rfl) (by kernel_rfl) ?_; conv => whnf) | (refine W.RS (by kernel_rfl) ?_; conv => whnf) | (refine W.S ?_) | (refine W.ret ?_; conv => whnf) | (refine W.skip ?_; conv => whnf) | (refine W.condF rfl ?_) | (refine W.condT rfl ?_) | (refine ⟨_, c1, ?_⟩; conv => whnf) | (refine ⟨_, c2, ?_⟩; conv => whnf) | (refine ⟨_, c5, ?_⟩; conv => whnf) | (refine ⟨_, c6, ?_⟩; conv => whnf) | (refine ⟨_, c7, ?_⟩; conv => whnf) | (refine ⟨_, c8, ?_⟩; conv => whnf) | (refine ⟨_, c11, ?_⟩; conv => whnf) | (refine ⟨_, c12, ?_⟩; conv => whnf) | (refine ⟨_, c13, ?_⟩; conv => whnf) | (refine ⟨true, decide_eq_true (by omega), ?_⟩; conv => whnf) | (refine ⟨false, decide_eq_false (by omega), ?_⟩; conv => whnf) | (refine ⟨_, rfl, ?_⟩; conv => whnf) | (refine ⟨rfl, ?_⟩; conv => whnf) | (refine ⟨_, fun h => absurd h Bool.false_ne_true, fun _ => rfl, ?_⟩; conv => whnf))
      rfl
end Go.Proofs.Fl
