/-
  Contracts of the functions of num and of its reference, and the join to a row (no conditions of ours).
-/
import Derived.Test.YtdheblnjmnlpfaaGreatDoorB4
namespace Go.Proofs.Fl
open Go.RowKit Go.Proofs.Dig
attribute [local irreducible] IntKind.wrap PureC MutC MakC IterC
set_option maxHeartbeats 20000000 in
theorem parse_num {J : Keep} {s t a b d1 d2 fa fr ex : List UInt8} {m d3 f3 dn gr gx : Bool} {E : Nat} {cv : Int} (h1000 : ¬ s.length > 1000) (c1 : C J 126 [.str s, .str [45]] (.tup [.str t, .bool m])) (c2 : C J 127 [.str t, .str [47]] (.tup [.str a, .str b, .bool false]))
    (c5 : C J 127 [.str t, .str [101]] (.tup [.str d1, .str d2, .bool d3])) (c6 : C J 127 [.str d1, .str [46]] (.tup [.str fa, .str fr, .bool f3])) (c7 : C J 126 [.str d2, .str [45]] (.tup [.str ex, .bool dn]))
    (c8 : C J 128 [.str fa] (.bool true)) (c9 : C J 132 [.str fr] (.bool gr)) (c10 : C J 128 [.str ex] (.bool gx)) (k9 : f3 = true → gr = true) (k10 : d3 = true → gx = true)
    (c11 : C J 131 [.str ex] (mag E)) (c12 : C J 134 [.int .u64 (1000 : Nat)] (mag 1000)) (c13 : C J 133 [mag E, mag 1000] (.int .i64 cv)) (hcv : ¬ cv > 0) (hE : E ≤ 1000) (hfa : fa.length ≤ 1000) (hfr : fr.length ≤ 1000) {P : Int} (hP : P = (if dn = true then -(E : Int) else (E : Int)) - (fr.length : Int)) {n1 n2 M N T : Nat} {z : Int} {q : Rat}
    (m1 : (if (0 : Int) > P then 0 else P) = ((n1 : Nat) : Int)) (m2 : (if (0 : Int) > -P then 0 else -P) = ((n2 : Nat) : Int)) (hPb : -2000 ≤ P ∧ P ≤ 1000)
    (c14 : C J 135 [mag E] (.int .u64 E)) (c15 : C J 131 [.str (fa ++ fr)] (mag M)) (c16 : C J 134 [.int .u64 (10 : Nat)] (mag 10)) (c17 : C J 137 [mag 10, .int .i64 (n1 : Nat)] (mag T)) (c18 : C J 137 [mag 10, .int .i64 (n2 : Nat)] (mag (10 ^ n2)))
    (c19 : C J 136 [mag M, mag T] (mag N)) (c20 : C J 130 [.bool m, mag N] (zd z)) (c21 : C J 129 [zd z, mag (10 ^ n2)] (qr q)) : C J 20 [.str s] (rePq (q, 0)) := by
  refine fn_ok Tryz.func20 rfl rfl rfl ?_
  cases dn with
  | true =>
    rw [if_pos rfl] at hP
    have hP' : P = 0 - (E : Int) - (fr.length : Int) := by omega
    subst hP'
    rw [← Int.zero_sub] at m2
    cases f3 with
    | true =>
      rw [k9 rfl] at c9
      cases d3 with
      | true =>
        rw [k10 rfl] at c10
        repeat (first | (refine W.wkRS (id := 16) (σ' := mkA [(2, .ptr 0 0), (4, .iv (.bool m)), (8, .iv (.str ex)), (10, .iv (.str fa)), (11, .iv (.str fr)), (13, .iv (.bool true))] [(0, .var (.agg [.sl [], .bool false, .sl []]))] 40) (Wk.tab [] ⟨⟨rfl, rfl⟩, ⟨rfl, rfl⟩, ⟨rfl, rfl⟩, ⟨rfl, rfl⟩, ⟨rfl, rfl⟩, ⟨rfl, rfl⟩, trivial⟩ ⟨rfl, trivial⟩ rfl) (by kernel_rfl) ?_; conv => whnf) | (refine W.RS (by kernel_rfl) ?_; conv => whnf) | (refine W.R (by kernel_rfl) ?_; conv => whnf) | (refine W.S ?_) | (refine W.ret ?_; conv => whnf) | (refine W.skip ?_; conv => whnf) | (refine W.condF rfl ?_) | (refine W.condT rfl ?_) | (refine ⟨_, c1, ?_⟩; conv => whnf) | (refine ⟨_, c2, ?_⟩; conv => whnf) | (refine ⟨_, c5, ?_⟩; conv => whnf) | (refine ⟨_, c6, ?_⟩; conv => whnf) | (refine ⟨_, c7, ?_⟩; conv => whnf) | (refine ⟨_, c8, ?_⟩; conv => whnf) | (refine ⟨_, c9, ?_⟩; conv => whnf) | (refine ⟨_, c10, ?_⟩; conv => whnf) | (refine ⟨_, c11, ?_⟩; conv => whnf) | (refine ⟨_, c12, ?_⟩; conv => whnf) | (refine ⟨_, c13, ?_⟩; conv => whnf) | (refine ⟨_, c14, ?_⟩; conv => whnf) | (refine ⟨_, c15, ?_⟩; conv => whnf) | (refine ⟨_, c16, ?_⟩; conv => whnf) | (refine ⟨_, c17, ?_⟩; conv => whnf) | (refine ⟨_, c18, ?_⟩; conv => whnf) | (refine ⟨_, c19, ?_⟩; conv => whnf) | (refine ⟨_, c20, ?_⟩; conv => whnf) | (refine ⟨_, c21, ?_⟩; conv => whnf) | (refine ⟨_, m1, ?_⟩; conv => whnf) | (refine ⟨_, m2, ?_⟩; conv => whnf) | (refine ⟨rfl, _, w64 (by omega), ?_⟩; conv => whnf) | (refine ⟨_, w64 (by omega), ?_⟩; conv => whnf) | (refine ⟨false, decide_eq_false (by omega), ?_⟩; conv => whnf) | (refine ⟨_, rfl, ?_⟩; conv => whnf) | (refine ⟨rfl, ?_⟩; conv => whnf) | (refine And.intro (by omega) ?_; conv => whnf) | (refine ⟨_, fun h => absurd h Bool.false_ne_true, fun _ => rfl, ?_⟩; conv => whnf) | (refine ⟨_, fun _ => rfl, fun h => absurd h.symm Bool.false_ne_true, ?_⟩; conv => whnf))
        rfl
      | false =>
        repeat (first | (refine W.wkRS (id := 16) (σ' := mkA [(2, .ptr 0 0), (4, .iv (.bool m)), (8, .iv (.str ex)), (10, .iv (.str fa)), (11, .iv (.str fr)), (13, .iv (.bool true))] [(0, .var (.agg [.sl [], .bool false, .sl []]))] 40) (Wk.tab [] ⟨⟨rfl, rfl⟩, ⟨rfl, rfl⟩, ⟨rfl, rfl⟩, ⟨rfl, rfl⟩, ⟨rfl, rfl⟩, ⟨rfl, rfl⟩, trivial⟩ ⟨rfl, trivial⟩ rfl) (by kernel_rfl) ?_; conv => whnf) | (refine W.RS (by kernel_rfl) ?_; conv => whnf) | (refine W.R (by kernel_rfl) ?_; conv => whnf) | (refine W.S ?_) | (refine W.ret ?_; conv => whnf) | (refine W.skip ?_; conv => whnf) | (refine W.condF rfl ?_) | (refine W.condT rfl ?_) | (refine ⟨_, c1, ?_⟩; conv => whnf) | (refine ⟨_, c2, ?_⟩; conv => whnf) | (refine ⟨_, c5, ?_⟩; conv => whnf) | (refine ⟨_, c6, ?_⟩; conv => whnf) | (refine ⟨_, c7, ?_⟩; conv => whnf) | (refine ⟨_, c8, ?_⟩; conv => whnf) | (refine ⟨_, c9, ?_⟩; conv => whnf) | (refine ⟨_, c11, ?_⟩; conv => whnf) | (refine ⟨_, c12, ?_⟩; conv => whnf) | (refine ⟨_, c13, ?_⟩; conv => whnf) | (refine ⟨_, c14, ?_⟩; conv => whnf) | (refine ⟨_, c15, ?_⟩; conv => whnf) | (refine ⟨_, c16, ?_⟩; conv => whnf) | (refine ⟨_, c17, ?_⟩; conv => whnf) | (refine ⟨_, c18, ?_⟩; conv => whnf) | (refine ⟨_, c19, ?_⟩; conv => whnf) | (refine ⟨_, c20, ?_⟩; conv => whnf) | (refine ⟨_, c21, ?_⟩; conv => whnf) | (refine ⟨_, m1, ?_⟩; conv => whnf) | (refine ⟨_, m2, ?_⟩; conv => whnf) | (refine ⟨rfl, _, w64 (by omega), ?_⟩; conv => whnf) | (refine ⟨_, w64 (by omega), ?_⟩; conv => whnf) | (refine ⟨false, decide_eq_false (by omega), ?_⟩; conv => whnf) | (refine ⟨_, rfl, ?_⟩; conv => whnf) | (refine ⟨rfl, ?_⟩; conv => whnf) | (refine And.intro (by omega) ?_; conv => whnf) | (refine ⟨_, fun h => absurd h Bool.false_ne_true, fun _ => rfl, ?_⟩; conv => whnf) | (refine ⟨_, fun _ => rfl, fun h => absurd h.symm Bool.false_ne_true, ?_⟩; conv => whnf))
        rfl
    | false =>
      cases d3 with
      | true =>
        rw [k10 rfl] at c10
        repeat (first | (refine W.wkRS (id := 16) (σ' := mkA [(2, .ptr 0 0), (4, .iv (.bool m)), (8, .iv (.str ex)), (10, .iv (.str fa)), (11, .iv (.str fr)), (13, .iv (.bool true))] [(0, .var (.agg [.sl [], .bool false, .sl []]))] 40) (Wk.tab [] ⟨⟨rfl, rfl⟩, ⟨rfl, rfl⟩, ⟨rfl, rfl⟩, ⟨rfl, rfl⟩, ⟨rfl, rfl⟩, ⟨rfl, rfl⟩, trivial⟩ ⟨rfl, trivial⟩ rfl) (by kernel_rfl) ?_; conv => whnf) | (refine W.RS (by kernel_rfl) ?_; conv => whnf) | (refine W.R (by kernel_rfl) ?_; conv => whnf) | (refine W.S ?_) | (refine W.ret ?_; conv => whnf) | (refine W.skip ?_; conv => whnf) | (refine W.condF rfl ?_) | (refine W.condT rfl ?_) | (refine ⟨_, c1, ?_⟩; conv => whnf) | (refine ⟨_, c2, ?_⟩; conv => whnf) | (refine ⟨_, c5, ?_⟩; conv => whnf) | (refine ⟨_, c6, ?_⟩; conv => whnf) | (refine ⟨_, c7, ?_⟩; conv => whnf) | (refine ⟨_, c8, ?_⟩; conv => whnf) | (refine ⟨_, c10, ?_⟩; conv => whnf) | (refine ⟨_, c11, ?_⟩; conv => whnf) | (refine ⟨_, c12, ?_⟩; conv => whnf) | (refine ⟨_, c13, ?_⟩; conv => whnf) | (refine ⟨_, c14, ?_⟩; conv => whnf) | (refine ⟨_, c15, ?_⟩; conv => whnf) | (refine ⟨_, c16, ?_⟩; conv => whnf) | (refine ⟨_, c17, ?_⟩; conv => whnf) | (refine ⟨_, c18, ?_⟩; conv => whnf) | (refine ⟨_, c19, ?_⟩; conv => whnf) | (refine ⟨_, c20, ?_⟩; conv => whnf) | (refine ⟨_, c21, ?_⟩; conv => whnf) | (refine ⟨_, m1, ?_⟩; conv => whnf) | (refine ⟨_, m2, ?_⟩; conv => whnf) | (refine ⟨rfl, _, w64 (by omega), ?_⟩; conv => whnf) | (refine ⟨_, w64 (by omega), ?_⟩; conv => whnf) | (refine ⟨false, decide_eq_false (by omega), ?_⟩; conv => whnf) | (refine ⟨_, rfl, ?_⟩; conv => whnf) | (refine ⟨rfl, ?_⟩; conv => whnf) | (refine And.intro (by omega) ?_; conv => whnf) | (refine ⟨_, fun h => absurd h Bool.false_ne_true, fun _ => rfl, ?_⟩; conv => whnf) | (refine ⟨_, fun _ => rfl, fun h => absurd h.symm Bool.false_ne_true, ?_⟩; conv => whnf))
        rfl
      | false =>
        repeat (first | (refine W.wkRS (id := 16) (σ' := mkA [(2, .ptr 0 0), (4, .iv (.bool m)), (8, .iv (.str ex)), (10, .iv (.str fa)), (11, .iv (.str fr)), (13, .iv (.bool true))] [(0, .var (.agg [.sl [], .bool false, .sl []]))] 40) (Wk.tab [] ⟨⟨rfl, rfl⟩, ⟨rfl, rfl⟩, ⟨rfl, rfl⟩, ⟨rfl, rfl⟩, ⟨rfl, rfl⟩, ⟨rfl, rfl⟩, trivial⟩ ⟨rfl, trivial⟩ rfl) (by kernel_rfl) ?_; conv => whnf) | (refine W.RS (by kernel_rfl) ?_; conv => whnf) | (refine W.R (by kernel_rfl) ?_; conv => whnf) | (refine W.S ?_) | (refine W.ret ?_; conv => whnf) | (refine W.skip ?_; conv => whnf) | (refine W.condF rfl ?_) | (refine W.condT rfl ?_) | (refine ⟨_, c1, ?_⟩; conv => whnf) | (refine ⟨_, c2, ?_⟩; conv => whnf) | (refine ⟨_, c5, ?_⟩; conv => whnf) | (refine ⟨_, c6, ?_⟩; conv => whnf) | (refine ⟨_, c7, ?_⟩; conv => whnf) | (refine ⟨_, c8, ?_⟩; conv => whnf) | (refine ⟨_, c11, ?_⟩; conv => whnf) | (refine ⟨_, c12, ?_⟩; conv => whnf) | (refine ⟨_, c13, ?_⟩; conv => whnf) | (refine ⟨_, c14, ?_⟩; conv => whnf) | (refine ⟨_, c15, ?_⟩; conv => whnf) | (refine ⟨_, c16, ?_⟩; conv => whnf) | (refine ⟨_, c17, ?_⟩; conv => whnf) | (refine ⟨_, c18, ?_⟩; conv => whnf) | (refine ⟨_, c19, ?_⟩; conv => whnf) | (refine ⟨_, c20, ?_⟩; conv => whnf) | (refine ⟨_, c21, ?_⟩; conv => whnf) | (refine ⟨_, m1, ?_⟩; conv => whnf) | (refine ⟨_, m2, ?_⟩; conv => whnf) | (refine ⟨rfl, _, w64 (by omega), ?_⟩; conv => whnf) | (refine ⟨_, w64 (by omega), ?_⟩; conv => whnf) | (refine ⟨false, decide_eq_false (by omega), ?_⟩; conv => whnf) | (refine ⟨_, rfl, ?_⟩; conv => whnf) | (refine ⟨rfl, ?_⟩; conv => whnf) | (refine And.intro (by omega) ?_; conv => whnf) | (refine ⟨_, fun h => absurd h Bool.false_ne_true, fun _ => rfl, ?_⟩; conv => whnf))
        rfl
  | false =>
    rw [if_neg (by simp)] at hP
    have hP' : P = (E : Int) - (fr.length : Int) := hP
    subst hP'
    rw [← Int.zero_sub] at m2
    cases f3 with
    | true =>
      rw [k9 rfl] at c9
      cases d3 with
      | true =>
        rw [k10 rfl] at c10
        repeat (first | (refine W.wkRS (id := 16) (σ' := mkA [(2, .ptr 0 0), (4, .iv (.bool m)), (8, .iv (.str ex)), (10, .iv (.str fa)), (11, .iv (.str fr)), (13, .iv (.bool false))] [(0, .var (.agg [.sl [], .bool false, .sl []]))] 40) (Wk.tab [] ⟨⟨rfl, rfl⟩, ⟨rfl, rfl⟩, ⟨rfl, rfl⟩, ⟨rfl, rfl⟩, ⟨rfl, rfl⟩, ⟨rfl, rfl⟩, trivial⟩ ⟨rfl, trivial⟩ rfl) (by kernel_rfl) ?_; conv => whnf) | (refine W.RS (by kernel_rfl) ?_; conv => whnf) | (refine W.S ?_) | (refine W.ret ?_; conv => whnf) | (refine W.skip ?_; conv => whnf) | (refine W.condF rfl ?_) | (refine ⟨_, c1, ?_⟩; conv => whnf) | (refine ⟨_, c2, ?_⟩; conv => whnf) | (refine ⟨_, c5, ?_⟩; conv => whnf) | (refine ⟨_, c6, ?_⟩; conv => whnf) | (refine ⟨_, c7, ?_⟩; conv => whnf) | (refine ⟨_, c8, ?_⟩; conv => whnf) | (refine ⟨_, c9, ?_⟩; conv => whnf) | (refine ⟨_, c10, ?_⟩; conv => whnf) | (refine ⟨_, c11, ?_⟩; conv => whnf) | (refine ⟨_, c12, ?_⟩; conv => whnf) | (refine ⟨_, c13, ?_⟩; conv => whnf) | (refine ⟨_, c14, ?_⟩; conv => whnf) | (refine ⟨_, c15, ?_⟩; conv => whnf) | (refine ⟨_, c16, ?_⟩; conv => whnf) | (refine ⟨_, c17, ?_⟩; conv => whnf) | (refine ⟨_, c18, ?_⟩; conv => whnf) | (refine ⟨_, c19, ?_⟩; conv => whnf) | (refine ⟨_, c20, ?_⟩; conv => whnf) | (refine ⟨_, c21, ?_⟩; conv => whnf) | (refine ⟨_, m1, ?_⟩; conv => whnf) | (refine ⟨_, m2, ?_⟩; conv => whnf) | (refine ⟨rfl, _, w64 (by omega), ?_⟩; conv => whnf) | (refine ⟨_, w64 (by omega), ?_⟩; conv => whnf) | (refine ⟨false, decide_eq_false (by omega), ?_⟩; conv => whnf) | (refine ⟨_, rfl, ?_⟩; conv => whnf) | (refine ⟨rfl, ?_⟩; conv => whnf) | (refine And.intro (by omega) ?_; conv => whnf) | (refine ⟨_, fun h => absurd h Bool.false_ne_true, fun _ => rfl, ?_⟩; conv => whnf) | (refine ⟨_, fun _ => rfl, fun h => absurd h.symm Bool.false_ne_true, ?_⟩; conv => whnf))
        rfl
      | false =>
        repeat (first | (refine W.wkRS (id := 16) (σ' := mkA [(2, .ptr 0 0), (4, .iv (.bool m)), (8, .iv (.str ex)), (10, .iv (.str fa)), (11, .iv (.str fr)), (13, .iv (.bool false))] [(0, .var (.agg [.sl [], .bool false, .sl []]))] 40) (Wk.tab [] ⟨⟨rfl, rfl⟩, ⟨rfl, rfl⟩, ⟨rfl, rfl⟩, ⟨rfl, rfl⟩, ⟨rfl, rfl⟩, ⟨rfl, rfl⟩, trivial⟩ ⟨rfl, trivial⟩ rfl) (by kernel_rfl) ?_; conv => whnf) | (refine W.RS (by kernel_rfl) ?_; conv => whnf) | (refine W.S ?_) | (refine W.ret ?_; conv => whnf) | (refine W.skip ?_; conv => whnf) | (refine W.condF rfl ?_) | (refine ⟨_, c1, ?_⟩; conv => whnf) | (refine ⟨_, c2, ?_⟩; conv => whnf) | (refine ⟨_, c5, ?_⟩; conv => whnf) | (refine ⟨_, c6, ?_⟩; conv => whnf) | (refine ⟨_, c7, ?_⟩; conv => whnf) | (refine ⟨_, c8, ?_⟩; conv => whnf) | (refine ⟨_, c9, ?_⟩; conv => whnf) | (refine ⟨_, c11, ?_⟩; conv => whnf) | (refine ⟨_, c12, ?_⟩; conv => whnf) | (refine ⟨_, c13, ?_⟩; conv => whnf) | (refine ⟨_, c14, ?_⟩; conv => whnf) | (refine ⟨_, c15, ?_⟩; conv => whnf) | (refine ⟨_, c16, ?_⟩; conv => whnf) | (refine ⟨_, c17, ?_⟩; conv => whnf) | (refine ⟨_, c18, ?_⟩; conv => whnf) | (refine ⟨_, c19, ?_⟩; conv => whnf) | (refine ⟨_, c20, ?_⟩; conv => whnf) | (refine ⟨_, c21, ?_⟩; conv => whnf) | (refine ⟨_, m1, ?_⟩; conv => whnf) | (refine ⟨_, m2, ?_⟩; conv => whnf) | (refine ⟨rfl, _, w64 (by omega), ?_⟩; conv => whnf) | (refine ⟨_, w64 (by omega), ?_⟩; conv => whnf) | (refine ⟨false, decide_eq_false (by omega), ?_⟩; conv => whnf) | (refine ⟨_, rfl, ?_⟩; conv => whnf) | (refine ⟨rfl, ?_⟩; conv => whnf) | (refine And.intro (by omega) ?_; conv => whnf) | (refine ⟨_, fun h => absurd h Bool.false_ne_true, fun _ => rfl, ?_⟩; conv => whnf) | (refine ⟨_, fun _ => rfl, fun h => absurd h.symm Bool.false_ne_true, ?_⟩; conv => whnf))
        rfl
    | false =>
      cases d3 with
      | true =>
        rw [k10 rfl] at c10
        repeat (first | (refine W.wkRS (id := 16) (σ' := mkA [(2, .ptr 0 0), (4, .iv (.bool m)), (8, .iv (.str ex)), (10, .iv (.str fa)), (11, .iv (.str fr)), (13, .iv (.bool false))] [(0, .var (.agg [.sl [], .bool false, .sl []]))] 40) (Wk.tab [] ⟨⟨rfl, rfl⟩, ⟨rfl, rfl⟩, ⟨rfl, rfl⟩, ⟨rfl, rfl⟩, ⟨rfl, rfl⟩, ⟨rfl, rfl⟩, trivial⟩ ⟨rfl, trivial⟩ rfl) (by kernel_rfl) ?_; conv => whnf) | (refine W.RS (by kernel_rfl) ?_; conv => whnf) | (refine W.S ?_) | (refine W.ret ?_; conv => whnf) | (refine W.skip ?_; conv => whnf) | (refine W.condF rfl ?_) | (refine ⟨_, c1, ?_⟩; conv => whnf) | (refine ⟨_, c2, ?_⟩; conv => whnf) | (refine ⟨_, c5, ?_⟩; conv => whnf) | (refine ⟨_, c6, ?_⟩; conv => whnf) | (refine ⟨_, c7, ?_⟩; conv => whnf) | (refine ⟨_, c8, ?_⟩; conv => whnf) | (refine ⟨_, c10, ?_⟩; conv => whnf) | (refine ⟨_, c11, ?_⟩; conv => whnf) | (refine ⟨_, c12, ?_⟩; conv => whnf) | (refine ⟨_, c13, ?_⟩; conv => whnf) | (refine ⟨_, c14, ?_⟩; conv => whnf) | (refine ⟨_, c15, ?_⟩; conv => whnf) | (refine ⟨_, c16, ?_⟩; conv => whnf) | (refine ⟨_, c17, ?_⟩; conv => whnf) | (refine ⟨_, c18, ?_⟩; conv => whnf) | (refine ⟨_, c19, ?_⟩; conv => whnf) | (refine ⟨_, c20, ?_⟩; conv => whnf) | (refine ⟨_, c21, ?_⟩; conv => whnf) | (refine ⟨_, m1, ?_⟩; conv => whnf) | (refine ⟨_, m2, ?_⟩; conv => whnf) | (refine ⟨rfl, _, w64 (by omega), ?_⟩; conv => whnf) | (refine ⟨_, w64 (by omega), ?_⟩; conv => whnf) | (refine ⟨false, decide_eq_false (by omega), ?_⟩; conv => whnf) | (refine ⟨_, rfl, ?_⟩; conv => whnf) | (refine ⟨rfl, ?_⟩; conv => whnf) | (refine And.intro (by omega) ?_; conv => whnf) | (refine ⟨_, fun h => absurd h Bool.false_ne_true, fun _ => rfl, ?_⟩; conv => whnf) | (refine ⟨_, fun _ => rfl, fun h => absurd h.symm Bool.false_ne_true, ?_⟩; conv => whnf))
        rfl
      | false =>
        repeat (first | (refine W.wkRS (id := 16) (σ' := mkA [(2, .ptr 0 0), (4, .iv (.bool m)), (8, .iv (.str ex)), (10, .iv (.str fa)), (11, .iv (.str fr)), (13, .iv (.bool false))] [(0, .var (.agg [.sl [], .bool false, .sl []]))] 40) (Wk.tab [] ⟨⟨rfl, rfl⟩, ⟨rfl, rfl⟩, ⟨rfl, rfl⟩, ⟨rfl, rfl⟩, ⟨rfl, rfl⟩, ⟨rfl, rfl⟩, trivial⟩ ⟨rfl, trivial⟩ rfl) (by kernel_rfl) ?_; conv => whnf) | (refine W.RS (by kernel_rfl) ?_; conv => whnf) | (refine W.S ?_) | (refine W.ret ?_; conv => whnf) | (refine W.skip ?_; conv => whnf) | (refine W.condF rfl ?_) | (refine ⟨_, c1, ?_⟩; conv => whnf) | (refine ⟨_, c2, ?_⟩; conv => whnf) | (refine ⟨_, c5, ?_⟩; conv => whnf) | (refine ⟨_, c6, ?_⟩; conv => whnf) | (refine ⟨_, c7, ?_⟩; conv => whnf) | (refine ⟨_, c8, ?_⟩; conv => whnf) | (refine ⟨_, c11, ?_⟩; conv => whnf) | (refine ⟨_, c12, ?_⟩; conv => whnf) | (refine ⟨_, c13, ?_⟩; conv => whnf) | (refine ⟨_, c14, ?_⟩; conv => whnf) | (refine ⟨_, c15, ?_⟩; conv => whnf) | (refine ⟨_, c16, ?_⟩; conv => whnf) | (refine ⟨_, c17, ?_⟩; conv => whnf) | (refine ⟨_, c18, ?_⟩; conv => whnf) | (refine ⟨_, c19, ?_⟩; conv => whnf) | (refine ⟨_, c20, ?_⟩; conv => whnf) | (refine ⟨_, c21, ?_⟩; conv => whnf) | (refine ⟨_, m1, ?_⟩; conv => whnf) | (refine ⟨_, m2, ?_⟩; conv => whnf) | (refine ⟨rfl, _, w64 (by omega), ?_⟩; conv => whnf) | (refine ⟨_, w64 (by omega), ?_⟩; conv => whnf) | (refine ⟨false, decide_eq_false (by omega), ?_⟩; conv => whnf) | (refine ⟨_, rfl, ?_⟩; conv => whnf) | (refine ⟨rfl, ?_⟩; conv => whnf) | (refine And.intro (by omega) ?_; conv => whnf) | (refine ⟨_, fun h => absurd h Bool.false_ne_true, fun _ => rfl, ?_⟩; conv => whnf))
        rfl
end Go.Proofs.Fl
namespace Go.Proofs.Fl
open Go.RowKit Go.Proofs.Dig
attribute [local irreducible] IntKind.wrap PureC MutC MakC IterC
set_option maxHeartbeats 4000000 in
theorem f20_ok {J : Keep} (L : LibI J) {s : List UInt8} (hs : s.length < 2 ^ 31) : C J 20 [.str s] (rePq (parseQ s)) := by
  unfold parseQ
  by_cases h1000 : s.length > 1000
  · rw [if_pos h1000, rePq_zero]
    refine fn_ok Tryz.func20 rfl rfl rfl ?_
    repeat (first | (refine W.RS (by kernel_rfl) ?_; conv => whnf) | (refine W.S ?_) | (refine W.ret ?_; conv => whnf) | (refine W.condT rfl ?_) | (refine ⟨true, decide_eq_true (by omega), ?_⟩; conv => whnf) | (refine ⟨_, rfl, ?_⟩; conv => whnf) | (refine ⟨rfl, ?_⟩; conv => whnf))
    rfl
  · rw [if_neg h1000]
    have c1 := f126_ok J s [45]
    obtain ⟨m, hm⟩ : ∃ m, Lib.hasPrefix s [45] = m := ⟨_, rfl⟩
    have l1 := trimP_len s [45]
    obtain ⟨t, ht⟩ : ∃ t, Lib.trimPrefix s [45] = t := ⟨_, rfl⟩
    rw [hm, ht] at c1
    rw [ht] at l1
    simp only [hm, ht]
    have c2 := f127_ok L (s := t) (p := [47]) (by omega)
    obtain ⟨k1, k2, k3⟩ := cut_len t [47]
    obtain ⟨a, ha⟩ : ∃ a, (Lib.cut t [47]).1 = a := ⟨_, rfl⟩
    obtain ⟨b, hb⟩ : ∃ b, (Lib.cut t [47]).2.1 = b := ⟨_, rfl⟩
    obtain ⟨z, hz⟩ : ∃ z, (Lib.cut t [47]).2.2 = z := ⟨_, rfl⟩
    rw [ha, hb, hz] at c2
    rw [ha] at k1
    rw [hb] at k2 k3
    rw [ha, hb, hz]
    have c3 := f128_ok J (s := a) (by omega)
    have c4 := f128_ok J (s := b) (by omega)
    cases z with
    | true =>
      rw [if_pos rfl]
      cases hia : intS a with
      | false =>
        rw [hia] at c3
        rw [show (!false || !intS b) = true by simp, if_pos rfl, rePq_zero]
        refine fn_ok Tryz.func20 rfl rfl rfl ?_
        repeat (first | (refine W.RS (by kernel_rfl) ?_; conv => whnf) | (refine W.S ?_) | (refine W.block ?_) | (refine W.ret ?_; conv => whnf) | (refine W.skip ?_; conv => whnf) | (refine W.condF rfl ?_) | (refine W.condT rfl ?_) | (refine ⟨_, c1, ?_⟩; conv => whnf) | (refine ⟨_, c2, ?_⟩; conv => whnf) | (refine ⟨_, c3, ?_⟩; conv => whnf) | (refine ⟨false, decide_eq_false (by omega), ?_⟩; conv => whnf) | (refine ⟨_, rfl, ?_⟩; conv => whnf) | (refine ⟨rfl, ?_⟩; conv => whnf) | (refine ⟨_, fun _ => rfl, fun h => absurd h.symm Bool.false_ne_true, ?_⟩; conv => whnf))
        rfl
      | true =>
        rw [hia] at c3
        cases hib : intS b with
        | false =>
          rw [hib] at c4
          rw [show (!true || !false) = true by rfl, if_pos rfl, rePq_zero]
          refine fn_ok Tryz.func20 rfl rfl rfl ?_
          repeat (first | (refine W.RS (by kernel_rfl) ?_; conv => whnf) | (refine W.S ?_) | (refine W.block ?_) | (refine W.ret ?_; conv => whnf) | (refine W.skip ?_; conv => whnf) | (refine W.condF rfl ?_) | (refine W.condT rfl ?_) | (refine ⟨_, c1, ?_⟩; conv => whnf) | (refine ⟨_, c2, ?_⟩; conv => whnf) | (refine ⟨_, c3, ?_⟩; conv => whnf) | (refine ⟨_, c4, ?_⟩; conv => whnf) | (refine ⟨false, decide_eq_false (by omega), ?_⟩; conv => whnf) | (refine ⟨_, rfl, ?_⟩; conv => whnf) | (refine ⟨rfl, ?_⟩; conv => whnf) | (refine ⟨_, fun h => absurd h Bool.false_ne_true, fun _ => rfl, ?_⟩; conv => whnf))
          rfl
        | true =>
          rw [hib] at c4
          rw [show (!true || !true) = false by rfl, if_neg (by simp)]
          by_cases hb0 : b = [48]
          · have e : (b == [48]) = true := by rw [beq_iff_eq]; exact hb0
            rw [if_pos hb0, rePq_zero]
            refine fn_ok Tryz.func20 rfl rfl rfl ?_
            repeat (first | (refine W.RS (by kernel_rfl) ?_; conv => whnf) | (refine W.S ?_) | (refine W.block ?_) | (refine W.ret ?_; conv => whnf) | (refine W.skip ?_; conv => whnf) | (refine W.condF rfl ?_) | (refine W.condT rfl ?_) | (refine ⟨_, c1, ?_⟩; conv => whnf) | (refine ⟨_, c2, ?_⟩; conv => whnf) | (refine ⟨_, c3, ?_⟩; conv => whnf) | (refine ⟨_, c4, ?_⟩; conv => whnf) | (refine ⟨_, e, ?_⟩; conv => whnf) | (refine ⟨false, decide_eq_false (by omega), ?_⟩; conv => whnf) | (refine ⟨_, rfl, ?_⟩; conv => whnf) | (refine ⟨rfl, ?_⟩; conv => whnf) | (refine ⟨_, fun h => absurd h Bool.false_ne_true, fun _ => rfl, ?_⟩; conv => whnf))
            rfl
          · have e : (b == [48]) = false := by rw [beq_eq_false_iff_ne]; exact hb0
            rw [if_neg hb0]
            have l3 := ln_dv (intS_all hia)
            have l4 := ln_dv (intS_all hib)
            have c5 := f131_ok J (intS_all hia) (by omega)
            have c6 := f131_ok J (intS_all hib) (by omega)
            have c7 := f130_ok J m (dv a)
            have e7 : (sv m (dv a)).natAbs = dv a := by unfold sv; split <;> omega
            have c8 := f129_ok (base J) (z := sv m (dv a)) (intS_pos hib hb0) (by rw [e7]; omega) (by omega)
            refine fn_ok Tryz.func20 rfl rfl rfl ?_
            repeat (first | (refine W.RS (by kernel_rfl) ?_; conv => whnf) | (refine W.S ?_) | (refine W.block ?_) | (refine W.ret ?_; conv => whnf) | (refine W.skip ?_; conv => whnf) | (refine W.condF rfl ?_) | (refine W.condT rfl ?_) | (refine ⟨_, c1, ?_⟩; conv => whnf) | (refine ⟨_, c2, ?_⟩; conv => whnf) | (refine ⟨_, c3, ?_⟩; conv => whnf) | (refine ⟨_, c4, ?_⟩; conv => whnf) | (refine ⟨_, e, ?_⟩; conv => whnf) | (refine ⟨_, c5, ?_⟩; conv => whnf) | (refine ⟨_, c6, ?_⟩; conv => whnf) | (refine ⟨_, c7, ?_⟩; conv => whnf) | (refine ⟨_, c8, ?_⟩; conv => whnf) | (refine ⟨false, decide_eq_false (by omega), ?_⟩; conv => whnf) | (refine ⟨_, rfl, ?_⟩; conv => whnf) | (refine ⟨rfl, ?_⟩; conv => whnf) | (refine ⟨_, fun h => absurd h Bool.false_ne_true, fun _ => rfl, ?_⟩; conv => whnf))
            rfl
    | false =>
      rw [if_neg (by simp)]
      have c5 := f127_ok L (s := t) (p := [101]) (by omega)
      obtain ⟨p1, p2, p3⟩ := cut_len t [101]
      obtain ⟨d1, hd1⟩ : ∃ x, (Lib.cut t [101]).1 = x := ⟨_, rfl⟩
      obtain ⟨d2, hd2⟩ : ∃ x, (Lib.cut t [101]).2.1 = x := ⟨_, rfl⟩
      obtain ⟨d3, hd3⟩ : ∃ x, (Lib.cut t [101]).2.2 = x := ⟨_, rfl⟩
      simp only [hd1, hd2, hd3] at c5 p1 p2 p3 ⊢
      have c6 := f127_ok L (s := d1) (p := [46]) (by omega)
      obtain ⟨q1, q2, q3⟩ := cut_len d1 [46]
      obtain ⟨fa, hf1⟩ : ∃ x, (Lib.cut d1 [46]).1 = x := ⟨_, rfl⟩
      obtain ⟨fr, hf2⟩ : ∃ x, (Lib.cut d1 [46]).2.1 = x := ⟨_, rfl⟩
      obtain ⟨f3, hf3⟩ : ∃ x, (Lib.cut d1 [46]).2.2 = x := ⟨_, rfl⟩
      simp only [hf1, hf2, hf3] at c6 q1 q2 q3 ⊢
      have c7 := f126_ok J d2 [45]
      have r1 := trimP_len d2 [45]
      have r2 : d2 = [] → Lib.trimPrefix d2 [45] = [] := fun e => by rw [e]; rfl
      obtain ⟨ex, hex⟩ : ∃ x, Lib.trimPrefix d2 [45] = x := ⟨_, rfl⟩
      obtain ⟨dn, hdn⟩ : ∃ x, Lib.hasPrefix d2 [45] = x := ⟨_, rfl⟩
      simp only [hex, hdn] at c7 r1 r2 ⊢
      have c8 := f128_ok J (s := fa) (by omega)
      have c9 := f132_ok J (s := fr) (by omega)
      have c10 := f128_ok J (s := ex) (by omega)
      cases hx : (!intS fa || ((f3 && !digs fr) || (d3 && !intS ex))) with
      | true =>
        rw [if_pos rfl, rePq_zero]
        cases h1 : intS fa with
        | false =>
          rw [h1] at c8
          refine fn_ok Tryz.func20 rfl rfl rfl ?_
          repeat (first | (refine W.RS (by kernel_rfl) ?_; conv => whnf) | (refine W.S ?_) | (refine W.ret ?_; conv => whnf) | (refine W.skip ?_; conv => whnf) | (refine W.condF rfl ?_) | (refine W.condT rfl ?_) | (refine ⟨_, c1, ?_⟩; conv => whnf) | (refine ⟨_, c2, ?_⟩; conv => whnf) | (refine ⟨_, c5, ?_⟩; conv => whnf) | (refine ⟨_, c6, ?_⟩; conv => whnf) | (refine ⟨_, c7, ?_⟩; conv => whnf) | (refine ⟨_, c8, ?_⟩; conv => whnf) | (refine ⟨false, decide_eq_false (by omega), ?_⟩; conv => whnf) | (refine ⟨_, rfl, ?_⟩; conv => whnf) | (refine ⟨rfl, ?_⟩; conv => whnf) | (refine ⟨_, fun _ => rfl, fun h => absurd h.symm Bool.false_ne_true, ?_⟩; conv => whnf))
          rfl
        | true =>
          rw [h1] at c8 hx
          cases f3 with
          | true =>
            cases h2 : digs fr with
            | false =>
              rw [h2] at c9
              refine fn_ok Tryz.func20 rfl rfl rfl ?_
              repeat (first | (refine W.RS (by kernel_rfl) ?_; conv => whnf) | (refine W.S ?_) | (refine W.ret ?_; conv => whnf) | (refine W.skip ?_; conv => whnf) | (refine W.condF rfl ?_) | (refine W.condT rfl ?_) | (refine ⟨_, c1, ?_⟩; conv => whnf) | (refine ⟨_, c2, ?_⟩; conv => whnf) | (refine ⟨_, c5, ?_⟩; conv => whnf) | (refine ⟨_, c6, ?_⟩; conv => whnf) | (refine ⟨_, c7, ?_⟩; conv => whnf) | (refine ⟨_, c8, ?_⟩; conv => whnf) | (refine ⟨_, c9, ?_⟩; conv => whnf) | (refine ⟨false, decide_eq_false (by omega), ?_⟩; conv => whnf) | (refine ⟨_, rfl, ?_⟩; conv => whnf) | (refine ⟨rfl, ?_⟩; conv => whnf) | (refine ⟨_, fun h => absurd h Bool.false_ne_true, fun _ => rfl, ?_⟩; conv => whnf) | (refine ⟨_, fun _ => rfl, fun h => absurd h.symm Bool.false_ne_true, ?_⟩; conv => whnf))
              rfl
            | true =>
              rw [h2] at c9 hx
              cases d3 with
              | false => simp at hx
              | true =>
                cases h3 : intS ex with
                | true => rw [h3] at hx; simp at hx
                | false =>
                  rw [h3] at c10
                  refine fn_ok Tryz.func20 rfl rfl rfl ?_
                  repeat (first | (refine W.RS (by kernel_rfl) ?_; conv => whnf) | (refine W.S ?_) | (refine W.ret ?_; conv => whnf) | (refine W.skip ?_; conv => whnf) | (refine W.condF rfl ?_) | (refine W.condT rfl ?_) | (refine ⟨_, c1, ?_⟩; conv => whnf) | (refine ⟨_, c2, ?_⟩; conv => whnf) | (refine ⟨_, c5, ?_⟩; conv => whnf) | (refine ⟨_, c6, ?_⟩; conv => whnf) | (refine ⟨_, c7, ?_⟩; conv => whnf) | (refine ⟨_, c8, ?_⟩; conv => whnf) | (refine ⟨_, c9, ?_⟩; conv => whnf) | (refine ⟨_, c10, ?_⟩; conv => whnf) | (refine ⟨false, decide_eq_false (by omega), ?_⟩; conv => whnf) | (refine ⟨_, rfl, ?_⟩; conv => whnf) | (refine ⟨rfl, ?_⟩; conv => whnf) | (refine ⟨_, fun h => absurd h Bool.false_ne_true, fun _ => rfl, ?_⟩; conv => whnf) | (refine ⟨_, fun _ => rfl, fun h => absurd h.symm Bool.false_ne_true, ?_⟩; conv => whnf))
                  rfl
          | false =>
            cases d3 with
            | false => simp at hx
            | true =>
              cases h3 : intS ex with
              | true => rw [h3] at hx; simp at hx
              | false =>
                rw [h3] at c10
                refine fn_ok Tryz.func20 rfl rfl rfl ?_
                repeat (first | (refine W.RS (by kernel_rfl) ?_; conv => whnf) | (refine W.S ?_) | (refine W.ret ?_; conv => whnf) | (refine W.skip ?_; conv => whnf) | (refine W.condF rfl ?_) | (refine W.condT rfl ?_) | (refine ⟨_, c1, ?_⟩; conv => whnf) | (refine ⟨_, c2, ?_⟩; conv => whnf) | (refine ⟨_, c5, ?_⟩; conv => whnf) | (refine ⟨_, c6, ?_⟩; conv => whnf) | (refine ⟨_, c7, ?_⟩; conv => whnf) | (refine ⟨_, c8, ?_⟩; conv => whnf) | (refine ⟨_, c10, ?_⟩; conv => whnf) | (refine ⟨false, decide_eq_false (by omega), ?_⟩; conv => whnf) | (refine ⟨_, rfl, ?_⟩; conv => whnf) | (refine ⟨rfl, ?_⟩; conv => whnf) | (refine ⟨_, fun h => absurd h Bool.false_ne_true, fun _ => rfl, ?_⟩; conv => whnf) | (refine ⟨_, fun _ => rfl, fun h => absurd h.symm Bool.false_ne_true, ?_⟩; conv => whnf))
                rfl
      | false =>
        rw [if_neg (by simp)]
        simp only [Bool.or_eq_false_iff, Bool.not_eq_false', Bool.and_eq_false_iff] at hx
        obtain ⟨h1, h2, h3⟩ := hx
        rw [h1] at c8
        have hfr : fr.all digB = true := by
          rcases h2 with h2 | h2
          · rw [q3 h2]; rfl
          · exact digs_all h2
        have hexd : ex.all digB = true := by
          rcases h3 with h3 | h3
          · rw [r2 (p3 h3)]; rfl
          · exact intS_all h3
        have c11 := f131_ok J hexd (by omega)
        have e1 := ln_dv hexd
        have c12 := f134_ok J (n := 1000) (by omega)
        have c13 := f133_mag J (a := dv ex) (b := 1000) (by omega)
        have hcm : cmpI (dv ex : Int) (1000 : Nat) > 0 ↔ dv ex > 1000 := by unfold cmpI; split <;> (try split) <;> omega
        obtain ⟨cv, hcv⟩ : ∃ cv, cmpI (dv ex : Int) (1000 : Nat) = cv := ⟨_, rfl⟩
        rw [hcv] at c13 hcm
        have k9 : f3 = true → digs fr = true := fun e => h2.resolve_left (by rw [e]; simp)
        have k10 : d3 = true → intS ex = true := fun e => h3.resolve_left (by rw [e]; simp)
        by_cases hlim : dv ex > 1000
        · rw [if_pos hlim, rePq_zero]
          exact parse_limit h1000 c1 c2 c5 c6 c7 c8 c9 c10 k9 k10 c11 c12 c13 (hcm.2 hlim)
        · rw [if_neg hlim]
          have hcv1 : ¬ cv > 0 := fun h => hlim (hcm.1 h)
          have c14 := f135_ok J (n := dv ex) (ln_le (Nat.lt_of_le_of_lt (Nat.le_of_not_lt hlim) (by decide)))
          have hall : (fa ++ fr).all digB = true := by rw [List.all_append, intS_all h1, hfr]; rfl
          have lfa : (fa ++ fr).length = fa.length + fr.length := List.length_append
          have c15 := f131_ok J hall (by omega)
          have l15 := ln_dv hall
          have c16 := f134_ok J (n := 10) (by omega)
          obtain ⟨P, hP⟩ : ∃ P : Int, (if dn = true then -(dv ex : Int) else (dv ex : Int)) - (fr.length : Int) = P := ⟨_, rfl⟩
          have hPb : -2000 ≤ P ∧ P ≤ 1000 := by rw [← hP]; split <;> omega
          simp only [hP]
          have m1 : (if (0 : Int) > P then 0 else P) = ((P.toNat : Nat) : Int) := by split <;> omega
          have m2 : (if (0 : Int) > -P then 0 else -P) = (((-P).toNat : Nat) : Int) := by split <;> omega
          obtain ⟨n1, hn1⟩ : ∃ n, P.toNat = n := ⟨_, rfl⟩
          obtain ⟨n2, hn2⟩ : ∃ n, (-P).toNat = n := ⟨_, rfl⟩
          rw [hn1] at m1 ⊢
          rw [hn2] at m2 ⊢
          have b1 : n1 ≤ 2000 := by omega
          have b2 : n2 ≤ 2000 := by omega
          have l10 : ln 10 ≤ 1 := ln_le (by decide)
          have g1 := Nat.mul_le_mul (show n1 + 1 ≤ 2001 by omega) l10
          have g2 := Nat.mul_le_mul (show n2 + 1 ≤ 2001 by omega) l10
          have g3 := Nat.mul_le_mul b1 l10
          have g4 := Nat.mul_le_mul b2 l10
          have c17 := f137_ok J (a := 10) (n := n1) (by omega) (by omega)
          have c18 := f137_ok J (a := 10) (n := n2) (by omega) (by omega)
          have l17 := ln_pow 10 n1
          have l18 := ln_pow 10 n2
          have c19 := f136_ok J (a := dv (fa ++ fr)) (b := 10 ^ n1) (by omega)
          have l19 := ln_mul_le (dv (fa ++ fr)) (10 ^ n1)
          obtain ⟨N, hN⟩ : ∃ N, dv (fa ++ fr) * 10 ^ n1 = N := ⟨_, rfl⟩
          rw [hN] at c19 l19 ⊢
          have c20 := f130_ok J m N
          have e20 : (sv m N).natAbs = N := by unfold sv; split <;> omega
          have c21 := f129_ok (base J) (z := sv m N) (d := 10 ^ n2) (Nat.pow_pos (by decide)) (by rw [e20]; omega) (by omega)
          exact parse_num h1000 c1 c2 c5 c6 c7 c8 c9 c10 k9 k10 c11 c12 c13 hcv1 (by omega) (by omega) (by omega) hP.symm m1 m2 hPb c14 c15 c16 c17 c18 c19 c20 c21
end Go.Proofs.Fl
namespace Go.Proofs.Fl
open Go.RowKit Go.Proofs.Dig
attribute [local irreducible] IntKind.wrap PureC MutC MakC IterC
theorem f151_ok (J : Keep) (a b : Rat) : MK J 151 [qr a, qr b] 197 [qr a, qr b] := by
  refine mk_ok Tryz.func151 rfl rfl rfl ?_
  repeat (first | (refine W.RS (by kernel_rfl) ?_; conv => whnf) | (refine W.ret ?_; conv => whnf) | (refine ⟨rfl, ?_⟩; conv => whnf))
  exact ⟨⟨rfl, rfl, trivial⟩, by simp⟩
theorem sub_int (x : Rat) (n : Int) : (x - (n : Rat)).den = x.den ∧ (x - (n : Rat)).num = x.num - n * (x.den : Int) := by
  have h0 := den_pos x
  have e : x - (n : Rat) = mkRat (x.num - n * (x.den : Int)) x.den := by
    rw [Rat.sub_def']
    show mkRat (x.num * ((1 : Nat) : Int) - n * (x.den : Int)) (x.den * 1) = _
    rw [Nat.mul_one]; simp
  generalize hz : x.num - n * (x.den : Int) = z at e ⊢
  have hg : Nat.gcd z.natAbs x.den = 1 := by
    have h1 : (((Nat.gcd z.natAbs x.den : Nat) : Int)) ∣ z := Int.ofNat_dvd_left.2 (Nat.gcd_dvd_left _ _)
    have h2 : (((Nat.gcd z.natAbs x.den : Nat) : Int)) ∣ (x.den : Int) := Int.natCast_dvd_natCast.2 (Nat.gcd_dvd_right _ _)
    have h3 : (((Nat.gcd z.natAbs x.den : Nat) : Int)) ∣ x.num := by
      have : x.num = z + n * (x.den : Int) := by omega
      rw [this]
      exact Int.dvd_add h1 (Int.dvd_trans h2 (Int.dvd_mul_left _ _))
    have h4 : Nat.gcd z.natAbs x.den ∣ Nat.gcd x.num.natAbs x.den := Nat.dvd_gcd (Int.ofNat_dvd_left.1 h3) (Nat.gcd_dvd_right _ _)
    rw [x.reduced] at h4
    exact Nat.dvd_one.1 h4
  rw [e, mkRat_num h0, mkRat_den h0, hg, Nat.div_one, Nat.div_one, sv_neg]
  exact ⟨rfl, rfl⟩
theorem inv_num {x : Rat} (h : 0 < x.num) : (1 / x).num = (x.den : Int) ∧ (1 / x).den = x.num.natAbs := by
  have e : (1 : Rat) / x = x⁻¹ := by rw [Rat.div_def, Rat.one_mul]
  rw [e]
  show (Rat.inv x).num = _ ∧ (Rat.inv x).den = _
  unfold Rat.inv
  rw [dif_neg (by omega), dif_pos h]
  exact ⟨rfl, rfl⟩
def desc : Nat → Rat → Rat → List Rat
  | 0, _, _ => []
  | k + 1, a, b => if (((-((-a).floor) : Int)) : Rat) ≤ b then [(((-((-a).floor) : Int)) : Rat)] else ((a.floor : Int) : Rat) :: desc k (1 / (b - ((a.floor : Int) : Rat))) (1 / (a - ((a.floor : Int) : Rat)))
theorem intLe {c : Int} {b : Rat} : ((c : Int) : Rat) ≤ b ↔ c * (b.den : Int) ≤ b.num := by
  rw [Rat.le_iff]
  show c * (b.den : Int) ≤ b.num * ((1 : Nat) : Int) ↔ _
  simp
theorem floor_spec (q : Rat) : q.floor * (q.den : Int) ≤ q.num ∧ q.num < q.floor * (q.den : Int) + (q.den : Int) := by
  rw [Rat.floor_def]
  have h0 : (0 : Int) < (q.den : Int) := by have := den_pos q; omega
  have h1 := Int.ediv_mul_le q.num (show (q.den : Int) ≠ 0 by omega)
  have h2 := Int.lt_ediv_add_one_mul_self q.num h0
  rw [Int.add_mul, Int.one_mul] at h2
  exact ⟨h1, h2⟩
theorem ceil_spec (q : Rat) : q.num ≤ (-((-q).floor)) * (q.den : Int) ∧ (-((-q).floor)) * (q.den : Int) < q.num + (q.den : Int) := by
  have h := floor_spec (-q)
  rw [Rat.neg_num, Rat.neg_den] at h
  rw [Int.neg_mul]
  omega
theorem ceil_floor {q : Rat} (h : q.num ≠ q.floor * (q.den : Int)) : -((-q).floor) = q.floor + 1 := by
  have h0 : (0 : Int) < (q.den : Int) := by have := den_pos q; omega
  obtain ⟨f1, f2⟩ := floor_spec q
  obtain ⟨c1, c2⟩ := ceil_spec q
  have h1 : q.floor * (q.den : Int) < (-((-q).floor)) * (q.den : Int) := by omega
  have h2 := Int.lt_of_mul_lt_mul_right h1 (by omega)
  have h3 : (-((-q).floor) - 1) * (q.den : Int) < (q.floor + 1) * (q.den : Int) := by
    rw [Int.sub_mul, Int.add_mul, Int.one_mul]; omega
  have h4 := Int.lt_of_mul_lt_mul_right h3 (by omega)
  omega
theorem desc_step {a b : Rat} (hab : a ≤ b) (h : ¬ (((-((-a).floor) : Int)) : Rat) ≤ b) :
    0 < a.num - a.floor * (a.den : Int) ∧ a.num - a.floor * (a.den : Int) < (a.den : Int) ∧ 0 < b.num - a.floor * (b.den : Int) ∧ b.num - a.floor * (b.den : Int) < (b.den : Int) := by
  have h0 : (0 : Int) < (a.den : Int) := by have := den_pos a; omega
  have h0' : (0 : Int) < (b.den : Int) := by have := den_pos b; omega
  obtain ⟨f1, f2⟩ := floor_spec a
  have hne : a.num ≠ a.floor * (a.den : Int) := fun e => by
    apply h
    refine Rat.le_trans ?_ hab
    rw [intLe]
    have hc := ceil_spec a
    have h1 : (-((-a).floor)) * (a.den : Int) < (a.floor + 1) * (a.den : Int) := by rw [Int.add_mul, Int.one_mul]; omega
    have h2 := Int.lt_of_mul_lt_mul_right h1 (by omega)
    have h3 : (-((-a).floor)) * (a.den : Int) ≤ a.floor * (a.den : Int) := Int.mul_le_mul_of_nonneg_right (by omega) (by omega)
    omega
  rw [ceil_floor hne, intLe, Int.add_mul, Int.one_mul] at h
  have hlt : ((a.floor : Int) : Rat) < b := by
    have h1 : ((a.floor : Int) : Rat) < a := by
      rw [Rat.lt_iff]
      show a.floor * (a.den : Int) < a.num * ((1 : Nat) : Int)
      simp; omega
    exact Rat.not_le.1 (fun e => Rat.not_le.2 h1 (Rat.le_trans hab e))
  have hb : a.floor * (b.den : Int) < b.num := by
    have := (Rat.lt_iff _ _).1 hlt
    have h2 : a.floor * (b.den : Int) < b.num * ((1 : Nat) : Int) := this
    simpa using h2
  omega
theorem desc_ends {a b : Rat} (hab : a ≤ b) (h : ¬ (((-((-a).floor) : Int)) : Rat) ≤ b) :
    (1 / (b - ((a.floor : Int) : Rat))).num = (b.den : Int) ∧ (1 / (b - ((a.floor : Int) : Rat))).den = (b.num - a.floor * (b.den : Int)).natAbs ∧
    (1 / (a - ((a.floor : Int) : Rat))).num = (a.den : Int) ∧ (1 / (a - ((a.floor : Int) : Rat))).den = (a.num - a.floor * (a.den : Int)).natAbs ∧ 1 / (b - ((a.floor : Int) : Rat)) ≤ 1 / (a - ((a.floor : Int) : Rat)) := by
  obtain ⟨s1, s2, s3, s4⟩ := desc_step hab h
  obtain ⟨a1, a2⟩ := sub_int a a.floor
  obtain ⟨b1, b2⟩ := sub_int b a.floor
  have i1 := inv_num (x := a - ((a.floor : Int) : Rat)) (by rw [a2]; exact s1)
  have i2 := inv_num (x := b - ((a.floor : Int) : Rat)) (by rw [b2]; exact s3)
  refine ⟨by rw [i2.1, b1], by rw [i2.2, b2], by rw [i1.1, a1], by rw [i1.2, a2], ?_⟩
  rw [Rat.le_iff, i1.1, i1.2, i2.1, i2.2, a1, b1, a2, b2]
  have e1 : (((a.num - a.floor * (a.den : Int)).natAbs : Nat) : Int) = a.num - a.floor * (a.den : Int) := by omega
  have e2 : (((b.num - a.floor * (b.den : Int)).natAbs : Nat) : Int) = b.num - a.floor * (b.den : Int) := by omega
  rw [e1, e2]
  have h3 := (Rat.le_iff a b).1 hab
  rw [Int.mul_sub, Int.mul_sub, Int.mul_comm (b.den : Int) a.num, Int.mul_comm (a.den : Int) b.num]
  have e3 : (b.den : Int) * (a.floor * (a.den : Int)) = (a.den : Int) * (a.floor * (b.den : Int)) := by
    rw [Int.mul_left_comm, Int.mul_left_comm (a.den : Int), Int.mul_comm (b.den : Int)]
  omega
end Go.Proofs.Fl
namespace Go.Proofs.Fl
open Go.RowKit Go.Proofs.Dig
attribute [local irreducible] IntKind.wrap PureC MutC MakC IterC
noncomputable def yq (q : Rat) : List IV := [qr q]
theorem drop_cons {α : Type} {l m : List α} {x : α} {k : Nat} (h : l.drop k = x :: m) : l[k]? = some x ∧ l.drop (k + 1) = m := by
  have h1 : l[k]? = (l.drop k)[0]? := by simp
  refine ⟨by rw [h1, h]; rfl, ?_⟩
  rw [← List.drop_drop, h]; rfl
theorem drop_one {α : Type} {l : List α} {x : α} {k : Nat} (h : l.drop k = [x]) : k + 1 = l.length := by
  have := congrArg List.length h
  rw [List.length_drop, List.length_singleton] at this
  omega
theorem qln_le2 {q : Rat} {S : Nat} (h1 : ln q.num.natAbs ≤ S) (h2 : ln q.den ≤ S) : qln q ≤ 2 * S := by unfold qln; omega
set_option maxHeartbeats 2000000 in
theorem f197_ok (J : Keep) {a b : Rat} {S : Nat} (hS : S < 2 ^ 28) (hab : a ≤ b) (h1 : ln a.num.natAbs ≤ S) (h2 : ln a.den ≤ S) (h3 : ln b.num.natAbs ≤ S) (h4 : ln b.den ≤ S) : IT J 197 [qr a, qr b] ((desc (a.den + b.den) a b).map yq) := by
  refine it_ok Tryz.func197 rfl rfl rfl rfl fun l F hF => ?_
  obtain ⟨ys, hys⟩ : ∃ ys, (desc (a.den + b.den) a b).map yq = ys := ⟨_, rfl⟩
  rw [hys] at hF ⊢
  refine WY.block ?_
  refine WY.loop (G := { p : Nat × Nat × Rat × Rat // ys.drop p.1 = (desc p.2.1 p.2.2.1 p.2.2.2).map yq ∧ p.2.2.1.den + p.2.2.2.den ≤ p.2.1 ∧ p.2.2.1 ≤ p.2.2.2 ∧ ln p.2.2.1.num.natAbs ≤ S ∧ ln p.2.2.1.den ≤ S ∧ ln p.2.2.2.num.natAbs ≤ S ∧ ln p.2.2.2.den ≤ S })
    (fun p => mkA [(0, .yld l), (1, .ptr 0 0), (2, .ptr 1 0)] [(0, .var (qr p.1.2.2.1)), (1, .var (qr p.1.2.2.2))] 20) (fun p => p.1.1) (fun p => p.1.2.1) ⟨(0, a.den + b.den, a, b), by rw [← hys]; rfl, Nat.le_refl _, hab, h1, h2, h3, h4⟩
    (Wk.tab [] ⟨⟨rfl, rfl⟩, ⟨rfl, rfl⟩, ⟨rfl, rfl⟩, trivial⟩ ⟨rfl, rfl, trivial⟩ rfl) rfl ?_
  rintro ⟨⟨k, fuel, u, v⟩, i1, i2, i3, i4, i5, i6, i7⟩
  dsimp only at i1 i2 i3 i4 i5 i6 i7
  show WY (cx J.top) _ F _ (mkA [(0, .yld l), (1, .ptr 0 0), (2, .ptr 1 0)] [(0, .var (qr u)), (1, .var (qr v))] 20) k _
  have pu := den_pos u
  have pv := den_pos v
  obtain ⟨f, rfl⟩ : ∃ f, fuel = f + 1 := ⟨fuel - 1, by omega⟩
  have s1 := qln_le2 i4 i5
  have s2 := qln_le2 i6 i7
  have c1 := f88_ok (J := J.top) (q := u) (by omega)
  rw [← Rat.intCast_neg] at c1
  have lc : qln (((-((-u).floor) : Int)) : Rat) ≤ S + 1 := by
    have g1 := qln_i (-((-u).floor))
    have g2 := ln_floor (q := -u)
    rw [Rat.neg_num, Int.natAbs_neg] at g2
    rw [Int.natAbs_neg] at g1
    omega
  have lf : qln ((u.floor : Int) : Rat) ≤ S + 1 := by
    have g1 := qln_i u.floor
    have g2 := ln_floor (q := u)
    omega
  have c2 := f37_ok (J := J.top) (a := (((-((-u).floor) : Int)) : Rat)) (b := v) (by omega) (by omega)
  by_cases hc : (((-((-u).floor) : Int)) : Rat) ≤ v
  · have hcm : cmpR (((-((-u).floor) : Int)) : Rat) v ≤ 0 := cmpR_le.2 hc
    rw [desc, if_pos hc] at i1
    obtain ⟨y1, _⟩ := drop_cons i1
    have y2 := drop_one i1
    obtain ⟨C', hC⟩ : ∃ C', (((-((-u).floor) : Int)) : Rat) = C' := ⟨_, rfl⟩
    rw [hC] at c1 c2 hcm y1
    obtain ⟨cv, hcv⟩ : ∃ cv, cmpR C' v = cv := ⟨_, rfl⟩
    rw [hcv] at c2 hcm
    repeat (first | (refine WY.yieldS hF 2 (fo := .tmp 11) rfl rfl rfl rfl ?_; conv => whnf) | (refine WY.RS hF (by kernel_rfl) ?_; conv => whnf) | (refine WY.S ?_) | (refine WY.block ?_) | (refine WY.ret ?_; conv => whnf) | (refine WY.condT rfl ?_) | (refine ⟨y1, ?_⟩; conv => whnf) | (refine ⟨_, c1, ?_⟩; conv => whnf) | (refine ⟨_, c2, ?_⟩; conv => whnf) | (refine ⟨true, decide_eq_true (by omega), ?_⟩; conv => whnf) | (refine ⟨rfl, ?_⟩; conv => whnf))
    exact y2
  · have hcm : ¬ cmpR (((-((-u).floor) : Int)) : Rat) v ≤ 0 := fun h => hc (cmpR_le.1 h)
    rw [desc, if_neg hc, List.map_cons] at i1
    obtain ⟨y1, y2⟩ := drop_cons i1
    obtain ⟨e1, e2, e3, e4, e5⟩ := desc_ends i3 hc
    obtain ⟨t1, t2, t3, t4⟩ := desc_step i3 hc
    obtain ⟨su1, su2⟩ := sub_int u u.floor
    obtain ⟨sv1, sv2⟩ := sub_int v u.floor
    have m1 := ln_mono (show (v.num - u.floor * (v.den : Int)).natAbs ≤ v.den by omega)
    have m2 := ln_mono (show (u.num - u.floor * (u.den : Int)).natAbs ≤ u.den by omega)
    have c3 := f86_ok (J := J.top) (q := u) (by omega)
    have c4 := f61_ok J.top (n := 1) (by omega) (by omega)
    have c5 := f50_ok (base J.top) (a := v) (b := ((u.floor : Int) : Rat)) (by omega) (by omega)
    have c7 := f50_ok (base J.top) (a := u) (b := ((u.floor : Int) : Rat)) (by omega) (by omega)
    have w1 : qln (v - ((u.floor : Int) : Rat)) ≤ 2 * S := by unfold qln; rw [sv1, sv2]; omega
    have w2 : qln (u - ((u.floor : Int) : Rat)) ≤ 2 * S := by unfold qln; rw [su1, su2]; omega
    have n1 : v - ((u.floor : Int) : Rat) ≠ 0 := fun e => by
      have : (v - ((u.floor : Int) : Rat)).num = 0 := by rw [e]; rfl
      omega
    have n2 : u - ((u.floor : Int) : Rat) ≠ 0 := fun e => by
      have : (u - ((u.floor : Int) : Rat)).num = 0 := by rw [e]; rfl
      omega
    have q1 : qln ((1 : Int) : Rat) ≤ 2 := by show ln 1 + ln 1 ≤ 2; rw [ln_one]; omega
    have c6 := f152_ok (base J.top) (a := ((1 : Int) : Rat)) (b := v - ((u.floor : Int) : Rat)) n1 (by omega) (by omega)
    have c8 := f152_ok (base J.top) (a := ((1 : Int) : Rat)) (b := u - ((u.floor : Int) : Rat)) n2 (by omega) (by omega)
    have one : ((1 : Int) : Rat) = 1 := rfl
    rw [one] at c4 c6 c8
    have g1 : ln (1 / (v - ((u.floor : Int) : Rat))).num.natAbs ≤ S := by rw [e1, Int.natAbs_natCast]; exact i7
    have g2 : ln (1 / (v - ((u.floor : Int) : Rat))).den ≤ S := by rw [e2]; omega
    have g3 : ln (1 / (u - ((u.floor : Int) : Rat))).num.natAbs ≤ S := by rw [e3, Int.natAbs_natCast]; exact i5
    have g4 : ln (1 / (u - ((u.floor : Int) : Rat))).den ≤ S := by rw [e4]; omega
    have g5 : (1 / (v - ((u.floor : Int) : Rat))).den + (1 / (u - ((u.floor : Int) : Rat))).den ≤ f := by rw [e2, e4]; omega
    have hG : ys.drop (k + 1) = (desc f (1 / (v - ((u.floor : Int) : Rat))) (1 / (u - ((u.floor : Int) : Rat)))).map yq ∧ (1 / (v - ((u.floor : Int) : Rat))).den + (1 / (u - ((u.floor : Int) : Rat))).den ≤ f ∧ 1 / (v - ((u.floor : Int) : Rat)) ≤ 1 / (u - ((u.floor : Int) : Rat)) ∧ _ ∧ _ ∧ _ ∧ _ := ⟨y2, g5, e5, g1, g2, g3, g4⟩
    obtain ⟨C', hC⟩ : ∃ C', (((-((-u).floor) : Int)) : Rat) = C' := ⟨_, rfl⟩
    rw [hC] at c1 c2 hcm
    obtain ⟨cv, hcv⟩ : ∃ cv, cmpR C' v = cv := ⟨_, rfl⟩
    rw [hcv] at c2 hcm
    obtain ⟨n, hn⟩ : ∃ n, ((u.floor : Int) : Rat) = n := ⟨_, rfl⟩
    rw [hn] at c3 c5 c6 c7 c8 hG y1
    obtain ⟨u2, hu2⟩ : ∃ x, 1 / (v - n) = x := ⟨_, rfl⟩
    obtain ⟨v2, hv2⟩ : ∃ x, 1 / (u - n) = x := ⟨_, rfl⟩
    rw [hu2] at c6 hG
    rw [hv2] at c8 hG
    clear t1 t2 t3 t4 su1 su2 sv1 sv2 m1 m2 e1 e2 e3 e4 e5 g1 g2 g3 g4 g5 s1 s2 lc lf w1 w2 q1
    repeat (first | (refine WY.yieldS hF 2 (fo := .tmp 16) rfl rfl rfl rfl ?_; conv => whnf) | (refine WY.RS hF (by kernel_rfl) ?_; conv => whnf) | (refine WY.R hF (by kernel_rfl) ?_; conv => whnf) | (refine WY.S ?_) | (refine WY.block ?_) | (refine WY.skip ?_; conv => whnf) | (refine WY.condF rfl ?_) | (refine ⟨y1, ?_⟩; conv => whnf) | (refine ⟨_, c1, ?_⟩; conv => whnf) | (refine ⟨_, c2, ?_⟩; conv => whnf) | (refine ⟨_, c3, ?_⟩; conv => whnf) | (refine ⟨_, c4, ?_⟩; conv => whnf) | (refine ⟨_, c5, ?_⟩; conv => whnf) | (refine ⟨_, c6, ?_⟩; conv => whnf) | (refine ⟨_, c7, ?_⟩; conv => whnf) | (refine ⟨_, c8, ?_⟩; conv => whnf) | (refine ⟨false, decide_eq_false (by omega), ?_⟩; conv => whnf) | (refine ⟨_, rfl, ?_⟩; conv => whnf) | (refine ⟨rfl, ?_⟩; conv => whnf))
    exact ⟨⟨(k + 1, f, u2, v2), hG⟩, Wk.tab [] ⟨⟨rfl, rfl⟩, ⟨rfl, rfl⟩, ⟨rfl, rfl⟩, trivial⟩ ⟨rfl, rfl, trivial⟩ rfl, rfl, Nat.lt_succ_self f⟩
end Go.Proofs.Fl
namespace Go.Proofs.Fl
open Go.RowKit Go.Proofs.Dig
attribute [local irreducible] IntKind.wrap PureC MutC MakC IterC
abbrev St4 : Type := Nat × Nat × Nat × Nat
def stepN (s : St4) (n : Nat) : St4 := (n * s.1 + s.2.2.1, n * s.2.1 + s.2.2.2, s.1, s.2.1)
def le4 (A : Nat) (s : St4) : Prop := s.1 ≤ A ∧ s.2.1 ≤ A ∧ s.2.2.1 ≤ A ∧ s.2.2.2 ≤ A
def Cvg (A : Nat) : St4 → List Nat → Prop
  | s, [] => le4 A s
  | s, n :: ns => le4 A s ∧ n ≤ A ∧ Cvg A (stepN s n) ns
theorem Cvg.take {A : Nat} : ∀ {ns : List Nat} {s : St4} (k : Nat), Cvg A s ns → le4 A ((ns.take k).foldl stepN s)
  | [], s, k, h => by have h' : le4 A s := h; simpa using h'
  | n :: ns, s, 0, h => by simpa using h.1
  | n :: ns, s, k + 1, h => by simpa using Cvg.take k h.2.2
theorem Cvg.get {A : Nat} : ∀ {ns : List Nat} {s : St4}, Cvg A s ns → ∀ n ∈ ns, n ≤ A
  | [], _, _, n, h => by simp at h
  | m :: ns, s, h, n, hn => by
    rcases List.mem_cons.1 hn with rfl | hn
    · exact h.2.1
    · exact h.2.2.get n hn
def castQ (n : Nat) : Rat := ((n : Int) : Rat)
theorem floor_nonneg {u : Rat} (h : 0 < u.num) : 0 ≤ u.floor := by
  rw [Rat.floor_def]; exact Int.ediv_nonneg (by omega) (by omega)
theorem mul_le_pos {x y : Nat} (h : 0 < y) : x ≤ x * y := Nat.le_mul_of_pos_right x h
theorem desc_bd {A : Nat} : ∀ (fuel : Nat) (u v : Rat) (p q p' q' xn xd yn yd U V : Nat), u.num = (U : Int) → v.num = (V : Int) → 0 < U → u ≤ v → u.den + v.den ≤ fuel → U ≤ A → V ≤ A → u.den ≤ A → v.den ≤ A →
    xn = p * U + p' * u.den → xd = q * U + q' * u.den → yn = p * V + p' * v.den → yd = q * V + q' * v.den → xn ≤ A → xd ≤ A → yn ≤ A → yd ≤ A → le4 A (p, q, p', q') →
    ∃ ns : List Nat, desc fuel u v = ns.map castQ ∧ Cvg A (p, q, p', q') ns
  | 0, u, v, p, q, p', q', xn, xd, yn, yd, U, V, hu, hv, hU, huv, hf, _, _, _, _, _, _, _, _, _, _, _, _, _ => by
    have := den_pos u; omega
  | f + 1, u, v, p, q, p', q', xn, xd, yn, yd, U, V, hu, hv, hU, huv, hf, aU, aV, au, av, e1, e2, e3, e4, a1, a2, a3, a4, h4 => by
    have pu := den_pos u
    have pv := den_pos v
    by_cases hc : (((-((-u).floor) : Int)) : Rat) ≤ v
    · rw [desc, if_pos hc]
      obtain ⟨c1, c2⟩ := ceil_spec u
      rw [intLe] at hc
      obtain ⟨c, hcn⟩ : ∃ c : Nat, -((-u).floor) = (c : Int) := ⟨(-((-u).floor)).toNat, by
        have : 0 < (-((-u).floor)) * (u.den : Int) := by omega
        have : 0 < -((-u).floor) := by
          apply Classical.byContradiction
          intro hn
          have := Int.mul_nonpos_of_nonpos_of_nonneg (a := -((-u).floor)) (b := (u.den : Int)) (by omega) (by omega)
          omega
        omega⟩
      rw [hcn, hv] at hc
      have hcV : c * v.den ≤ V := by exact_mod_cast hc
      refine ⟨[c], by rw [hcn]; rfl, h4, ?_, ?_, ?_, h4.1, h4.2.1⟩
      · have := mul_le_pos (x := c) pv; omega
      · show c * p + p' ≤ A
        have g1 := mul_le_pos (x := c * p + p') pv
        have g2 : (c * p + p') * v.den = p * (c * v.den) + p' * v.den := by rw [Nat.add_mul, Nat.mul_comm c p, Nat.mul_assoc]
        have g3 := Nat.mul_le_mul_left p hcV
        omega
      · show c * q + q' ≤ A
        have g1 := mul_le_pos (x := c * q + q') pv
        have g2 : (c * q + q') * v.den = q * (c * v.den) + q' * v.den := by rw [Nat.add_mul, Nat.mul_comm c q, Nat.mul_assoc]
        have g3 := Nat.mul_le_mul_left q hcV
        omega
    · rw [desc, if_neg hc]
      obtain ⟨d1, d2, d3, d4, d5⟩ := desc_ends huv hc
      obtain ⟨t1, t2, t3, t4⟩ := desc_step huv hc
      obtain ⟨n, hn⟩ : ∃ n : Nat, u.floor = (n : Int) := ⟨u.floor.toNat, by have := floor_nonneg (u := u) (by omega); omega⟩
      rw [hn, hu] at t1 t2
      rw [hn, hv] at t3 t4
      rw [hn, hv] at d2
      rw [hn, hu] at d4
      rw [hn] at d1 d3 d5 ⊢
      obtain ⟨mu, hmu⟩ : ∃ m : Nat, n * u.den + m = U := ⟨U - n * u.den, by
        have : ((n * u.den : Nat) : Int) < (U : Int) := by rw [Int.natCast_mul]; omega
        omega⟩
      obtain ⟨mv, hmv⟩ : ∃ m : Nat, n * v.den + m = V := ⟨V - n * v.den, by
        have : ((n * v.den : Nat) : Int) < (V : Int) := by rw [Int.natCast_mul]; omega
        omega⟩
      have hmu' : (U : Int) - (n : Int) * (u.den : Int) = (mu : Int) := by rw [← hmu, Int.natCast_add, Int.natCast_mul]; omega
      have hmv' : (V : Int) - (n : Int) * (v.den : Int) = (mv : Int) := by rw [← hmv, Int.natCast_add, Int.natCast_mul]; omega
      rw [hmu', Int.natAbs_natCast] at d4
      rw [hmv', Int.natAbs_natCast] at d2
      rw [hmu'] at t1 t2
      rw [hmv'] at t3 t4
      have x1 : xn = (n * p + p') * u.den + p * mu := by rw [e1, ← hmu, Nat.mul_add, Nat.add_mul, Nat.mul_comm n p, Nat.mul_assoc]; omega
      have x2 : xd = (n * q + q') * u.den + q * mu := by rw [e2, ← hmu, Nat.mul_add, Nat.add_mul, Nat.mul_comm n q, Nat.mul_assoc]; omega
      have y1 : yn = (n * p + p') * v.den + p * mv := by rw [e3, ← hmv, Nat.mul_add, Nat.add_mul, Nat.mul_comm n p, Nat.mul_assoc]; omega
      have y2 : yd = (n * q + q') * v.den + q * mv := by rw [e4, ← hmv, Nat.mul_add, Nat.add_mul, Nat.mul_comm n q, Nat.mul_assoc]; omega
      have g1 := mul_le_pos (x := n * p + p') pu
      have g2 := mul_le_pos (x := n * q + q') pu
      have hnA : n ≤ A := by have := mul_le_pos (x := n) pu; omega
      obtain ⟨ns, h1, h2⟩ := desc_bd f _ _ (n * p + p') (n * q + q') p q yn yd xn xd v.den u.den d1 d3 (by omega) d5 (by rw [d2, d4]; omega) av au (by rw [d2]; omega) (by rw [d4]; omega)
        (by rw [d2]; exact y1) (by rw [d2]; exact y2) (by rw [d4]; exact x1) (by rw [d4]; exact x2) a3 a4 a1 a2 ⟨by show n * p + p' ≤ A; omega, by show n * q + q' ≤ A; omega, h4.1, h4.2.1⟩
      exact ⟨n :: ns, by rw [h1]; rfl, h4, hnA, h2⟩
end Go.Proofs.Fl
namespace Go.Proofs.Fl
open Go.RowKit Go.Proofs.Dig
attribute [local irreducible] IntKind.wrap PureC MutC MakC IterC
def stN (ns : List Nat) (k : Nat) : St4 := (ns.take k).foldl stepN (1, 0, 0, 1)
theorem stN_succ {ns : List Nat} {k : Nat} (h : k < ns.length) : stN ns (k + 1) = stepN (stN ns k) (ns.getD k 0) := by
  unfold stN
  rw [List.take_add_one, List.getElem?_eq_getElem h, List.foldl_append]
  simp [List.getD, h]
theorem castQ_num (n : Nat) : (castQ n).num = (n : Int) ∧ (castQ n).den = 1 := ⟨rfl, rfl⟩
theorem qln_cast {n A : Nat} (h : n ≤ A) : qln (castQ n) ≤ ln A + 1 := by
  have h1 := qln_i ((n : Nat) : Int)
  rw [Int.natAbs_natCast] at h1
  have := ln_mono h
  show qln (((n : Nat) : Int) : Rat) ≤ _
  omega
theorem castQ_step (n p q : Nat) : castQ n * castQ p + castQ q = castQ (n * p + q) := by
  unfold castQ
  rw [← Rat.intCast_mul, ← Rat.intCast_add, Int.natCast_add, Int.natCast_mul]
def simpP (ns : List Nat) : Rat := castQ (stN ns ns.length).1 / castQ (stN ns ns.length).2.1
theorem yqs (ns : List Nat) : ∀ y ∈ (ns.map castQ).map yq, y.length = 1 := by
  intro y hy
  obtain ⟨q, _, rfl⟩ := List.mem_map.1 hy
  rfl
theorem yq_at {ns : List Nat} {k : Nat} (hk : k < ((ns.map castQ).map yq).length) : ((ns.map castQ).map yq)[k] = [qr (castQ (ns.getD k 0))] := by
  have h : k < ns.length := by simpa using hk
  simp [yq, List.getD, h]
theorem bxLit {bx : Nat → Option Bx} {r : List (Nat × Nat)} {g : Nat} {b : Bx} (n : Nat) (h : rnT r g = n) (h2 : bx n = some b) : bx (rnT r g) = some b := by rw [h]; exact h2
theorem pinL {bx : Nat → Option Bx} {r : List (Nat × Nat)} {m : List (Nat × Bx)} {i : Nat} (n : Nat) (hn : pinId + i = n) (h : bx n = none) : pinW bx r m i := .inl (by rw [hn]; exact h)
def al4 (x y z t : IV) (r : IV) : List (Nat × Bx) := [(1000000, .var r), (1000001, .var x), (1000002, .var y), (1000003, .var z), (1000004, .var t)]
set_option maxRecDepth 4000 in
set_option maxHeartbeats 4000000 in
theorem simplest_pos (J : Keep) {a b : Rat} {ns : List Nat} {A : Nat} (hA : ln A < 2 ^ 28) (hns : desc (a.den + b.den) a b = ns.map castQ) (hbd : Cvg A (1, 0, 0, 1) ns) (hq0 : (stN ns ns.length).2.1 ≠ 0) (hab : a ≤ b) (ha : 0 < a.num) (hb : 0 < b.num)
    (la : ln a.num.natAbs ≤ ln A) (la' : ln a.den ≤ ln A) (lb : ln b.num.natAbs ≤ ln A) (lb' : ln b.den ≤ ln A) : C J 25 [sd a b] (.tup [qr (simpP ns), .int .i64 0]) := by
  refine fn_ok (J := J.top) Tryz.func25 rfl rfl rfl ?_
  have q1 : qln a < 2 ^ 38 := by unfold qln; omega
  have q2 : qln b < 2 ^ 38 := by unfold qln; omega
  have c1 := f55_ok (J := J) q1 q2
  rw [decide_eq_true (cmpR_le.2 hab)] at c1
  have c2 := f30_ok (J := J) (a := a) (b := b) (q := 0) q1 q2 (by have := qln_zero; omega)
  have h0 : ¬ cmpR a 0 ≤ 0 := fun h => by
    have h1 := (Rat.le_iff a 0).1 (cmpR_le.1 h)
    have h2 : a.num * ((1 : Nat) : Int) ≤ 0 * (a.den : Int) := h1
    rw [Int.zero_mul] at h2
    omega
  rw [decide_eq_false h0, Bool.false_and, dg_zero_qr] at c2
  have c3 := f22_ok J b
  rw [show cmpI b.num 0 = 1 by unfold cmpI; rw [if_neg (by omega), if_pos (by omega)]] at c3
  have c4 := f61_ok J (n := 1) (by omega) (by omega)
  have it := f197_ok J (S := ln A) hA hab la la' lb lb'
  rw [hns] at it
  repeat (first | (refine W.wkRS (id := 8) (σ' := mkA [(1, .ptr 0 0), (2, .ptr 1 0)] [(0, .var (sd a b)), (1, .var (.agg [.sl [], .bool false, .sl []]))] 20) (Wk.tab [] ⟨⟨rfl, rfl⟩, ⟨rfl, rfl⟩, trivial⟩ ⟨rfl, rfl, trivial⟩ rfl) (by kernel_rfl) ?_; conv => whnf) | (refine W.wkRS (id := 9) (σ' := mkA [(1, .ptr 0 0), (2, .ptr 1 0), (6, .ptr 2 0), (7, .ptr 3 0), (8, .ptr 4 0), (9, .ptr 5 0)] [(0, .var (sd a b)), (1, .var (.agg [.sl [], .bool false, .sl []])), (2, .var (qr ((1 : Int) : Rat))), (3, .var (.agg [.sl [], .bool false, .sl []])), (4, .var (.agg [.sl [], .bool false, .sl []])), (5, .var (qr ((1 : Int) : Rat)))] 40) (Wk.tab [(2, 24), (3, 25), (4, 26), (5, 27)] ⟨⟨rfl, rfl⟩, ⟨rfl, rfl⟩, ⟨rfl, rfl⟩, ⟨rfl, rfl⟩, ⟨rfl, rfl⟩, ⟨rfl, rfl⟩, trivial⟩ ⟨rfl, rfl, rfl, rfl, rfl, rfl, trivial⟩ rfl) (by kernel_rfl) ?_; conv => whnf) | (refine W.RS (by kernel_rfl) ?_; conv => whnf) | (refine W.S ?_) | (refine W.block ?_) | (refine W.skip ?_; conv => whnf) | (refine W.condF rfl ?_) | (refine ⟨_, c1, ?_⟩; conv => whnf) | (refine ⟨_, c2, ?_⟩; conv => whnf) | (refine ⟨_, c3, ?_⟩; conv => whnf) | (refine ⟨_, c4, ?_⟩; conv => whnf) | (refine ⟨197, [qr a, qr b], f151_ok J a b, rfl, ?_⟩; conv => whnf) | (refine ⟨false, decide_eq_false (by omega), ?_⟩; conv => whnf) | (refine ⟨_, rfl, ?_⟩; conv => whnf) | (refine ⟨rfl, ?_⟩; conv => whnf))
  have z0 : qr (castQ 0) = .agg [.sl [], .bool false, .sl []] := dg_zero_qr
  refine W.weak (σ' := mkA [(2, .ptr 1000000 0), (6, .ptr (1000001) 0), (7, .ptr (1000002) 0), (8, .ptr (1000003) 0), (9, .ptr (1000004) 0), (43, .clo 197 [44, 45])]
    [(1000000, .var (.agg [.sl [], .bool false, .sl []])), (1000001, .var (qr ((1 : Int) : Rat))), (1000002, .var (.agg [.sl [], .bool false, .sl []])), (1000003, .var (.agg [.sl [], .bool false, .sl []])), (1000004, .var (qr ((1 : Int) : Rat))), (44, .var (qr a)), (45, .var (qr b))] 50)
    (Wk.tab [(1000000, 1), (1000001, 2), (1000002, 3), (1000003, 4), (1000004, 5), (45, 134)] ⟨⟨rfl, rfl⟩, ⟨rfl, rfl⟩, ⟨rfl, rfl⟩, ⟨rfl, rfl⟩, ⟨rfl, rfl⟩, ⟨rfl, rfl⟩, trivial⟩ ⟨rfl, rfl, rfl, rfl, rfl, rfl, bxLit 134 rfl rfl, trivial⟩ rfl ⟨pinL 1000000 rfl rfl, pinL 1000001 rfl rfl, pinL 1000002 rfl rfl, pinL 1000003 rfl rfl, pinL 1000004 rfl rfl, pinL 1000005 rfl rfl, pinL 1000006 rfl rfl, pinL 1000007 rfl rfl⟩) ?_
  refine W.range it [1000000, 1000001, 1000002, 1000003, 1000004] [(2, .ptr 1000000 0), (6, .ptr (1000001) 0), (7, .ptr (1000002) 0), (8, .ptr (1000003) 0), (9, .ptr (1000004) 0)]
    (fun k => al4 (qr (castQ (stN ns k).1)) (qr (castQ (stN ns k).2.1)) (qr (castQ (stN ns k).2.2.1)) (qr (castQ (stN ns k).2.2.2)) (.agg [.sl [], .bool false, .sl []])) 60 rfl ⟨rfl, rfl, trivial⟩ (by simp) rfl (yqs ns) (fun _ => rfl)
    (fun _ => by intro p hp; simp [al4] at hp; rcases hp with rfl | rfl | rfl | rfl | rfl <;> rfl) rfl ⟨rfl, rfl, rfl, rfl, rfl, trivial⟩ rfl ⟨rfl, rfl, varE z0.symm, varE z0.symm, rfl, trivial⟩ rfl rfl (fun k hk => ?_) ?_
  · rw [yq_at hk]
    have hk' : k < ns.length := by simpa using hk
    have hst := stN_succ hk'
    have hle : le4 A (stN ns k) := hbd.take k
    have hn : ns.getD k 0 ≤ A := hbd.get _ (by simp [List.getD, hk'])
    obtain ⟨n, hne⟩ : ∃ n, ns.getD k 0 = n := ⟨_, rfl⟩
    obtain ⟨⟨p, q, p', q'⟩, hse⟩ : ∃ s, stN ns k = s := ⟨_, rfl⟩
    rw [hne] at hn hst ⊢
    rw [hse] at hst hle
    rw [hst]
    dsimp only
    rw [hse]
    show W J.any _ _ ⟨putsL (tbS [(2, .ptr 1000000 0), (6, .ptr (1000001) 0), (7, .ptr (1000002) 0), (8, .ptr (1000003) 0), (9, .ptr (1000004) 0)]) [44] [qr (castQ n)], tbB (al4 (qr (castQ p)) (qr (castQ q)) (qr (castQ p')) (qr (castQ q')) (.agg [.sl [], .bool false, .sl []])), 60⟩ _
    have q1' := qln_cast hn
    have q2' := qln_cast (show p ≤ A from hle.1)
    have q3' := qln_cast (show q ≤ A from hle.2.1)
    have q4' := qln_cast (show p' ≤ A from hle.2.2.1)
    have q5' := qln_cast (show q' ≤ A from hle.2.2.2)
    have m1 := qln_mul (castQ n) (castQ p)
    have m2 := qln_mul (castQ n) (castQ q)
    have d1 := f49_ok (base J) (a := castQ n) (b := castQ p) (by omega) (by omega)
    have d2 := f49_ok (base J) (a := castQ n) (b := castQ q) (by omega) (by omega)
    have d3 := f48_ok (base J) (a := castQ n * castQ p) (b := castQ p') (by omega) (by omega)
    have d4 := f48_ok (base J) (a := castQ n * castQ q) (b := castQ q') (by omega) (by omega)
    rw [castQ_step] at d3 d4
    have e1 : stepN (p, q, p', q') n = (n * p + p', n * q + q', p, q) := rfl
    rw [e1]
    clear hse hst hbd it hns hq0 hn hle m1 m2 q1' q2' q3' q4' q5' e1 c1 c2 c3 c4 h0
    repeat (first | (refine W.R (by kernel_rfl) ?_; conv => whnf) | (refine W.block ?_) | (refine ⟨_, d1, ?_⟩; conv => whnf) | (refine ⟨_, d2, ?_⟩; conv => whnf) | (refine ⟨_, d3, ?_⟩; conv => whnf) | (refine ⟨_, d4, ?_⟩; conv => whnf) | (refine ⟨rfl, ?_⟩; conv => whnf))
    exact trivial
  · rw [List.length_map, List.length_map]
    have hle : le4 A (stN ns ns.length) := hbd.take ns.length
    have q3' := qln_cast hle.1
    have q4' := qln_cast hle.2.1
    have hne : castQ (stN ns ns.length).2.1 ≠ 0 := fun e => hq0 (by
      have h1 : ((stN ns ns.length).2.1 : Int) = 0 := Rat.intCast_eq_zero_iff.1 e
      omega)
    have d1 := f152_ok (base J) (a := castQ (stN ns ns.length).1) (b := castQ (stN ns ns.length).2.1) hne (by omega) (by omega)
    show W J.top _ _ (mkA [(2, .ptr 1000000 0), (6, .ptr (1000001) 0), (7, .ptr (1000002) 0), (8, .ptr (1000003) 0), (9, .ptr (1000004) 0)] (al4 (qr (castQ (stN ns ns.length).1)) (qr (castQ (stN ns ns.length).2.1)) (qr (castQ (stN ns ns.length).2.2.1)) (qr (castQ (stN ns ns.length).2.2.2)) (.agg [.sl [], .bool false, .sl []])) 60) _
    repeat (first | (refine W.RS (by kernel_rfl) ?_; conv => whnf) | (refine W.ret ?_; conv => whnf) | (refine ⟨_, d1, ?_⟩; conv => whnf))
    rfl
end Go.Proofs.Fl
namespace Go.Proofs.Fl
open Go.RowKit Go.Proofs.Dig
attribute [local irreducible] IntKind.wrap PureC MutC MakC IterC
theorem ceil_pos {u : Rat} (h : 0 < u.num) : 0 < -((-u).floor) := by
  obtain ⟨c1, c2⟩ := ceil_spec u
  apply Classical.byContradiction
  intro hn
  have := Int.mul_nonpos_of_nonpos_of_nonneg (a := -((-u).floor)) (b := (u.den : Int)) (by omega) (by omega)
  omega
theorem desc_last : ∀ (fuel : Nat) (u v : Rat) (ns : List Nat), 0 < u.num → u ≤ v → u.den + v.den ≤ fuel → desc fuel u v = ns.map castQ → ∃ l c, ns = l ++ [c] ∧ 1 ≤ c
  | 0, u, v, ns, _, _, h, _ => by have := den_pos u; omega
  | f + 1, u, v, ns, hu, huv, h, hd => by
    by_cases hc : (((-((-u).floor) : Int)) : Rat) ≤ v
    · rw [desc, if_pos hc] at hd
      obtain ⟨c, rfl⟩ : ∃ c, ns = [c] := by
        have hl := congrArg List.length hd
        rw [List.length_map] at hl
        exact List.length_eq_one_iff.1 hl.symm
      · simp only [List.map_cons, List.map_nil, List.cons.injEq, and_true] at hd
        refine ⟨[], c, rfl, ?_⟩
        have h1 : ((((-((-u).floor) : Int)) : Rat)).num = (castQ c).num := by rw [hd]
        have h2 : -((-u).floor) = (c : Int) := h1
        have := ceil_pos hu
        omega
    · rw [desc, if_neg hc] at hd
      match ns, hd with
      | n :: ns, hd =>
        simp only [List.map_cons, List.cons.injEq] at hd
        obtain ⟨d1, d2, d3, d4, d5⟩ := desc_ends huv hc
        obtain ⟨t1, t2, t3, t4⟩ := desc_step huv hc
        have pv := den_pos v
        obtain ⟨l, c, e, h1⟩ := desc_last f _ _ ns (by rw [d1]; omega) d5 (by rw [d2, d4]; omega) hd.2
        exact ⟨n :: l, c, by rw [e]; rfl, h1⟩
theorem step_q : ∀ (ns : List Nat) (s : St4), 0 < s.2.1 + s.2.2.2 → 0 < (ns.foldl stepN s).2.1 + (ns.foldl stepN s).2.2.2
  | [], s, h => h
  | n :: ns, s, h => by
    refine step_q ns (stepN s n) ?_
    show 0 < (n * s.2.1 + s.2.2.2) + s.2.1
    omega
theorem stN_q {l : List Nat} {c : Nat} (h : 1 ≤ c) : (stN (l ++ [c]) (l ++ [c]).length).2.1 ≠ 0 := by
  unfold stN
  rw [List.take_length, List.foldl_append]
  have h1 := step_q l (1, 0, 0, 1) (by decide)
  generalize l.foldl stepN (1, 0, 0, 1) = s at h1
  show c * s.2.1 + s.2.2.2 ≠ 0
  have : s.2.1 ≤ c * s.2.1 := Nat.le_mul_of_pos_left _ h
  omega
def nsOf (a b : Rat) : List Nat := (desc (a.den + b.den) a b).map fun q => q.num.natAbs
theorem nsOf_eq {a b : Rat} {ns : List Nat} (h : desc (a.den + b.den) a b = ns.map castQ) : nsOf a b = ns := by
  unfold nsOf
  rw [h, List.map_map]
  have : (fun q : Rat => q.num.natAbs) ∘ castQ = id := by
    funext n
    show ((castQ n).num).natAbs = n
    rw [(castQ_num n).1]; omega
  rw [this, List.map_id]
def simpQ (a b : Rat) : Rat := simpP (nsOf a b)
theorem ln_max4 (x y z t : Nat) : ∃ A, x ≤ A ∧ y ≤ A ∧ z ≤ A ∧ t ≤ A ∧ (A = x ∨ A = y ∨ A = z ∨ A = t) :=
  ⟨max (max x y) (max z t), by omega, by omega, by omega, by omega, by omega⟩
theorem f25_pos (J : Keep) {a b : Rat} (hab : a ≤ b) (ha : 0 < a.num) (hb : 0 < b.num) (la : qln a < 2 ^ 28) (lb : qln b < 2 ^ 28) : C J 25 [sd a b] (.tup [qr (simpQ a b), .int .i64 0]) := by
  obtain ⟨A, h1, h2, h3, h4, h5⟩ := ln_max4 a.num.natAbs b.num.natAbs a.den b.den
  unfold qln at la lb
  obtain ⟨ns, hns, hbd⟩ := desc_bd (A := A) (a.den + b.den) a b 1 0 0 1 a.num.natAbs a.den b.num.natAbs b.den a.num.natAbs b.num.natAbs (by omega) (by omega) (by omega) hab (Nat.le_refl _) h1 h2 h3 h4 (by omega) (by omega) (by omega) (by omega) h1 h3 h2 h4
    (by have p1 := den_pos a; refine ⟨?_, ?_, ?_, ?_⟩ <;> dsimp only <;> omega)
  have hA : ln A < 2 ^ 28 := by
    rcases h5 with e | e | e | e <;> rw [e] <;> omega
  obtain ⟨l, c, e, hc⟩ := desc_last (a.den + b.den) a b ns ha hab (Nat.le_refl _) hns
  have hq0 : (stN ns ns.length).2.1 ≠ 0 := by rw [e]; exact stN_q hc
  have h := simplest_pos J hA hns hbd hq0 hab ha hb (ln_mono h1) (ln_mono h3) (ln_mono h2) (ln_mono h4)
  unfold simpQ
  rw [nsOf_eq hns]
  exact h
def simpR (a b : Rat) : Rat := if a.num ≤ 0 ∧ 0 ≤ b.num then 0 else if b.num < 0 then -(simpQ (-b) (-a)) else simpQ a b
noncomputable def simpT (a b : Rat) : IV := if a ≤ b then .tup [qr (simpR a b), .int .i64 0] else .tup [qr 0, .int .i64 2]
theorem cmpR_z1 {a : Rat} : cmpR a 0 ≤ 0 ↔ a.num ≤ 0 := by
  rw [← sign_cmp]; unfold cmpI; split <;> (try split) <;> omega
theorem cmpR_z2 {a : Rat} : cmpR 0 a ≤ 0 ↔ 0 ≤ a.num := by
  unfold cmpR
  show cmpI (0 * (a.den : Int)) (a.num * ((1 : Nat) : Int)) ≤ 0 ↔ _
  rw [Int.zero_mul]; unfold cmpI; split <;> (try split) <;> omega
theorem f25_ok (J : Keep) {a b : Rat} (la : qln a < 2 ^ 28) (lb : qln b < 2 ^ 28) : C J 25 [sd a b] (simpT a b) := by
  unfold simpT
  have c1 := f55_ok (J := J) (a := a) (b := b) (by omega) (by omega)
  have c2 := f30_ok (J := J) (a := a) (b := b) (q := 0) (by omega) (by omega) (by have := qln_zero; omega)
  rw [dg_zero_qr] at c2
  by_cases hab : a ≤ b
  · rw [if_pos hab]
    by_cases h0 : a.num ≤ 0 ∧ 0 ≤ b.num
    · unfold simpR
      rw [if_pos h0, dg_zero_qr]
      rw [decide_eq_true (cmpR_le.2 hab)] at c1
      rw [decide_eq_true (cmpR_z1.2 h0.1), decide_eq_true (cmpR_z2.2 h0.2)] at c2
      refine fn_ok Tryz.func25 rfl rfl rfl ?_
      repeat (first | (refine W.RS (by kernel_rfl) ?_; conv => whnf) | (refine W.S ?_) | (refine W.block ?_) | (refine W.ret ?_; conv => whnf) | (refine W.condF rfl ?_) | (refine W.condT rfl ?_) | (refine ⟨_, c1, ?_⟩; conv => whnf) | (refine ⟨_, c2, ?_⟩; conv => whnf) | (refine ⟨_, rfl, ?_⟩; conv => whnf))
      rfl
    · by_cases hb : b.num < 0
      · unfold simpR
        rw [if_neg h0, if_pos hb]
        rw [decide_eq_true (cmpR_le.2 hab)] at c1
        rw [decide_eq_false (p := cmpR 0 b ≤ 0) (fun h => by have := cmpR_z2.1 h; omega), Bool.and_false] at c2
        have c3 := f22_ok J b
        rw [show cmpI b.num 0 = -1 by unfold cmpI; rw [if_pos hb]] at c3
        have c4 := f102_ok J a b
        have ha : a.num < 0 := by
          have h1 := (Rat.le_iff a b).1 hab
          have h2 : b.num * (a.den : Int) < 0 := Int.mul_neg_of_neg_of_pos hb (by have := den_pos a; omega)
          apply Classical.byContradiction
          intro hn
          have := Int.mul_nonneg (a := a.num) (b := (b.den : Int)) (by omega) (by omega)
          omega
        have hn1 : qln (-a) = qln a := by unfold qln; rw [Rat.neg_num, Int.natAbs_neg, Rat.neg_den]
        have hn2 : qln (-b) = qln b := by unfold qln; rw [Rat.neg_num, Int.natAbs_neg, Rat.neg_den]
        have c5 := f25_pos J (a := -b) (b := -a) (Rat.neg_le_neg hab) (by rw [Rat.neg_num]; omega) (by rw [Rat.neg_num]; omega) (by omega) (by omega)
        have c6 := f66_ok J (simpQ (-b) (-a))
        refine fn_ok Tryz.func25 rfl rfl rfl ?_
        repeat (first | (refine W.RS (by kernel_rfl) ?_; conv => whnf) | (refine W.S ?_) | (refine W.block ?_) | (refine W.ret ?_; conv => whnf) | (refine W.condF rfl ?_) | (refine W.condT rfl ?_) | (refine ⟨_, c1, ?_⟩; conv => whnf) | (refine ⟨_, c2, ?_⟩; conv => whnf) | (refine ⟨_, c3, ?_⟩; conv => whnf) | (refine ⟨_, c4, ?_⟩; conv => whnf) | (refine ⟨_, c5, ?_⟩; conv => whnf) | (refine ⟨_, c6, ?_⟩; conv => whnf) | (refine ⟨true, decide_eq_true (by omega), ?_⟩; conv => whnf) | (refine ⟨_, rfl, ?_⟩; conv => whnf) | (refine ⟨rfl, ?_⟩; conv => whnf))
        rfl
      · unfold simpR
        rw [if_neg h0, if_neg hb]
        have ha : 0 < a.num := by omega
        have hb' : 0 < b.num := by
          have h1 := (Rat.le_iff a b).1 hab
          have h2 : 0 < a.num * (b.den : Int) := Int.mul_pos ha (by have := den_pos b; omega)
          apply Classical.byContradiction
          intro hn
          have : b.num = 0 := by omega
          rw [this] at h1
          omega
        exact f25_pos J hab ha hb' la lb
  · rw [if_neg hab, dg_zero_qr]
    rw [decide_eq_false (fun h => hab (cmpR_le.1 h))] at c1
    refine fn_ok Tryz.func25 rfl rfl rfl ?_
    repeat (first | (refine W.RS (by kernel_rfl) ?_; conv => whnf) | (refine W.S ?_) | (refine W.block ?_) | (refine W.ret ?_; conv => whnf) | (refine W.condT rfl ?_) | (refine ⟨_, c1, ?_⟩; conv => whnf) | (refine ⟨_, rfl, ?_⟩; conv => whnf))
    rfl
end Go.Proofs.Fl
namespace Go.Proofs.Fl
open Go.RowKit Go.Proofs.Dig
attribute [local irreducible] IntKind.wrap PureC MutC MakC IterC
def cf : List Nat → Nat × Nat
  | [] => (1, 0)
  | n :: ns => (n * (cf ns).1 + (cf ns).2, (cf ns).1)
theorem fold_cf : ∀ (ns : List Nat) (p q p' q' : Nat), (ns.foldl stepN (p, q, p', q')).1 = p * (cf ns).1 + p' * (cf ns).2 ∧ (ns.foldl stepN (p, q, p', q')).2.1 = q * (cf ns).1 + q' * (cf ns).2
  | [], p, q, p', q' => by simp [cf]
  | n :: ns, p, q, p', q' => by
    obtain ⟨h1, h2⟩ := fold_cf ns (n * p + p') (n * q + q') p q
    show ((ns.foldl stepN (n * p + p', n * q + q', p, q)).1 = _) ∧ (ns.foldl stepN (n * p + p', n * q + q', p, q)).2.1 = _
    rw [h1, h2]
    simp only [cf]
    constructor
    · rw [Nat.add_mul, Nat.mul_add, Nat.mul_comm n p, Nat.mul_assoc]; omega
    · rw [Nat.add_mul, Nat.mul_add, Nat.mul_comm n q, Nat.mul_assoc]; omega
theorem stN_cf (ns : List Nat) : (stN ns ns.length).1 = (cf ns).1 ∧ (stN ns ns.length).2.1 = (cf ns).2 := by
  unfold stN
  rw [List.take_length]
  obtain ⟨h1, h2⟩ := fold_cf ns 1 0 0 1
  omega
theorem cf_coprime : ∀ ns : List Nat, Nat.gcd (cf ns).1 (cf ns).2 = 1
  | [] => by simp [cf]
  | n :: ns => by
    have h := cf_coprime ns
    simp only [cf]
    rw [Nat.gcd_comm, Nat.add_comm, Nat.gcd_add_mul_right_right]
    exact h
theorem desc_least : ∀ (fuel : Nat) (u v : Rat) (ns : List Nat) (U V : Nat), u.num = (U : Int) → v.num = (V : Int) → 0 < U → u ≤ v → u.den + v.den ≤ fuel → desc fuel u v = ns.map castQ →
    0 < (cf ns).1 ∧ 0 < (cf ns).2 ∧ U * (cf ns).2 ≤ (cf ns).1 * u.den ∧ (cf ns).1 * v.den ≤ V * (cf ns).2 ∧ ∀ n d : Nat, 0 < d → U * d ≤ n * u.den → n * v.den ≤ V * d → (cf ns).1 ≤ n ∧ (cf ns).2 ≤ d
  | 0, u, v, ns, U, V, _, _, _, _, h, _ => by have := den_pos u; omega
  | f + 1, u, v, ns, U, V, hu, hv, hU, huv, h, hd => by
    have pu := den_pos u
    have pv := den_pos v
    by_cases hc : (((-((-u).floor) : Int)) : Rat) ≤ v
    · rw [desc, if_pos hc] at hd
      obtain ⟨c, rfl⟩ : ∃ c, ns = [c] := by
        have hl := congrArg List.length hd
        rw [List.length_map] at hl
        exact List.length_eq_one_iff.1 hl.symm
      · simp only [List.map_cons, List.map_nil, List.cons.injEq, and_true] at hd
        have h1 : ((((-((-u).floor) : Int)) : Rat)).num = (castQ c).num := by rw [hd]
        have h2 : -((-u).floor) = (c : Int) := h1
        have hp := ceil_pos (u := u) (by omega)
        obtain ⟨c1, c2⟩ := ceil_spec u
        rw [intLe, h2, hv] at hc
        rw [h2, hu] at c1 c2
        have c1' : U ≤ c * u.den := by exact_mod_cast c1
        have c2' : c * u.den < U + u.den := by exact_mod_cast c2
        have c3' : c * v.den ≤ V := by exact_mod_cast hc
        simp only [cf, Nat.mul_one, Nat.add_zero]
        refine ⟨by omega, Nat.one_pos, c1', c3', fun n d hd h3 h4 => ⟨?_, hd⟩⟩
        have h5 : U ≤ U * d := Nat.le_mul_of_pos_right _ hd
        have h6 : c * u.den < (n + 1) * u.den := by rw [Nat.add_mul, Nat.one_mul]; omega
        have := Nat.lt_of_mul_lt_mul_right h6
        omega
    · rw [desc, if_neg hc] at hd
      match ns, hd with
      | n0 :: ns, hd =>
        simp only [List.map_cons, List.cons.injEq] at hd
        obtain ⟨hd0, hd⟩ := hd
        have hn : u.floor = (n0 : Int) := by
          have h1 : ((((u.floor : Int)) : Rat)).num = (castQ n0).num := by rw [hd0]
          exact h1
        obtain ⟨d1, d2, d3, d4, d5⟩ := desc_ends huv hc
        obtain ⟨t1, t2, t3, t4⟩ := desc_step huv hc
        rw [hn, hu] at t1 t2 d4
        rw [hn, hv] at t3 t4 d2
        rw [hn] at d1 d3 d5 hd
        obtain ⟨mu, hmu⟩ : ∃ m : Nat, n0 * u.den + m = U := ⟨U - n0 * u.den, by
          have : ((n0 * u.den : Nat) : Int) < (U : Int) := by rw [Int.natCast_mul]; omega
          omega⟩
        obtain ⟨mv, hmv⟩ : ∃ m : Nat, n0 * v.den + m = V := ⟨V - n0 * v.den, by
          have : ((n0 * v.den : Nat) : Int) < (V : Int) := by rw [Int.natCast_mul]; omega
          omega⟩
        have hmu' : (U : Int) - (n0 : Int) * (u.den : Int) = (mu : Int) := by rw [← hmu, Int.natCast_add, Int.natCast_mul]; omega
        have hmv' : (V : Int) - (n0 : Int) * (v.den : Int) = (mv : Int) := by rw [← hmv, Int.natCast_add, Int.natCast_mul]; omega
        rw [hmu', Int.natAbs_natCast] at d4
        rw [hmv', Int.natAbs_natCast] at d2
        rw [hmu'] at t1 t2
        rw [hmv'] at t3 t4
        have ih := desc_least f _ _ ns v.den u.den d1 d3 pv d5 (by rw [d2, d4]; omega) hd
        rw [d2, d4] at ih
        obtain ⟨i1, i2, i3, i4, i5⟩ := ih
        simp only [cf]
        generalize (cf ns).1 = X at i1 i2 i3 i4 i5 ⊢
        generalize (cf ns).2 = Y at i1 i2 i3 i4 i5 ⊢
        have e1 : U * X = n0 * (u.den * X) + X * mu := by rw [← hmu, Nat.add_mul, Nat.mul_assoc, Nat.mul_comm mu]
        have e2 : (n0 * X + Y) * u.den = n0 * (u.den * X) + u.den * Y := by rw [Nat.add_mul, Nat.mul_assoc, Nat.mul_comm X u.den, Nat.mul_comm Y u.den]
        have e3 : V * X = n0 * (v.den * X) + X * mv := by rw [← hmv, Nat.add_mul, Nat.mul_assoc, Nat.mul_comm mv]
        have e4 : (n0 * X + Y) * v.den = n0 * (v.den * X) + v.den * Y := by rw [Nat.add_mul, Nat.mul_assoc, Nat.mul_comm X v.den, Nat.mul_comm Y v.den]
        refine ⟨by omega, i1, by omega, by omega, fun n d hd h3 h4 => ?_⟩
        have e5 : U * d = n0 * (u.den * d) + d * mu := by rw [← hmu, Nat.add_mul, Nat.mul_assoc, Nat.mul_comm mu]
        have e6 : V * d = n0 * (v.den * d) + d * mv := by rw [← hmv, Nat.add_mul, Nat.mul_assoc, Nat.mul_comm mv]
        have p1 : 0 < d * mu := Nat.mul_pos hd (by omega)
        have h5 : n0 * d * u.den < n * u.den := by rw [Nat.mul_assoc, Nat.mul_comm d u.den]; omega
        have h6 := Nat.lt_of_mul_lt_mul_right h5
        obtain ⟨m, rfl⟩ : ∃ m, n = n0 * d + m := ⟨n - n0 * d, by omega⟩
        have e7 : (n0 * d + m) * u.den = n0 * (u.den * d) + u.den * m := by rw [Nat.add_mul, Nat.mul_assoc, Nat.mul_comm d u.den, Nat.mul_comm m u.den]
        have e8 : (n0 * d + m) * v.den = n0 * (v.den * d) + v.den * m := by rw [Nat.add_mul, Nat.mul_assoc, Nat.mul_comm d v.den, Nat.mul_comm m v.den]
        obtain ⟨j1, j2⟩ := i5 d m (by omega) (by omega) (by omega)
        have := Nat.mul_le_mul_left n0 j1
        omega
end Go.Proofs.Fl
namespace Go.Proofs.Fl
open Go.RowKit Go.Proofs.Dig
attribute [local irreducible] IntKind.wrap PureC MutC MakC IterC
theorem castQ_div {X Y : Nat} (hY : 0 < Y) (hg : Nat.gcd X Y = 1) : (castQ X / castQ Y).num = (X : Int) ∧ (castQ X / castQ Y).den = Y := by
  have e : castQ X / castQ Y = mkRat (X : Int) Y := by
    rw [Rat.mkRat_eq_div]; rfl
  rw [e, mkRat_num hY, mkRat_den hY, Int.natAbs_natCast, hg, Nat.div_one, Nat.div_one]
  refine ⟨?_, rfl⟩
  have := sv_neg (X : Int)
  rw [Int.natAbs_natCast] at this
  exact this
theorem desc_ns {a b : Rat} (hab : a ≤ b) (ha : 0 < a.num) : 0 < b.num ∧ ∃ ns : List Nat, desc (a.den + b.den) a b = ns.map castQ := by
  have hb : 0 < b.num := by
    have h1 := (Rat.le_iff a b).1 hab
    have h2 : 0 < a.num * (b.den : Int) := Int.mul_pos ha (by have := den_pos b; omega)
    apply Classical.byContradiction
    intro hn
    have := Int.mul_nonpos_of_nonpos_of_nonneg (a := b.num) (b := (a.den : Int)) (by omega) (by omega)
    omega
  obtain ⟨A, h1, h2, h3, h4, h5⟩ := ln_max4 a.num.natAbs b.num.natAbs a.den b.den
  obtain ⟨ns, hns, hbd⟩ := desc_bd (A := A) (a.den + b.den) a b 1 0 0 1 a.num.natAbs a.den b.num.natAbs b.den a.num.natAbs b.num.natAbs (by omega) (by omega) (by omega) hab (Nat.le_refl _) h1 h2 h3 h4 (by omega) (by omega) (by omega) (by omega) h1 h3 h2 h4
    (by have p1 := den_pos a; refine ⟨?_, ?_, ?_, ?_⟩ <;> dsimp only <;> omega)
  exact ⟨hb, ns, hns⟩
theorem simpQ_spec {a b : Rat} (hab : a ≤ b) (ha : 0 < a.num) : a ≤ simpQ a b ∧ simpQ a b ≤ b ∧ 0 < (simpQ a b).num ∧ ∀ q : Rat, a ≤ q → q ≤ b → (simpQ a b).den ≤ q.den ∧ (simpQ a b).num ≤ q.num := by
  obtain ⟨hb, ns, hns⟩ := desc_ns hab ha
  obtain ⟨U, hU⟩ : ∃ U : Nat, a.num = (U : Int) := ⟨a.num.natAbs, by omega⟩
  obtain ⟨V, hV⟩ : ∃ V : Nat, b.num = (V : Int) := ⟨b.num.natAbs, by omega⟩
  obtain ⟨i1, i2, i3, i4, i5⟩ := desc_least (a.den + b.den) a b ns U V hU hV (by omega) hab (Nat.le_refl _) hns
  have e : simpQ a b = castQ (cf ns).1 / castQ (cf ns).2 := by
    unfold simpQ simpP
    rw [nsOf_eq hns, (stN_cf ns).1, (stN_cf ns).2]
  obtain ⟨n1, n2⟩ := castQ_div i2 (cf_coprime ns)
  rw [← e] at n1 n2
  refine ⟨?_, ?_, by omega, fun q hq1 hq2 => ?_⟩
  · rw [Rat.le_iff, n1, n2, hU]
    exact_mod_cast i3
  · rw [Rat.le_iff, n1, n2, hV]
    exact_mod_cast i4
  · rw [Rat.le_iff, hU] at hq1
    rw [Rat.le_iff, hV] at hq2
    have hq0 : 0 < q.num := by
      have h2 : 0 < (U : Int) * (q.den : Int) := Int.mul_pos (by omega) (by have := den_pos q; omega)
      apply Classical.byContradiction
      intro hn
      have := Int.mul_nonpos_of_nonpos_of_nonneg (a := q.num) (b := (a.den : Int)) (by omega) (by omega)
      omega
    obtain ⟨N, hN⟩ : ∃ N : Nat, q.num = (N : Int) := ⟨q.num.natAbs, by omega⟩
    rw [hN] at hq1 hq2
    obtain ⟨j1, j2⟩ := i5 N q.den (den_pos q) (by exact_mod_cast hq1) (by exact_mod_cast hq2)
    omega
theorem rat_num_nonpos {q : Rat} : q.num ≤ 0 ↔ q ≤ 0 := by
  rw [← cmpR_le, cmpR_z1]
theorem rat_num_nonneg {q : Rat} : 0 ≤ q.num ↔ 0 ≤ q := by
  rw [← cmpR_le, cmpR_z2]
theorem simpR_spec {a b : Rat} (hab : a ≤ b) : a ≤ simpR a b ∧ simpR a b ≤ b ∧ ∀ q : Rat, a ≤ q → q ≤ b → (simpR a b).den ≤ q.den ∧ (simpR a b).num.natAbs ≤ q.num.natAbs := by
  unfold simpR
  by_cases h0 : a.num ≤ 0 ∧ 0 ≤ b.num
  · rw [if_pos h0]
    refine ⟨rat_num_nonpos.1 h0.1, rat_num_nonneg.1 h0.2, fun q _ _ => ⟨?_, ?_⟩⟩
    · have := den_pos q; show 1 ≤ q.den; omega
    · show 0 ≤ q.num.natAbs; omega
  · rw [if_neg h0]
    by_cases hb : b.num < 0
    · rw [if_pos hb]
      obtain ⟨s1, s2, s3, s4⟩ := simpQ_spec (a := -b) (b := -a) (Rat.neg_le_neg hab) (by rw [Rat.neg_num]; omega)
      have s5 := Rat.neg_le_neg s1
      have s6 := Rat.neg_le_neg s2
      rw [Rat.neg_neg] at s5 s6
      refine ⟨s6, s5, fun q h1 h2 => ?_⟩
      obtain ⟨j1, j2⟩ := s4 (-q) (Rat.neg_le_neg h2) (Rat.neg_le_neg h1)
      rw [Rat.neg_den] at j1
      rw [Rat.neg_num] at j2
      rw [Rat.neg_den, Rat.neg_num]
      omega
    · rw [if_neg hb]
      obtain ⟨s1, s2, s3, s4⟩ := simpQ_spec hab (by omega)
      refine ⟨s1, s2, fun q h1 h2 => ?_⟩
      obtain ⟨j1, j2⟩ := s4 q h1 h2
      omega
end Go.Proofs.Fl
namespace Go.Proofs.Fl
open Go.RowKit Go.Proofs.Dig
attribute [local irreducible] IntKind.wrap PureC MutC MakC IterC
theorem sep_inj {x : UInt8} : ∀ {a c b d : List UInt8}, a ++ x :: b = c ++ x :: d → ¬ x ∈ a → ¬ x ∈ c → a = c ∧ b = d
  | [], [], b, d, h, _, _ => by simp at h; exact ⟨rfl, h⟩
  | [], y :: c, b, d, h, _, hc => by simp at h; exact absurd (by rw [h.1]; simp) hc
  | y :: a, [], b, d, h, ha, _ => by simp at h; exact absurd (by rw [h.1]; simp) ha
  | y :: a, z :: c, b, d, h, ha, hc => by
    simp at h
    obtain ⟨h1, h2⟩ := sep_inj h.2 (fun e => ha (by simp [e])) (fun e => hc (by simp [e]))
    exact ⟨by rw [h.1, h1], h2⟩
theorem decN_no {n : Nat} {x : UInt8} (h : x.toNat < 48) : ¬ x ∈ decN n := fun e => by have := decN_digits n x e; omega
theorem ztext_inj {z w : Int} (h : ztext z = ztext w) : z = w := by
  unfold ztext at h
  by_cases hz : z < 0
  · rw [if_pos hz] at h
    by_cases hw : w < 0
    · rw [if_pos hw] at h
      have := decN_inj (List.append_cancel_left h)
      omega
    · rw [if_neg hw] at h
      have h1 : (45 : UInt8) ∈ decN w.natAbs := by rw [List.nil_append] at h; rw [← h]; simp
      exact absurd h1 (decN_no (by decide))
  · rw [if_neg hz] at h
    by_cases hw : w < 0
    · rw [if_pos hw] at h
      have h1 : (45 : UInt8) ∈ decN z.natAbs := by rw [List.nil_append] at h; rw [h]; simp
      exact absurd h1 (decN_no (by decide))
    · rw [if_neg hw] at h
      have := decN_inj h
      omega
theorem ztext_no (z : Int) : ¬ (47 : UInt8) ∈ ztext z := by
  unfold ztext
  split
  · simp; exact decN_no (by decide)
  · simp; exact decN_no (by decide)
theorem qtext_inj {p q : Rat} (h : qtext p = qtext q) : p = q := by
  unfold qtext at h
  by_cases hp : p.den = 1
  · rw [if_pos hp] at h
    by_cases hq : q.den = 1
    · rw [if_pos hq] at h
      exact Rat.ext (ztext_inj h) (by rw [hp, hq])
    · rw [if_neg hq] at h
      exact absurd (by rw [h]; simp) (ztext_no p.num)
  · rw [if_neg hp] at h
    by_cases hq : q.den = 1
    · rw [if_pos hq] at h
      exact absurd (by rw [← h]; simp) (ztext_no q.num)
    · rw [if_neg hq, List.append_assoc, List.append_assoc] at h
      obtain ⟨h1, h2⟩ := sep_inj h (ztext_no _) (ztext_no _)
      exact Rat.ext (ztext_inj h1) (decN_inj h2)
end Go.Proofs.Fl
namespace Go.Proofs.Fl
open Go.RowKit Go.Proofs.Dig
attribute [local irreducible] IntKind.wrap PureC MutC MakC IterC
theorem qtext_beq (p q : Rat) : (qtext p == qtext q) = decide (p = q) := by
  by_cases h : p = q
  · rw [h, decide_eq_true rfl, beq_self_eq_true]
  · rw [decide_eq_false h, beq_eq_false_iff_ne]
    exact fun e => h (qtext_inj e)
theorem f23_ok {J : Keep} (L : LibI J) {p q : Rat} {d1 d2 : IV} (hd : DOk q d1 d2) (hp : qln p < 2 ^ 36) (hq : rl q < 2 ^ 34) : C J 23 [qr p, rqd q d1 d2] (.bool (decide (p = q))) := by
  refine fn_ok Tryz.func23 rfl rfl rfl ?_
  have c1 := f35_ok L (q := p) (by omega)
  have c2 := f150_ok J hd (by omega)
  have e := qtext_beq p q
  repeat (first | (refine W.RS (by kernel_rfl) ?_; conv => whnf) | (refine W.ret ?_; conv => whnf) | (refine ⟨_, c1, ?_⟩; conv => whnf) | (refine ⟨_, c2, ?_⟩; conv => whnf) | (refine ⟨_, e, ?_⟩; conv => whnf) | (refine ⟨rfl, ?_⟩; conv => whnf))
  rfl
end Go.Proofs.Fl
namespace Go.Proofs.Fl
open Go.RowKit Go.Proofs.Dig
attribute [local irreducible] IntKind.wrap PureC MutC MakC IterC
def baseN (n d : Int) : Rat := (n : Rat) / ((if d = 0 then 1 else d : Int) : Rat)
def bothN (n d : Int) (p : Nat) : Rat := baseN n d ^ (p % 4 + 1)
theorem wu8 {a : Int} (h : 0 ≤ a ∧ a ≤ 255) : IntKind.wrap .u8 a = a := by
  have e : IntKind.wrap .u8 a = (let m := a % (256 : Int); if false && decide (m ≥ (128 : Int)) then m - (256 : Int) else m) := by with_unfolding_all rfl
  rw [e]
  simp; omega
theorem rl_base {n d : Int} (h1 : -9223372036854775808 ≤ n) (h2 : n ≤ 9223372036854775807) (h3 : -9223372036854775808 ≤ d) (h4 : d ≤ 9223372036854775807) : rl (baseN n d) ≤ 13 := by
  unfold baseN
  have e1 := rl_int n
  have e2 := rl_int (if d = 0 then 1 else d : Int)
  have l1 : lh n.natAbs ≤ 5 := lh_le (Nat.lt_of_le_of_lt (show n.natAbs ≤ 9223372036854775808 by omega) (by decide))
  have l2 : lh (if d = 0 then 1 else d : Int).natAbs ≤ 5 := lh_le (Nat.lt_of_le_of_lt (show (if d = 0 then 1 else d : Int).natAbs ≤ 9223372036854775808 by split <;> omega) (by decide))
  have := rl_div (n : Rat) ((if d = 0 then 1 else d : Int) : Rat)
  omega
theorem rl_powN {q : Rat} {N : Nat} (h : rl q ≤ N) : ∀ k, rl (q ^ (k + 1)) ≤ (k + 1) * N
  | 0 => by rw [Nat.zero_add, Rat.pow_succ, Rat.pow_zero, Rat.one_mul]; omega
  | k + 1 => by
    rw [Rat.pow_succ]
    have h1 := rl_mul (q ^ (k + 1)) q
    have h2 := rl_powN h k
    rw [Nat.succ_mul]
    omega
theorem rl_both {n d : Int} {p : Nat} (h1 : -9223372036854775808 ≤ n) (h2 : n ≤ 9223372036854775807) (h3 : -9223372036854775808 ≤ d) (h4 : d ≤ 9223372036854775807) : rl (bothN n d p) ≤ 52 := by
  unfold bothN
  have h := rl_powN (rl_base h1 h2 h3 h4) (p % 4)
  have h5 := Nat.mul_le_mul_right 13 (show p % 4 + 1 ≤ 4 by omega)
  omega
theorem varE' {x y : IV} (h : x = y) : some (Bx.var x) = some (Bx.var y) := by rw [h]
theorem pow_one' (q : Rat) : q ^ (0 + 1) = q := by rw [Rat.pow_succ, Rat.pow_zero, Rat.one_mul]
abbrev numI (n d : Int) (p : Nat) : IV := .agg [.int .i64 n, .int .i64 d, .int .u8 p]
set_option maxHeartbeats 4000000 in
theorem f34_ok (J : Keep) {n d : Int} {p : Nat} (h1 : -9223372036854775808 ≤ n) (h2 : n ≤ 9223372036854775807) (h3 : -9223372036854775808 ≤ d) (h4 : d ≤ 9223372036854775807) : C J 34 [numI n d p] (.tup [qr (bothN n d p), rr (bothN n d p)]) := by
  refine fn_ok Tryz.func34 rfl rfl rfl ?_
  have hb := rl_base h1 h2 h3 h4
  unfold bothN
  obtain ⟨D, hD⟩ : ∃ D : Int, (if d = 0 then 1 else d : Int) = D := ⟨_, rfl⟩
  have hD0 : D ≠ 0 := by rw [← hD]; split <;> omega
  have hD1 : -9223372036854775808 ≤ D ∧ D ≤ 9223372036854775807 := by rw [← hD]; split <;> omega
  have c57 := f57_ok (base J) (n := n) (d := D) h1 h2 hD1.1 hD1.2 hD0
  have c29 := f29_ok J (n := n) (d := D) h1 h2 hD1.1 hD1.2 hD0
  have hQ : baseN n d = (n : Rat) / (D : Rat) := by unfold baseN; rw [hD]
  rw [← hQ] at c57 c29
  obtain ⟨Q, hQe⟩ : ∃ Q, baseN n d = Q := ⟨_, rfl⟩
  rw [hQe] at c57 c29 hb ⊢
  obtain ⟨m, hm⟩ : ∃ m, p % 4 = m := ⟨_, rfl⟩
  have hm4 : m < 4 := by omega
  have hmod : ((p : Nat) : Int).tmod 4 = ((m : Nat) : Int) := by rw [← hm]; exact tmodN p 4
  rw [hm]
  clear hQ hQe
  iterate 1 ((refine W.RS (by kernel_rfl) ?_; conv => whnf))
  refine W.join (G := Unit) (fun _ => mkA [(1, .ptr 0 0), (2, .ptr 1 0), (3, .ptr 2 0)] [(0, .var (numI n D p)), (1, .var (.agg [.sl [], .bool false, .sl []])), (2, .var (.agg [.int .i64 0, .sl [], .int .i64 0, .sl []]))] 10) ?_ (fun _ => ?_)
  · by_cases h0 : d = 0
    · rw [if_pos h0] at hD
      subst hD
      iterate 5 (first | (refine W.RS (by kernel_rfl) ?_; conv => whnf) | (refine W.R (by kernel_rfl) ?_; conv => whnf) | (refine W.condT rfl ?_) | (refine ⟨true, decide_eq_true (by omega), ?_⟩; conv => whnf) | (refine ⟨rfl, ?_⟩; conv => whnf))
      exact ⟨(), Wk.tab [] ⟨⟨rfl, rfl⟩, ⟨rfl, rfl⟩, ⟨rfl, rfl⟩, trivial⟩ ⟨rfl, rfl, rfl, trivial⟩ rfl⟩
    · rw [if_neg h0] at hD
      subst hD
      iterate 5 (first | (refine W.RS (by kernel_rfl) ?_; conv => whnf) | (refine W.skip ?_; conv => whnf) | (refine W.condF rfl ?_) | (refine ⟨false, decide_eq_false (by omega), ?_⟩; conv => whnf) | (refine ⟨rfl, ?_⟩; conv => whnf))
      exact ⟨(), Wk.tab [] ⟨⟨rfl, rfl⟩, ⟨rfl, rfl⟩, ⟨rfl, rfl⟩, trivial⟩ ⟨rfl, rfl, rfl, trivial⟩ rfl⟩
  · show W J _ _ (mkA [(1, .ptr 0 0), (2, .ptr 1 0), (3, .ptr 2 0)] [(0, .var (numI n D p)), (1, .var (.agg [.sl [], .bool false, .sl []])), (2, .var (.agg [.int .i64 0, .sl [], .int .i64 0, .sl []]))] 10) _
    repeat (first | (refine W.RS (by kernel_rfl) ?_; conv => whnf) | (refine W.S ?_) | (refine W.block ?_) | (refine ⟨_, c57, ?_⟩; conv => whnf) | (refine ⟨_, c29, ?_⟩; conv => whnf) | (refine ⟨rfl, ?_⟩; conv => whnf))
    refine W.loop (G := { k : Nat // k ≤ m }) (fun k => mkA [(1, .ptr 0 0), (2, .ptr 1 0), (3, .ptr 2 0), (4, .ptr 3 0), (6, .ptr 4 0), (7, .ptr 5 0), (8, .ptr 6 0), (9, .iv (.int .u8 (k.1 : Nat)))]
      [(0, .var (numI n D p)), (1, .var (.agg [.sl [], .bool false, .sl []])), (2, .var (.agg [.int .i64 0, .sl [], .int .i64 0, .sl []])), (3, .var (qr Q)), (4, .var (rr Q)), (5, .var (qr (Q ^ (k.1 + 1)))), (6, .var (rr (Q ^ (k.1 + 1))))] 40) (fun k => m - k.1)
      ⟨0, Nat.zero_le _⟩ (Wk.tab [(3, 18), (4, 26), (5, 30), (6, 31)] ⟨⟨rfl, rfl⟩, ⟨rfl, rfl⟩, ⟨rfl, rfl⟩, ⟨rfl, rfl⟩, ⟨rfl, rfl⟩, ⟨rfl, rfl⟩, ⟨rfl, rfl⟩, ⟨rfl, rfl⟩, trivial⟩ ⟨rfl, rfl, rfl, rfl, rfl, varE' (by rw [pow_one']), varE' (by rw [pow_one']), trivial⟩ rfl) ?_
    rintro ⟨k, hk⟩
    show W J _ _ (mkA [(1, .ptr 0 0), (2, .ptr 1 0), (3, .ptr 2 0), (4, .ptr 3 0), (6, .ptr 4 0), (7, .ptr 5 0), (8, .ptr 6 0), (9, .iv (.int .u8 (k : Nat)))]
      [(0, .var (numI n D p)), (1, .var (.agg [.sl [], .bool false, .sl []])), (2, .var (.agg [.int .i64 0, .sl [], .int .i64 0, .sl []])), (3, .var (qr Q)), (4, .var (rr Q)), (5, .var (qr (Q ^ (k + 1)))), (6, .var (rr (Q ^ (k + 1))))] 40) _
    have lp := rl_powN hb k
    have lp2 := Nat.mul_le_mul_right 13 (show k + 1 ≤ 4 by omega)
    have lq := qln_rl Q
    have lq2 := qln_rl (Q ^ (k + 1))
    have c49 := f49_ok (base J) (a := Q ^ (k + 1)) (b := Q) (by omega) (by omega)
    have c65 := f65_ok J (DOk.rr (Q ^ (k + 1))) (DOk.rr Q) (by omega) (by omega)
    rw [← Rat.pow_succ] at c49 c65
    have hw : IntKind.wrap .u8 (((k : Nat) : Int) + 1) = ((k + 1 : Nat) : Int) := wu8 (by omega)
    by_cases hk2 : k = m
    · subst hk2
      repeat (first | (refine W.RS (by kernel_rfl) ?_; conv => whnf) | (refine W.S ?_) | (refine W.ret ?_; conv => whnf) | (refine W.exit ?_; conv => whnf) | (refine W.condF rfl ?_) | (refine ⟨by omega, _, hmod, ?_⟩; conv => whnf) | (refine ⟨false, decide_eq_false (by omega), ?_⟩; conv => whnf) | (refine ⟨rfl, ?_⟩; conv => whnf))
      rfl
    · repeat (first | (refine W.RS (by kernel_rfl) ?_; conv => whnf) | (refine W.R (by kernel_rfl) ?_; conv => whnf) | (refine W.S ?_) | (refine W.block ?_) | (refine W.skip ?_; conv => whnf) | (refine W.condT rfl ?_) | (refine ⟨by omega, _, hmod, ?_⟩; conv => whnf) | (refine ⟨_, c49, ?_⟩; conv => whnf) | (refine ⟨_, c65, ?_⟩; conv => whnf) | (refine ⟨_, hw, ?_⟩; conv => whnf) | (refine ⟨true, decide_eq_true (by omega), ?_⟩; conv => whnf) | (refine ⟨rfl, ?_⟩; conv => whnf))
      exact ⟨⟨k + 1, by omega⟩, Wk.tab [] ⟨⟨rfl, rfl⟩, ⟨rfl, rfl⟩, ⟨rfl, rfl⟩, ⟨rfl, rfl⟩, ⟨rfl, rfl⟩, ⟨rfl, rfl⟩, ⟨rfl, rfl⟩, ⟨rfl, rfl⟩, trivial⟩ ⟨rfl, rfl, rfl, rfl, rfl, rfl, rfl, trivial⟩ rfl, by dsimp only; omega⟩
end Go.Proofs.Fl
namespace Go.Proofs.Fl
open Go.RowKit Go.ChangeShapes Go.WideShapes Go.Deep
attribute [local irreducible] IntKind.wrap PureC MutC MakC IterC
set_option maxRecDepth 100000
theorem wf_i64 {n : Int} (h : (Lit.int .i64 n).wf = true) : -9223372036854775808 ≤ n ∧ n ≤ 9223372036854775807 := by
  simp only [Lit.wf, Bool.and_eq_true, decide_eq_true_eq] at h
  have e1 : IntKind.i64.min = -9223372036854775808 := rfl
  have e2 : IntKind.i64.max = 9223372036854775807 := rfl
  rw [e1, e2] at h
  exact h
theorem wf_u8 {n : Int} (h : (Lit.int .u8 n).wf = true) : ∃ p : Nat, n = (p : Int) ∧ p < 256 := by
  simp only [Lit.wf, Bool.and_eq_true, decide_eq_true_eq] at h
  have e1 : IntKind.u8.min = 0 := rfl
  have e2 : IntKind.u8.max = 255 := rfl
  rw [e1, e2] at h
  exact ⟨n.toNat, by omega, by omega⟩
section
variable {H : Type} {enc : TypeId × Value → H} {w : World} {base : Nat} {spare : Nat → Bool} {held : Bool}
theorem num_cells {fuel : Nat} {cs : List Value} {x : DataW H × List MemPlace} (h : DataW.trod enc Tryz.prog w base spare held fuel 45 cs = some x) :
    ∃ (n d : Int) (p : Nat), cs = [.int .i64 n, .int .i64 d, .int .u8 (p : Int)] ∧ (-9223372036854775808 ≤ n ∧ n ≤ 9223372036854775807) ∧ (-9223372036854775808 ≤ d ∧ d ≤ 9223372036854775807) ∧ p < 256 := by
  obtain ⟨y0, y1, y2, m, _, hl, h0, h1, h2⟩ := trod_struct3 Tryz.underlying45 h
  rw [show Tryz.prog.cellsOf 45 = 3 by kernel_rfl] at hl
  dsimp only at h0 h1 h2
  rw [show Tryz.prog.cellsOf 2 = 1 by kernel_rfl] at h0 h1
  rw [show Tryz.prog.cellsOf 5 = 1 by kernel_rfl] at h2
  match cs, hl with
  | [c0, c1, c2], _ =>
    obtain ⟨n, e0, _, w0⟩ := DataW.trod_int Tryz.underlying2 h0
    obtain ⟨d, e1, _, w1⟩ := DataW.trod_int Tryz.underlying2 h1
    obtain ⟨p, e2, _, w2⟩ := DataW.trod_int Tryz.underlying5 h2
    simp at e0 e1 e2
    obtain ⟨p, rfl, hp⟩ := wf_u8 w2
    exact ⟨n, d, p, by rw [e0, e1, e2], wf_i64 w0, wf_i64 w1, hp⟩
theorem num_arg {r : Reach} {b0 : Nat} {v : Value} {d : DataW H} {p : List MemPlace} (hv : Value.okWide Tryz.prog w r b0 45 v) (h : DataW.Trod enc Tryz.prog w base spare held 45 v d p) :
    ∃ (n d : Int) (p : Nat), v = .agg #[.int .i64 n, .int .i64 d, .int .u8 (p : Int)] ∧ (-9223372036854775808 ≤ n ∧ n ≤ 9223372036854775807) ∧ (-9223372036854775808 ≤ d ∧ d ≤ 9223372036854775807) ∧ p < 256 := by
  obtain ⟨cs, rfl, hsz⟩ := okWide_struct Tryz.underlying45 hv
  obtain ⟨fuel, hf⟩ := h
  obtain ⟨n, d, p, e, h1, h2, h3⟩ := num_cells hf
  refine ⟨n, d, p, ?_, h1, h2, h3⟩
  have e' : cs.toList = [.int .i64 n, .int .i64 d, .int .u8 (p : Int)] := e
  rw [← e']
theorem num_vr {Hp : Heap} {n d : Int} {p : Nat} : VR Hp (.agg #[.int .i64 n, .int .i64 d, .int .u8 (p : Int)]) (numI n d p) :=
  VR.agg [.int .i64 n, .int .i64 d, .int .u8 (p : Int)] _ (.cons _ _ _ _ (.int _ _) (.cons _ _ _ _ (.int _ _) (.cons _ _ _ _ (.int _ _) .nil))) (by intro v hv; simp at hv; rcases hv with rfl | rfl | rfl <;> rfl)
theorem int_arg {r : Reach} {b0 : Nat} {t : TypeId} (ht : Tryz.prog.underlying t = some (.int .i64)) {v : Value} {d : DataW H} {p : List MemPlace} (hv : Value.okWide Tryz.prog w r b0 t v) (h : DataW.Trod enc Tryz.prog w base spare held t v d p) :
    ∃ n : Int, v = .int .i64 n ∧ -9223372036854775808 ≤ n ∧ n ≤ 9223372036854775807 := by
  obtain ⟨n, rfl, _, _, hw⟩ := open_int ht hv h
  exact ⟨n, rfl, wf_i64 hw⟩
theorem byte_arg {r : Reach} {b0 : Nat} {t : TypeId} (ht : Tryz.prog.underlying t = some (.int .u8)) {v : Value} {d : DataW H} {p : List MemPlace} (hv : Value.okWide Tryz.prog w r b0 t v) (h : DataW.Trod enc Tryz.prog w base spare held t v d p) :
    ∃ n : Nat, v = .int .u8 (n : Int) ∧ n < 256 := by
  obtain ⟨n, rfl, _, _, hw⟩ := open_int ht hv h
  obtain ⟨p, rfl, hp⟩ := wf_u8 hw
  exact ⟨p, rfl, hp⟩
end
def noHeap : Heap := fun _ => none
theorem noHeap_has (w : World) : HeapHas w noHeap := fun _ _ h => by cases h
noncomputable def firstG : Nat := (Tryz.prog.globalNamed "unicode/utf8.first").getD 0
noncomputable def layFirst : Obj → Obj
  | .cells _ t frozen => .cells (Lib.firstTab.map fun z => Value.int .u8 z).toArray t frozen
  | o => o
noncomputable def witW (os : Os) : World :=
  { World.doorLaid Tryz.prog 72 os with heap := (World.doorLaid Tryz.prog 72 os).heap.modify firstG layFirst }
theorem wit_met (os : Os) (args : Array Value) : laidMetH Tryz.prog YtdheblnjmnlpfaaGreatDoor.Rows.numGridRow.laid ((witW os).forCall (fun _ _ => 0) ⟨#[], args, []⟩).memory :=
  laidMetH_of_parts3 (fuel := 8) (laidMet_of_run' 8 (by kernel_rfl) (by kernel_rfl)) (by kernel_rfl) (by kernel_rfl)
theorem laid_pow (W : World) (h : laidMetH Tryz.prog YtdheblnjmnlpfaaGreatDoor.Rows.numGridRow.laid W) : Lib.TabIs Tryz.prog W "internal/strconv.uint64pow10" .u64 Lib.pow10Tab := by
  have h1 := h.filter (fun x => x.1 == "internal/strconv.uint64pow10")
  have e : (YtdheblnjmnlpfaaGreatDoor.Rows.numGridRow.laid.filter fun x => x.1 == "internal/strconv.uint64pow10") = [("internal/strconv.uint64pow10", Lib.tabData .u64 Lib.pow10Tab)] := by kernel_rfl
  rw [e, MakeChecks.laidMetH_plain _ _ _ (by kernel_rfl)] at h1
  exact Lib.tabIs_of_head gPow (t := (Tryz.prog.globals[(Tryz.prog.globalNamed "internal/strconv.uint64pow10").getD 0]?.map (·.type)).getD 0) (e := 142) (n := 20) (by kernel_rfl) (by kernel_rfl) (by kernel_rfl) (by kernel_rfl) (by kernel_rfl) h1
end Go.Proofs.Fl
namespace Go.Proofs.Fl
open Go.RowKit Go.Proofs.Dig
attribute [local irreducible] IntKind.wrap PureC MutC MakC IterC
theorem rl_lt_qln {q : Rat} {N : Nat} (h : rl q < N) : qln q < N := Nat.lt_of_le_of_lt (qln_rl q) h
theorem f36_ok {J : Keep} (L : LibI J) {p q : Rat} (hp : qln p < 2 ^ 36) (hq : qln q < 2 ^ 36) : C J 36 [qr p, qr q] (.bool (decide (p = q))) := by
  refine fn_ok Tryz.func36 rfl rfl rfl ?_
  have c1 := f37_ok (J := J) (a := p) (b := q) (by omega) (by omega)
  have c2 := f35_ok L (q := p) (by omega)
  have c3 := f35_ok L (q := q) (by omega)
  have e := qtext_beq p q
  have hcm := @cmpR_eq p q
  obtain ⟨cv, hcv⟩ : ∃ cv, cmpR p q = cv := ⟨_, rfl⟩
  rw [hcv] at c1 hcm
  by_cases h : p = q
  · rw [decide_eq_true h] at e ⊢
    have h0 := hcm.2 h
    repeat (first | (refine W.RS (by kernel_rfl) ?_; conv => whnf) | (refine W.ret ?_; conv => whnf) | (refine ⟨_, c1, ?_⟩; conv => whnf) | (refine ⟨_, c2, ?_⟩; conv => whnf) | (refine ⟨_, c3, ?_⟩; conv => whnf) | (refine ⟨_, e, ?_⟩; conv => whnf) | (refine ⟨true, decide_eq_true (by omega), ?_⟩; conv => whnf) | (refine ⟨rfl, ?_⟩; conv => whnf) | (refine ⟨_, fun _ => rfl, fun h => absurd h.symm Bool.false_ne_true, ?_⟩; conv => whnf))
    rfl
  · rw [decide_eq_false h]
    have h0 : ¬ cv = 0 := fun e => h (hcm.1 e)
    repeat (first | (refine W.RS (by kernel_rfl) ?_; conv => whnf) | (refine W.ret ?_; conv => whnf) | (refine ⟨_, c1, ?_⟩; conv => whnf) | (refine ⟨false, decide_eq_false (by omega), ?_⟩; conv => whnf) | (refine ⟨rfl, ?_⟩; conv => whnf) | (refine ⟨_, fun h => absurd h Bool.false_ne_true, fun _ => rfl, ?_⟩; conv => whnf))
    rfl
theorem f44_ok {J : Keep} (L : LibI J) {a b p q : Rat} (ha : qln a < 2 ^ 36) (hb : qln b < 2 ^ 36) (hp : rl p < 2 ^ 34) (hq : rl q < 2 ^ 34) : C J 44 [sd a b, sx (some p) (some q)] (.bool (decide (a = p) && decide (b = q))) := by
  refine fn_ok Tryz.func44 rfl rfl rfl ?_
  have c1 := f23_ok L (DOk.rr p) ha hp
  have c2 := f23_ok L (DOk.rr q) hb hq
  by_cases h : a = p
  · rw [decide_eq_true h] at c1 ⊢
    rw [Bool.true_and]
    repeat (first | (refine W.RS (by kernel_rfl) ?_; conv => whnf) | (refine W.ret ?_; conv => whnf) | (refine ⟨_, c1, ?_⟩; conv => whnf) | (refine ⟨_, c2, ?_⟩; conv => whnf) | (refine ⟨_, fun _ => rfl, fun h => absurd h.symm Bool.false_ne_true, ?_⟩; conv => whnf))
    rfl
  · rw [decide_eq_false h] at c1 ⊢
    rw [Bool.false_and]
    repeat (first | (refine W.RS (by kernel_rfl) ?_; conv => whnf) | (refine W.ret ?_; conv => whnf) | (refine ⟨_, c1, ?_⟩; conv => whnf) | (refine ⟨_, fun h => absurd h Bool.false_ne_true, fun _ => rfl, ?_⟩; conv => whnf))
    rfl
end Go.Proofs.Fl
namespace Go.Proofs.Fl
open Go.RowKit Go.Proofs.Dig
attribute [local irreducible] IntKind.wrap PureC MutC MakC IterC
def padT (n X : Nat) : List UInt8 := List.replicate (n + 1 - (decN X).length) 48 ++ decN X
def dotT (n : Nat) (t : List UInt8) : List UInt8 := if 0 < n then t.take (t.length - n) ++ [46] ++ t.drop (t.length - n) else t
def digT (n : Nat) (X : Int) : List UInt8 := (if X < 0 then [45] else []) ++ dotT n (padT n X.natAbs)
noncomputable def scaleQ (n : Nat) : Rat := (((10 ^ n : Nat) : Int) : Rat)
noncomputable def digR (a b : Rat) (n : Nat) : IV := if a ≤ b ∧ nearI (a * scaleQ n) = nearI (b * scaleQ n) then .tup [.str (digT n (nearI (a * scaleQ n))), .bool true] else .tup [.str [], .bool false]
theorem zdN (N : Nat) : zd ((N : Nat) : Int) = .agg [.sl ((dg N).map u32), .bool false] := by
  show IV.agg [.sl ((dg ((N : Nat) : Int).natAbs).map u32), .bool (decide (((N : Nat) : Int) < 0))] = _
  rw [Int.natAbs_natCast, decide_eq_false (by omega)]
theorem cmpR_int {x y : Int} : cmpR (x : Rat) (y : Rat) = 0 ↔ x = y := by
  rw [cmpR_eq, Rat.intCast_inj]
theorem padT_len (n X : Nat) : n + 1 ≤ (padT n X).length ∧ (padT n X).length ≤ n + 1 + (decN X).length := by
  unfold padT
  rw [List.length_append, List.length_replicate]
  omega
theorem ln_near {q : Rat} : ln (nearI q).natAbs ≤ ln q.num.natAbs + 2 := by
  have lf := ln_floor (q := q)
  unfold nearI
  split
  · omega
  · have h1 := ln_mono (Int.natAbs_add_le q.floor 1)
    have h2 := ln_add_le q.floor.natAbs (1 : Int).natAbs
    have h3 : ln (1 : Int).natAbs ≤ 1 := ln_le (by decide)
    omega
set_option maxHeartbeats 4000000 in
theorem f32_ok {J : Keep} (L : LibI J) {a b : Rat} (ha : qln a < 2 ^ 26) (hb : qln b < 2 ^ 26) (k : Int) : C J 32 [sd a b, .int .i64 k] (digR a b (intoN k 100)) := by
  refine fn_ok Tryz.func32 rfl rfl rfl ?_
  have c0 := f154_ok J k 100
  obtain ⟨n, hn⟩ : ∃ n, intoN k 100 = n := ⟨_, rfl⟩
  have hn1 : n ≤ 100 := by rw [← hn]; unfold intoN; omega
  rw [hn] at c0 ⊢
  have c1 := f134_ok J (n := 10) (by omega)
  have l10 : ln 10 ≤ 1 := ln_le (by decide)
  have g1 := Nat.mul_le_mul (show n + 1 ≤ 101 by omega) l10
  have g2 := Nat.mul_le_mul hn1 l10
  have c2 := f137_ok J (a := 10) (n := n) (by omega) (by omega)
  have l2 := ln_pow 10 n
  have c3 := f155_ok J (((10 ^ n : Nat) : Int))
  rw [zdN] at c3
  have ls : qln (scaleQ n) ≤ 110 := by
    have h := qln_i (((10 ^ n : Nat)) : Int)
    rw [Int.natAbs_natCast] at h
    show qln ((((10 ^ n : Nat)) : Int) : Rat) ≤ 110
    omega
  unfold digR
  obtain ⟨sc, hsc⟩ : ∃ s, scaleQ n = s := ⟨_, rfl⟩
  rw [hsc] at ls ⊢
  rw [show ((((10 ^ n : Nat)) : Int) : Rat) = sc from hsc] at c3
  have m1 := qln_mul a sc
  have m2 := qln_mul b sc
  have c4 := f49_ok (base J) (a := a) (b := sc) (by omega) (by omega)
  have c5 := f49_ok (base J) (a := b) (b := sc) (by omega) (by omega)
  have c6 := f156_ok (base J) (a := a * sc) (by omega)
  have c7 := f156_ok (base J) (a := b * sc) (by omega)
  have n1 := ln_near (q := a * sc)
  have n2 := ln_near (q := b * sc)
  have n3 : ln (a * sc).num.natAbs ≤ qln (a * sc) := by unfold qln; omega
  have n4 : ln (b * sc).num.natAbs ≤ qln (b * sc) := by unfold qln; omega
  obtain ⟨X, hX⟩ : ∃ X, nearI (a * sc) = X := ⟨_, rfl⟩
  obtain ⟨Y, hY⟩ : ∃ Y, nearI (b * sc) = Y := ⟨_, rfl⟩
  rw [hX] at c6 n1 ⊢
  rw [hY] at c7 n2 ⊢
  have i1 := qln_i X
  have i2 := qln_i Y
  have c8 := f55_ok (J := J) (a := a) (b := b) (by omega) (by omega)
  have c9 := f37_ok (J := J) (a := (X : Rat)) (b := (Y : Rat)) (by omega) (by omega)
  have hcm := @cmpR_int X Y
  obtain ⟨cv, hcv⟩ : ∃ cv, cmpR (X : Rat) (Y : Rat) = cv := ⟨_, rfl⟩
  rw [hcv] at c9 hcm
  by_cases h1 : a ≤ b
  · rw [decide_eq_true (cmpR_le.2 h1)] at c8
    by_cases h2 : X = Y
    · rw [if_pos ⟨h1, h2⟩]
      have hcv0 := hcm.2 h2
      have c10 := f157_ok L (n := X.natAbs) (by omega)
      have d1 := decN_ln X.natAbs
      have c11 := f22_ok J (X : Rat)
      have hsg : cmpI ((X : Int) : Rat).num 0 < 0 ↔ X < 0 := by
        show cmpI X 0 < 0 ↔ X < 0
        unfold cmpI; split <;> (try split) <;> omega
      obtain ⟨sg, hsge⟩ : ∃ s, cmpI ((X : Int) : Rat).num 0 = s := ⟨_, rfl⟩
      rw [hsge] at c11 hsg
      have eD : digT n X = (if X < 0 then [45] else []) ++ dotT n (padT n X.natAbs) := rfl
      have pl := padT_len n X.natAbs
      obtain ⟨T, hT⟩ : ∃ T, padT n X.natAbs = T := ⟨_, rfl⟩
      rw [hT] at eD pl
      rw [eD]
      unfold padT at hT
      obtain ⟨dN, hdN⟩ : ∃ l, decN X.natAbs = l := ⟨_, rfl⟩
      rw [hdN] at hT c10 d1 pl
      have hzl : (List.replicate (n + 1 - dN.length) (48 : UInt8)).length = n + 1 - dN.length := List.length_replicate
      have c12 := f158_ok J (s := [48]) (c := n + 1 - dN.length) (by simp; omega) (by omega)
      rw [repeat_zero] at c12
      obtain ⟨z, hz⟩ : ∃ z, List.replicate (n + 1 - dN.length) (48 : UInt8) = z := ⟨_, rfl⟩
      rw [hz] at hT hzl c12
      have hdl : dN.length < 2 ^ 40 := by omega
      have hb' := hb
      clear g1 g2 l10 l2 ls m1 m2 n1 n2 n3 n4 i1 i2 ha hb hb' hcm eD hdN hz
      have h46a : (List.drop 0 (List.take (T.length - n) T)).length + ([46] : List UInt8).length ≤ 9223372036854775807 := by simp; omega
      have h46b : (List.drop 0 (List.take (T.length - n) T) ++ ([46] : List UInt8)).length + (List.drop (T.length - n) (List.take T.length T)).length ≤ 9223372036854775807 := by simp; omega
      have hUl : (dotT n T).length ≤ T.length + 1 := by unfold dotT; split <;> simp <;> omega
      have eU1 : 0 < n → SV.iv (.str (List.drop 0 (List.take (T.length - n) T) ++ [46] ++ List.drop (T.length - n) (List.take T.length T))) = SV.iv (.str (dotT n T)) := fun h => by rw [dotT, if_pos h, List.take_length]; rfl
      have eU2 : ¬ 0 < n → SV.iv (.str T) = SV.iv (.str (dotT n T)) := fun h => by rw [dotT, if_neg h]
      obtain ⟨U, hU⟩ : ∃ U, dotT n T = U := ⟨_, rfl⟩
      rw [hU] at hUl eU1 eU2 ⊢
      have h45 : ([45] : List UInt8).length + U.length ≤ 9223372036854775807 := by simp; omega
      by_cases k1 : n + 1 - dN.length = 0
      · have eT : SV.iv (.str dN) = SV.iv (.str T) := by
          rw [← hT, List.eq_nil_of_length_eq_zero (l := z) (by omega), List.nil_append]
        by_cases k2 : 0 < n
        · have eU := eU1 k2
          by_cases k3 : X < 0
          · have k4 := hsg.2 k3
            rw [if_pos k3]
            repeat (first | (refine W.wkRS (id := 6) (σ' := mkA [(1, .iv (.int .i64 n)), (7, .ptr 0 0)] [(0, .var (qr (X : Rat)))] 40) (Wk.tab [(0, 18)] ⟨⟨rfl, rfl⟩, ⟨rfl, rfl⟩, trivial⟩ ⟨rfl, trivial⟩ rfl) (by kernel_rfl) ?_; conv => whnf) | (refine W.wkRS (id := 10) (σ' := mkA [(1, .iv (.int .i64 n)), (7, .ptr 0 0), (8, .iv (.str T))] [(0, .var (qr (X : Rat)))] 60) (Wk.tab [] ⟨⟨rfl, rfl⟩, ⟨rfl, rfl⟩, ⟨eT, rfl⟩, trivial⟩ ⟨rfl, trivial⟩ rfl) (by kernel_rfl) ?_; conv => whnf) | (refine W.wkRS (id := 12) (σ' := mkA [(7, .ptr 0 0), (8, .iv (.str U))] [(0, .var (qr (X : Rat)))] 80) (Wk.tab [] ⟨⟨rfl, rfl⟩, ⟨eU, rfl⟩, trivial⟩ ⟨rfl, trivial⟩ rfl) (by kernel_rfl) ?_; conv => whnf) | (refine W.RS (by kernel_rfl) ?_; conv => whnf) | (refine W.R (by kernel_rfl) ?_; conv => whnf) | (refine W.S ?_) | (refine W.ret ?_; conv => whnf) | (refine W.skip ?_; conv => whnf) | (refine W.condF rfl ?_) | (refine W.condT rfl ?_) | (refine ⟨_, c0, ?_⟩; conv => whnf) | (refine ⟨_, c1, ?_⟩; conv => whnf) | (refine ⟨_, c2, ?_⟩; conv => whnf) | (refine ⟨_, c3, ?_⟩; conv => whnf) | (refine ⟨_, c4, ?_⟩; conv => whnf) | (refine ⟨_, c5, ?_⟩; conv => whnf) | (refine ⟨_, c6, ?_⟩; conv => whnf) | (refine ⟨_, c7, ?_⟩; conv => whnf) | (refine ⟨_, c8, ?_⟩; conv => whnf) | (refine ⟨_, c9, ?_⟩; conv => whnf) | (refine ⟨_, c10, ?_⟩; conv => whnf) | (refine ⟨_, c11, ?_⟩; conv => whnf) | (refine ⟨T.length - n, by omega, by omega, by omega, ?_⟩; conv => whnf) | (refine ⟨h46a, ?_⟩; conv => whnf) | (refine ⟨h46b, ?_⟩; conv => whnf) | (refine ⟨h45, ?_⟩; conv => whnf) | (refine ⟨rfl, _, w64 (by omega), ?_⟩; conv => whnf) | (refine ⟨true, decide_eq_true (by omega), ?_⟩; conv => whnf) | (refine ⟨false, decide_eq_false (by omega), ?_⟩; conv => whnf) | (refine ⟨false, bne_eq_false_iff_eq.2 (by omega), ?_⟩; conv => whnf) | (refine ⟨_, rfl, ?_⟩; conv => whnf) | (refine ⟨rfl, ?_⟩; conv => whnf) | (refine ⟨_, fun h => absurd h Bool.false_ne_true, fun _ => rfl, ?_⟩; conv => whnf))
            rfl
          · have k4 : ¬ sg < 0 := fun h => k3 (hsg.1 h)
            rw [if_neg k3]
            repeat (first | (refine W.wkRS (id := 6) (σ' := mkA [(1, .iv (.int .i64 n)), (7, .ptr 0 0)] [(0, .var (qr (X : Rat)))] 40) (Wk.tab [(0, 18)] ⟨⟨rfl, rfl⟩, ⟨rfl, rfl⟩, trivial⟩ ⟨rfl, trivial⟩ rfl) (by kernel_rfl) ?_; conv => whnf) | (refine W.wkRS (id := 10) (σ' := mkA [(1, .iv (.int .i64 n)), (7, .ptr 0 0), (8, .iv (.str T))] [(0, .var (qr (X : Rat)))] 60) (Wk.tab [] ⟨⟨rfl, rfl⟩, ⟨rfl, rfl⟩, ⟨eT, rfl⟩, trivial⟩ ⟨rfl, trivial⟩ rfl) (by kernel_rfl) ?_; conv => whnf) | (refine W.wkRS (id := 12) (σ' := mkA [(7, .ptr 0 0), (8, .iv (.str U))] [(0, .var (qr (X : Rat)))] 80) (Wk.tab [] ⟨⟨rfl, rfl⟩, ⟨eU, rfl⟩, trivial⟩ ⟨rfl, trivial⟩ rfl) (by kernel_rfl) ?_; conv => whnf) | (refine W.RS (by kernel_rfl) ?_; conv => whnf) | (refine W.R (by kernel_rfl) ?_; conv => whnf) | (refine W.S ?_) | (refine W.ret ?_; conv => whnf) | (refine W.skip ?_; conv => whnf) | (refine W.condF rfl ?_) | (refine W.condT rfl ?_) | (refine ⟨_, c0, ?_⟩; conv => whnf) | (refine ⟨_, c1, ?_⟩; conv => whnf) | (refine ⟨_, c2, ?_⟩; conv => whnf) | (refine ⟨_, c3, ?_⟩; conv => whnf) | (refine ⟨_, c4, ?_⟩; conv => whnf) | (refine ⟨_, c5, ?_⟩; conv => whnf) | (refine ⟨_, c6, ?_⟩; conv => whnf) | (refine ⟨_, c7, ?_⟩; conv => whnf) | (refine ⟨_, c8, ?_⟩; conv => whnf) | (refine ⟨_, c9, ?_⟩; conv => whnf) | (refine ⟨_, c10, ?_⟩; conv => whnf) | (refine ⟨_, c11, ?_⟩; conv => whnf) | (refine ⟨T.length - n, by omega, by omega, by omega, ?_⟩; conv => whnf) | (refine ⟨h46a, ?_⟩; conv => whnf) | (refine ⟨h46b, ?_⟩; conv => whnf) | (refine ⟨rfl, _, w64 (by omega), ?_⟩; conv => whnf) | (refine ⟨true, decide_eq_true (by omega), ?_⟩; conv => whnf) | (refine ⟨false, decide_eq_false (by omega), ?_⟩; conv => whnf) | (refine ⟨false, bne_eq_false_iff_eq.2 (by omega), ?_⟩; conv => whnf) | (refine ⟨_, rfl, ?_⟩; conv => whnf) | (refine ⟨rfl, ?_⟩; conv => whnf) | (refine ⟨_, fun h => absurd h Bool.false_ne_true, fun _ => rfl, ?_⟩; conv => whnf))
            rfl
        · have eU := eU2 k2
          by_cases k3 : X < 0
          · have k4 := hsg.2 k3
            rw [if_pos k3]
            repeat (first | (refine W.wkRS (id := 6) (σ' := mkA [(1, .iv (.int .i64 n)), (7, .ptr 0 0)] [(0, .var (qr (X : Rat)))] 40) (Wk.tab [(0, 18)] ⟨⟨rfl, rfl⟩, ⟨rfl, rfl⟩, trivial⟩ ⟨rfl, trivial⟩ rfl) (by kernel_rfl) ?_; conv => whnf) | (refine W.wkRS (id := 10) (σ' := mkA [(1, .iv (.int .i64 n)), (7, .ptr 0 0), (8, .iv (.str T))] [(0, .var (qr (X : Rat)))] 60) (Wk.tab [] ⟨⟨rfl, rfl⟩, ⟨rfl, rfl⟩, ⟨eT, rfl⟩, trivial⟩ ⟨rfl, trivial⟩ rfl) (by kernel_rfl) ?_; conv => whnf) | (refine W.wkRS (id := 12) (σ' := mkA [(7, .ptr 0 0), (8, .iv (.str U))] [(0, .var (qr (X : Rat)))] 80) (Wk.tab [] ⟨⟨rfl, rfl⟩, ⟨eU, rfl⟩, trivial⟩ ⟨rfl, trivial⟩ rfl) (by kernel_rfl) ?_; conv => whnf) | (refine W.RS (by kernel_rfl) ?_; conv => whnf) | (refine W.R (by kernel_rfl) ?_; conv => whnf) | (refine W.S ?_) | (refine W.ret ?_; conv => whnf) | (refine W.skip ?_; conv => whnf) | (refine W.condF rfl ?_) | (refine W.condT rfl ?_) | (refine ⟨_, c0, ?_⟩; conv => whnf) | (refine ⟨_, c1, ?_⟩; conv => whnf) | (refine ⟨_, c2, ?_⟩; conv => whnf) | (refine ⟨_, c3, ?_⟩; conv => whnf) | (refine ⟨_, c4, ?_⟩; conv => whnf) | (refine ⟨_, c5, ?_⟩; conv => whnf) | (refine ⟨_, c6, ?_⟩; conv => whnf) | (refine ⟨_, c7, ?_⟩; conv => whnf) | (refine ⟨_, c8, ?_⟩; conv => whnf) | (refine ⟨_, c9, ?_⟩; conv => whnf) | (refine ⟨_, c10, ?_⟩; conv => whnf) | (refine ⟨_, c11, ?_⟩; conv => whnf) | (refine ⟨h45, ?_⟩; conv => whnf) | (refine ⟨rfl, _, w64 (by omega), ?_⟩; conv => whnf) | (refine ⟨true, decide_eq_true (by omega), ?_⟩; conv => whnf) | (refine ⟨false, decide_eq_false (by omega), ?_⟩; conv => whnf) | (refine ⟨false, bne_eq_false_iff_eq.2 (by omega), ?_⟩; conv => whnf) | (refine ⟨_, rfl, ?_⟩; conv => whnf) | (refine ⟨rfl, ?_⟩; conv => whnf) | (refine ⟨_, fun h => absurd h Bool.false_ne_true, fun _ => rfl, ?_⟩; conv => whnf))
            rfl
          · have k4 : ¬ sg < 0 := fun h => k3 (hsg.1 h)
            rw [if_neg k3]
            repeat (first | (refine W.wkRS (id := 6) (σ' := mkA [(1, .iv (.int .i64 n)), (7, .ptr 0 0)] [(0, .var (qr (X : Rat)))] 40) (Wk.tab [(0, 18)] ⟨⟨rfl, rfl⟩, ⟨rfl, rfl⟩, trivial⟩ ⟨rfl, trivial⟩ rfl) (by kernel_rfl) ?_; conv => whnf) | (refine W.wkRS (id := 10) (σ' := mkA [(1, .iv (.int .i64 n)), (7, .ptr 0 0), (8, .iv (.str T))] [(0, .var (qr (X : Rat)))] 60) (Wk.tab [] ⟨⟨rfl, rfl⟩, ⟨rfl, rfl⟩, ⟨eT, rfl⟩, trivial⟩ ⟨rfl, trivial⟩ rfl) (by kernel_rfl) ?_; conv => whnf) | (refine W.wkRS (id := 12) (σ' := mkA [(7, .ptr 0 0), (8, .iv (.str U))] [(0, .var (qr (X : Rat)))] 80) (Wk.tab [] ⟨⟨rfl, rfl⟩, ⟨eU, rfl⟩, trivial⟩ ⟨rfl, trivial⟩ rfl) (by kernel_rfl) ?_; conv => whnf) | (refine W.RS (by kernel_rfl) ?_; conv => whnf) | (refine W.S ?_) | (refine W.ret ?_; conv => whnf) | (refine W.skip ?_; conv => whnf) | (refine W.condF rfl ?_) | (refine ⟨_, c0, ?_⟩; conv => whnf) | (refine ⟨_, c1, ?_⟩; conv => whnf) | (refine ⟨_, c2, ?_⟩; conv => whnf) | (refine ⟨_, c3, ?_⟩; conv => whnf) | (refine ⟨_, c4, ?_⟩; conv => whnf) | (refine ⟨_, c5, ?_⟩; conv => whnf) | (refine ⟨_, c6, ?_⟩; conv => whnf) | (refine ⟨_, c7, ?_⟩; conv => whnf) | (refine ⟨_, c8, ?_⟩; conv => whnf) | (refine ⟨_, c9, ?_⟩; conv => whnf) | (refine ⟨_, c10, ?_⟩; conv => whnf) | (refine ⟨_, c11, ?_⟩; conv => whnf) | (refine ⟨rfl, _, w64 (by omega), ?_⟩; conv => whnf) | (refine ⟨false, decide_eq_false (by omega), ?_⟩; conv => whnf) | (refine ⟨false, bne_eq_false_iff_eq.2 (by omega), ?_⟩; conv => whnf) | (refine ⟨_, rfl, ?_⟩; conv => whnf) | (refine ⟨rfl, ?_⟩; conv => whnf) | (refine ⟨_, fun h => absurd h Bool.false_ne_true, fun _ => rfl, ?_⟩; conv => whnf))
            rfl
      · have eT : SV.iv (.str (z ++ dN)) = SV.iv (.str T) := by rw [hT]
        rw [show ((n + 1 - dN.length : Nat) : Int) = (n : Int) + 1 - ((dN.length : Nat) : Int) by omega] at c12
        by_cases k2 : 0 < n
        · have eU := eU1 k2
          by_cases k3 : X < 0
          · have k4 := hsg.2 k3
            rw [if_pos k3]
            repeat (first | (refine W.wkRS (id := 6) (σ' := mkA [(1, .iv (.int .i64 n)), (7, .ptr 0 0)] [(0, .var (qr (X : Rat)))] 40) (Wk.tab [(0, 18)] ⟨⟨rfl, rfl⟩, ⟨rfl, rfl⟩, trivial⟩ ⟨rfl, trivial⟩ rfl) (by kernel_rfl) ?_; conv => whnf) | (refine W.wkRS (id := 10) (σ' := mkA [(1, .iv (.int .i64 n)), (7, .ptr 0 0), (8, .iv (.str T))] [(0, .var (qr (X : Rat)))] 60) (Wk.tab [] ⟨⟨rfl, rfl⟩, ⟨rfl, rfl⟩, ⟨eT, rfl⟩, trivial⟩ ⟨rfl, trivial⟩ rfl) (by kernel_rfl) ?_; conv => whnf) | (refine W.wkRS (id := 12) (σ' := mkA [(7, .ptr 0 0), (8, .iv (.str U))] [(0, .var (qr (X : Rat)))] 80) (Wk.tab [] ⟨⟨rfl, rfl⟩, ⟨eU, rfl⟩, trivial⟩ ⟨rfl, trivial⟩ rfl) (by kernel_rfl) ?_; conv => whnf) | (refine W.RS (by kernel_rfl) ?_; conv => whnf) | (refine W.R (by kernel_rfl) ?_; conv => whnf) | (refine W.S ?_) | (refine W.ret ?_; conv => whnf) | (refine W.skip ?_; conv => whnf) | (refine W.condF rfl ?_) | (refine W.condT rfl ?_) | (refine ⟨_, c0, ?_⟩; conv => whnf) | (refine ⟨_, c1, ?_⟩; conv => whnf) | (refine ⟨_, c2, ?_⟩; conv => whnf) | (refine ⟨_, c3, ?_⟩; conv => whnf) | (refine ⟨_, c4, ?_⟩; conv => whnf) | (refine ⟨_, c5, ?_⟩; conv => whnf) | (refine ⟨_, c6, ?_⟩; conv => whnf) | (refine ⟨_, c7, ?_⟩; conv => whnf) | (refine ⟨_, c8, ?_⟩; conv => whnf) | (refine ⟨_, c9, ?_⟩; conv => whnf) | (refine ⟨_, c10, ?_⟩; conv => whnf) | (refine ⟨_, c11, ?_⟩; conv => whnf) | (refine ⟨_, c12, ?_⟩; conv => whnf) | (refine ⟨T.length - n, by omega, by omega, by omega, ?_⟩; conv => whnf) | (refine ⟨h46a, ?_⟩; conv => whnf) | (refine ⟨h46b, ?_⟩; conv => whnf) | (refine ⟨h45, ?_⟩; conv => whnf) | (refine ⟨rfl, _, w64 (by omega), ?_⟩; conv => whnf) | (refine ⟨true, decide_eq_true (by omega), ?_⟩; conv => whnf) | (refine ⟨false, bne_eq_false_iff_eq.2 (by omega), ?_⟩; conv => whnf) | (refine ⟨_, rfl, ?_⟩; conv => whnf) | (refine ⟨rfl, ?_⟩; conv => whnf) | (refine And.intro (by omega) ?_; conv => whnf) | (refine ⟨_, fun h => absurd h Bool.false_ne_true, fun _ => rfl, ?_⟩; conv => whnf))
            rfl
          · have k4 : ¬ sg < 0 := fun h => k3 (hsg.1 h)
            rw [if_neg k3]
            repeat (first | (refine W.wkRS (id := 6) (σ' := mkA [(1, .iv (.int .i64 n)), (7, .ptr 0 0)] [(0, .var (qr (X : Rat)))] 40) (Wk.tab [(0, 18)] ⟨⟨rfl, rfl⟩, ⟨rfl, rfl⟩, trivial⟩ ⟨rfl, trivial⟩ rfl) (by kernel_rfl) ?_; conv => whnf) | (refine W.wkRS (id := 10) (σ' := mkA [(1, .iv (.int .i64 n)), (7, .ptr 0 0), (8, .iv (.str T))] [(0, .var (qr (X : Rat)))] 60) (Wk.tab [] ⟨⟨rfl, rfl⟩, ⟨rfl, rfl⟩, ⟨eT, rfl⟩, trivial⟩ ⟨rfl, trivial⟩ rfl) (by kernel_rfl) ?_; conv => whnf) | (refine W.wkRS (id := 12) (σ' := mkA [(7, .ptr 0 0), (8, .iv (.str U))] [(0, .var (qr (X : Rat)))] 80) (Wk.tab [] ⟨⟨rfl, rfl⟩, ⟨eU, rfl⟩, trivial⟩ ⟨rfl, trivial⟩ rfl) (by kernel_rfl) ?_; conv => whnf) | (refine W.RS (by kernel_rfl) ?_; conv => whnf) | (refine W.R (by kernel_rfl) ?_; conv => whnf) | (refine W.S ?_) | (refine W.ret ?_; conv => whnf) | (refine W.skip ?_; conv => whnf) | (refine W.condF rfl ?_) | (refine W.condT rfl ?_) | (refine ⟨_, c0, ?_⟩; conv => whnf) | (refine ⟨_, c1, ?_⟩; conv => whnf) | (refine ⟨_, c2, ?_⟩; conv => whnf) | (refine ⟨_, c3, ?_⟩; conv => whnf) | (refine ⟨_, c4, ?_⟩; conv => whnf) | (refine ⟨_, c5, ?_⟩; conv => whnf) | (refine ⟨_, c6, ?_⟩; conv => whnf) | (refine ⟨_, c7, ?_⟩; conv => whnf) | (refine ⟨_, c8, ?_⟩; conv => whnf) | (refine ⟨_, c9, ?_⟩; conv => whnf) | (refine ⟨_, c10, ?_⟩; conv => whnf) | (refine ⟨_, c11, ?_⟩; conv => whnf) | (refine ⟨_, c12, ?_⟩; conv => whnf) | (refine ⟨T.length - n, by omega, by omega, by omega, ?_⟩; conv => whnf) | (refine ⟨h46a, ?_⟩; conv => whnf) | (refine ⟨h46b, ?_⟩; conv => whnf) | (refine ⟨rfl, _, w64 (by omega), ?_⟩; conv => whnf) | (refine ⟨true, decide_eq_true (by omega), ?_⟩; conv => whnf) | (refine ⟨false, decide_eq_false (by omega), ?_⟩; conv => whnf) | (refine ⟨false, bne_eq_false_iff_eq.2 (by omega), ?_⟩; conv => whnf) | (refine ⟨_, rfl, ?_⟩; conv => whnf) | (refine ⟨rfl, ?_⟩; conv => whnf) | (refine And.intro (by omega) ?_; conv => whnf) | (refine ⟨_, fun h => absurd h Bool.false_ne_true, fun _ => rfl, ?_⟩; conv => whnf))
            rfl
        · have eU := eU2 k2
          by_cases k3 : X < 0
          · have k4 := hsg.2 k3
            rw [if_pos k3]
            repeat (first | (refine W.wkRS (id := 6) (σ' := mkA [(1, .iv (.int .i64 n)), (7, .ptr 0 0)] [(0, .var (qr (X : Rat)))] 40) (Wk.tab [(0, 18)] ⟨⟨rfl, rfl⟩, ⟨rfl, rfl⟩, trivial⟩ ⟨rfl, trivial⟩ rfl) (by kernel_rfl) ?_; conv => whnf) | (refine W.wkRS (id := 10) (σ' := mkA [(1, .iv (.int .i64 n)), (7, .ptr 0 0), (8, .iv (.str T))] [(0, .var (qr (X : Rat)))] 60) (Wk.tab [] ⟨⟨rfl, rfl⟩, ⟨rfl, rfl⟩, ⟨eT, rfl⟩, trivial⟩ ⟨rfl, trivial⟩ rfl) (by kernel_rfl) ?_; conv => whnf) | (refine W.wkRS (id := 12) (σ' := mkA [(7, .ptr 0 0), (8, .iv (.str U))] [(0, .var (qr (X : Rat)))] 80) (Wk.tab [] ⟨⟨rfl, rfl⟩, ⟨eU, rfl⟩, trivial⟩ ⟨rfl, trivial⟩ rfl) (by kernel_rfl) ?_; conv => whnf) | (refine W.RS (by kernel_rfl) ?_; conv => whnf) | (refine W.R (by kernel_rfl) ?_; conv => whnf) | (refine W.S ?_) | (refine W.ret ?_; conv => whnf) | (refine W.skip ?_; conv => whnf) | (refine W.condF rfl ?_) | (refine W.condT rfl ?_) | (refine ⟨_, c0, ?_⟩; conv => whnf) | (refine ⟨_, c1, ?_⟩; conv => whnf) | (refine ⟨_, c2, ?_⟩; conv => whnf) | (refine ⟨_, c3, ?_⟩; conv => whnf) | (refine ⟨_, c4, ?_⟩; conv => whnf) | (refine ⟨_, c5, ?_⟩; conv => whnf) | (refine ⟨_, c6, ?_⟩; conv => whnf) | (refine ⟨_, c7, ?_⟩; conv => whnf) | (refine ⟨_, c8, ?_⟩; conv => whnf) | (refine ⟨_, c9, ?_⟩; conv => whnf) | (refine ⟨_, c10, ?_⟩; conv => whnf) | (refine ⟨_, c11, ?_⟩; conv => whnf) | (refine ⟨_, c12, ?_⟩; conv => whnf) | (refine ⟨h45, ?_⟩; conv => whnf) | (refine ⟨rfl, _, w64 (by omega), ?_⟩; conv => whnf) | (refine ⟨true, decide_eq_true (by omega), ?_⟩; conv => whnf) | (refine ⟨false, decide_eq_false (by omega), ?_⟩; conv => whnf) | (refine ⟨false, bne_eq_false_iff_eq.2 (by omega), ?_⟩; conv => whnf) | (refine ⟨_, rfl, ?_⟩; conv => whnf) | (refine ⟨rfl, ?_⟩; conv => whnf) | (refine And.intro (by omega) ?_; conv => whnf) | (refine ⟨_, fun h => absurd h Bool.false_ne_true, fun _ => rfl, ?_⟩; conv => whnf))
            rfl
          · have k4 : ¬ sg < 0 := fun h => k3 (hsg.1 h)
            rw [if_neg k3]
            repeat (first | (refine W.wkRS (id := 6) (σ' := mkA [(1, .iv (.int .i64 n)), (7, .ptr 0 0)] [(0, .var (qr (X : Rat)))] 40) (Wk.tab [(0, 18)] ⟨⟨rfl, rfl⟩, ⟨rfl, rfl⟩, trivial⟩ ⟨rfl, trivial⟩ rfl) (by kernel_rfl) ?_; conv => whnf) | (refine W.wkRS (id := 10) (σ' := mkA [(1, .iv (.int .i64 n)), (7, .ptr 0 0), (8, .iv (.str T))] [(0, .var (qr (X : Rat)))] 60) (Wk.tab [] ⟨⟨rfl, rfl⟩, ⟨rfl, rfl⟩, ⟨eT, rfl⟩, trivial⟩ ⟨rfl, trivial⟩ rfl) (by kernel_rfl) ?_; conv => whnf) | (refine W.wkRS (id := 12) (σ' := mkA [(7, .ptr 0 0), (8, .iv (.str U))] [(0, .var (qr (X : Rat)))] 80) (Wk.tab [] ⟨⟨rfl, rfl⟩, ⟨eU, rfl⟩, trivial⟩ ⟨rfl, trivial⟩ rfl) (by kernel_rfl) ?_; conv => whnf) | (refine W.RS (by kernel_rfl) ?_; conv => whnf) | (refine W.R (by kernel_rfl) ?_; conv => whnf) | (refine W.S ?_) | (refine W.ret ?_; conv => whnf) | (refine W.skip ?_; conv => whnf) | (refine W.condF rfl ?_) | (refine W.condT rfl ?_) | (refine ⟨_, c0, ?_⟩; conv => whnf) | (refine ⟨_, c1, ?_⟩; conv => whnf) | (refine ⟨_, c2, ?_⟩; conv => whnf) | (refine ⟨_, c3, ?_⟩; conv => whnf) | (refine ⟨_, c4, ?_⟩; conv => whnf) | (refine ⟨_, c5, ?_⟩; conv => whnf) | (refine ⟨_, c6, ?_⟩; conv => whnf) | (refine ⟨_, c7, ?_⟩; conv => whnf) | (refine ⟨_, c8, ?_⟩; conv => whnf) | (refine ⟨_, c9, ?_⟩; conv => whnf) | (refine ⟨_, c10, ?_⟩; conv => whnf) | (refine ⟨_, c11, ?_⟩; conv => whnf) | (refine ⟨_, c12, ?_⟩; conv => whnf) | (refine ⟨rfl, _, w64 (by omega), ?_⟩; conv => whnf) | (refine ⟨true, decide_eq_true (by omega), ?_⟩; conv => whnf) | (refine ⟨false, decide_eq_false (by omega), ?_⟩; conv => whnf) | (refine ⟨false, bne_eq_false_iff_eq.2 (by omega), ?_⟩; conv => whnf) | (refine ⟨_, rfl, ?_⟩; conv => whnf) | (refine ⟨rfl, ?_⟩; conv => whnf) | (refine And.intro (by omega) ?_; conv => whnf) | (refine ⟨_, fun h => absurd h Bool.false_ne_true, fun _ => rfl, ?_⟩; conv => whnf))
            rfl
    · rw [if_neg (fun h => h2 h.2)]
      have hcv0 : ¬ cv = 0 := fun h => h2 (hcm.1 h)
      clear g1 g2 l10 l2 ls m1 m2 n1 n2 n3 n4 i1 i2 ha hb hcm
      repeat (first | (refine W.RS (by kernel_rfl) ?_; conv => whnf) | (refine W.S ?_) | (refine W.ret ?_; conv => whnf) | (refine W.condT rfl ?_) | (refine ⟨_, c0, ?_⟩; conv => whnf) | (refine ⟨_, c1, ?_⟩; conv => whnf) | (refine ⟨_, c2, ?_⟩; conv => whnf) | (refine ⟨_, c3, ?_⟩; conv => whnf) | (refine ⟨_, c4, ?_⟩; conv => whnf) | (refine ⟨_, c5, ?_⟩; conv => whnf) | (refine ⟨_, c6, ?_⟩; conv => whnf) | (refine ⟨_, c7, ?_⟩; conv => whnf) | (refine ⟨_, c8, ?_⟩; conv => whnf) | (refine ⟨_, c9, ?_⟩; conv => whnf) | (refine ⟨true, bne_iff_ne.2 (by omega), ?_⟩; conv => whnf) | (refine ⟨_, rfl, ?_⟩; conv => whnf) | (refine ⟨rfl, ?_⟩; conv => whnf) | (refine ⟨_, fun h => absurd h Bool.false_ne_true, fun _ => rfl, ?_⟩; conv => whnf))
      rfl
  · rw [if_neg (fun h => h1 h.1)]
    rw [decide_eq_false (fun h => h1 (cmpR_le.1 h))] at c8
    clear g1 g2 l10 l2 ls m1 m2 n1 n2 n3 n4 i1 i2 ha hb hcm
    repeat (first | (refine W.RS (by kernel_rfl) ?_; conv => whnf) | (refine W.S ?_) | (refine W.ret ?_; conv => whnf) | (refine W.condT rfl ?_) | (refine ⟨_, c0, ?_⟩; conv => whnf) | (refine ⟨_, c1, ?_⟩; conv => whnf) | (refine ⟨_, c2, ?_⟩; conv => whnf) | (refine ⟨_, c3, ?_⟩; conv => whnf) | (refine ⟨_, c4, ?_⟩; conv => whnf) | (refine ⟨_, c6, ?_⟩; conv => whnf) | (refine ⟨_, c8, ?_⟩; conv => whnf) | (refine ⟨_, rfl, ?_⟩; conv => whnf) | (refine ⟨rfl, ?_⟩; conv => whnf) | (refine ⟨_, fun _ => rfl, fun h => absurd h.symm Bool.false_ne_true, ?_⟩; conv => whnf))
    rfl
end Go.Proofs.Fl
namespace Go.Proofs.Fl
open Go.RowKit Go.Proofs.Dig
attribute [local irreducible] IntKind.wrap PureC MutC MakC IterC
theorem f123_ok {J : Keep} (L : LibI J) {s : List UInt8} (hs : s.length < 2 ^ 31) : C J 123 [.str s] (qr (parseQ s).1) := by
  refine fn_ok Tryz.func123 rfl rfl rfl ?_
  have c1 := f20_ok L hs
  unfold rePq at c1
  repeat (first | (refine W.RS (by kernel_rfl) ?_; conv => whnf) | (refine W.ret ?_; conv => whnf) | (refine ⟨_, c1, ?_⟩; conv => whnf))
  rfl
theorem f124_ok {J : Keep} (L : LibI J) {s t : List UInt8} (hs : s.length < 2 ^ 31) (ht : t.length < 2 ^ 31) : C J 124 [.str s, .str t] (sd (parseQ s).1 (parseQ t).1) := by
  refine fn_ok Tryz.func124 rfl rfl rfl ?_
  have c1 := f123_ok L hs
  have c2 := f123_ok L ht
  repeat (first | (refine W.RS (by kernel_rfl) ?_; conv => whnf) | (refine W.ret ?_; conv => whnf) | (refine ⟨_, c1, ?_⟩; conv => whnf) | (refine ⟨_, c2, ?_⟩; conv => whnf))
  rfl
theorem f122_ok {J : Keep} (L : LibI J) {q : Rat} {s : List UInt8} (h : qln q < 2 ^ 40) : C J 122 [qr q, .str s] (.bool (qtext q == s)) := by
  refine fn_ok Tryz.func122 rfl rfl rfl ?_
  have c1 := f35_ok L h
  repeat (first | (refine W.RS (by kernel_rfl) ?_; conv => whnf) | (refine W.ret ?_; conv => whnf) | (refine ⟨_, c1, ?_⟩; conv => whnf) | (refine ⟨_, rfl, ?_⟩; conv => whnf))
  rfl
end Go.Proofs.Fl
namespace Go.Proofs.Fl
open Go.RowKit Go.Proofs.Dig
attribute [local irreducible] IntKind.wrap PureC MutC MakC IterC
theorem qln_of {q : Rat} {n d : Nat} (h1 : q.num.natAbs = n) (h2 : q.den = d) (h3 : n < 10 ^ 9) (h4 : d < 10 ^ 9) : qln q ≤ 2 := by
  unfold qln
  have e1 := ln_le (n := q.num.natAbs) (k := 1) (by rw [h1, Nat.pow_one]; exact h3)
  have e2 := ln_le (n := q.den) (k := 1) (by rw [h2, Nat.pow_one]; exact h4)
  omega
def smQ (q : Rat) : Bool := Nat.blt q.num.natAbs 1000000000 && Nat.blt q.den 1000000000
theorem smQ_qln {q : Rat} (h : smQ q = true) : qln q ≤ 2 := by
  unfold smQ at h
  simp only [Bool.and_eq_true, Nat.blt_eq] at h
  exact qln_of rfl rfl h.1 h.2
theorem parse_c {J : Keep} (L : LibI J) {s : List UInt8} {q : Rat} {e : Int} (hs : Nat.blt s.length 2147483648 = true) (h : parseQ s = (q, e)) : C J 20 [.str s] (.tup [qr q, .int .i64 e]) := by
  have := f20_ok L (s := s) (by rw [Nat.blt_eq] at hs; omega)
  rw [h] at this
  exact this
theorem of_c {J : Keep} (L : LibI J) {s : List UInt8} {q : Rat} {e : Int} (hs : Nat.blt s.length 2147483648 = true) (h : parseQ s = (q, e)) : C J 123 [.str s] (qr q) := by
  have := f123_ok L (s := s) (by rw [Nat.blt_eq] at hs; omega)
  rw [h] at this
  exact this
theorem span_c {J : Keep} (L : LibI J) {s t : List UInt8} {p q : Rat} {e f : Int} (hs : Nat.blt s.length 2147483648 = true) (ht : Nat.blt t.length 2147483648 = true) (h : parseQ s = (p, e)) (k : parseQ t = (q, f)) : C J 124 [.str s, .str t] (sd p q) := by
  have := f124_ok L (s := s) (t := t) (by rw [Nat.blt_eq] at hs; omega) (by rw [Nat.blt_eq] at ht; omega)
  rw [h, k] at this
  exact this
theorem is_c {J : Keep} (L : LibI J) {q : Rat} {s : List UInt8} {b : Bool} (h : smQ q = true) (e : (qtext q == s) = b) : C J 122 [qr q, .str s] (.bool b) := by
  have := f122_ok L (q := q) (s := s) (by have := smQ_qln h; omega)
  rw [e] at this
  exact this
set_option maxHeartbeats 4000000 in
theorem f19_ok {J : Keep} (L : LibI J) : C J 19 [] (.bool true) := by
  refine fn_ok Tryz.func19 rfl rfl rfl ?_
  have a1 := parse_c L (s := [45, 49, 46, 50, 53, 48]) (q := -5 / 4) (e := 0) (by decide) (by decide +kernel)
  have a2 := parse_c L (s := [49, 53, 101, 45, 49]) (q := 3 / 2) (e := 0) (by decide) (by decide +kernel)
  have b1 := span_c L (s := [51, 49, 47, 49, 48]) (t := [51, 50, 47, 49, 48]) (p := 31 / 10) (q := 16 / 5) (e := 0) (f := 0) (by decide) (by decide) (by decide +kernel) (by decide +kernel)
  have b2 := span_c L (s := [51, 49, 52, 49, 47, 49, 48, 48, 48]) (t := [51, 49, 52, 51, 47, 49, 48, 48, 48]) (p := 3141 / 1000) (q := 3143 / 1000) (e := 0) (f := 0) (by decide) (by decide) (by decide +kernel) (by decide +kernel)
  have b3 := span_c L (s := [49]) (t := [50]) (p := 1) (q := 2) (e := 0) (f := 0) (by decide) (by decide) (by decide +kernel) (by decide +kernel)
  have b4 := span_c L (s := [45, 51]) (t := [49]) (p := -3) (q := 1) (e := 0) (f := 0) (by decide) (by decide) (by decide +kernel) (by decide +kernel)
  have z1 := smQ_qln (q := 31 / 10) (by decide +kernel)
  have z2 := smQ_qln (q := 16 / 5) (by decide +kernel)
  have z3 := smQ_qln (q := 3141 / 1000) (by decide +kernel)
  have z4 := smQ_qln (q := 3143 / 1000) (by decide +kernel)
  have z5 := smQ_qln (q := 1 / 3) (by decide +kernel)
  have z6 := smQ_qln (q := 1) (by decide +kernel)
  have z7 := smQ_qln (q := 2) (by decide +kernel)
  have z8 := smQ_qln (q := -3) (by decide +kernel)
  have z9 := smQ_qln (q := -6) (by decide +kernel)
  have c1 := f25_ok J (a := 31 / 10) (b := 16 / 5) (by omega) (by omega)
  have e1 : simpT (31 / 10) (16 / 5) = .tup [qr (16 / 5), .int .i64 0] := by
    unfold simpT
    rw [if_pos (by decide +kernel), show simpR (31 / 10) (16 / 5) = 16 / 5 by decide +kernel]
  rw [e1] at c1
  have c2 := f32_ok L (a := 3141 / 1000) (b := 3143 / 1000) (by omega) (by omega) 2
  have e2 : digR (3141 / 1000) (3143 / 1000) (intoN 2 100) = .tup [.str [51, 46, 49, 52], .bool true] := by
    unfold digR
    rw [if_pos (by decide +kernel), show digT (intoN 2 100) (nearI (3141 / 1000 * scaleQ (intoN 2 100))) = [51, 46, 49, 52] by decide +kernel]
  rw [e2] at c2
  have d1 := is_c L (q := -5 / 4) (s := [45, 53, 47, 52]) (b := true) (by decide +kernel) (by decide +kernel)
  have d2 := is_c L (q := 3 / 2) (s := [51, 47, 50]) (b := true) (by decide +kernel) (by decide +kernel)
  have d3 := is_c L (q := 16 / 5) (s := [49, 54, 47, 53]) (b := true) (by decide +kernel) (by decide +kernel)
  have d4 := of_c L (s := [49, 47, 51]) (q := 1 / 3) (e := 0) (by decide) (by decide +kernel)
  have d5 := f40_ok (base J) (q := 1 / 3) (by omega) 2
  rw [show (((1 / 3 * (((gk 2 : Nat) : Int) : Rat)).floor : Rat) * mkRat 1 (gk 2)) = (1 / 4 : Rat) by decide +kernel] at d5
  have d6 := f41_ok (base J) (q := 1 / 3) (by omega) 2
  rw [show (-((-(1 / 3 * (((gk 2 : Nat) : Int) : Rat))).floor : Rat) * mkRat 1 (gk 2)) = (1 / 2 : Rat) by decide +kernel] at d6
  have d7 := is_c L (q := 1 / 4) (s := [49, 47, 52]) (b := true) (by decide +kernel) (by decide +kernel)
  have d8 := is_c L (q := 1 / 2) (s := [49, 47, 50]) (b := true) (by decide +kernel) (by decide +kernel)
  have d9 := f100_ok (base J) (a := 1) (b := 2) (c := -3) (d := 1) (by omega) (by omega) (by omega) (by omega)
  rw [show minL (mulE 1 2 (-3) 1) = -6 by decide +kernel, show maxL (mulE 1 2 (-3) 1) = 2 by decide +kernel] at d9
  have d10 := f113_ok L (a := -6) (b := 2) (by omega) (by omega)
  have e10 : ([91] ++ qtext (-6) ++ [32] ++ qtext 2 ++ [93] == [91, 45, 54, 32, 50, 93]) = true := by decide +kernel
  clear z1 z2 z3 z4 z5 z6 z7 z8 z9 e1 e2
  repeat (first | (refine W.RS (by kernel_rfl) ?_; conv => whnf) | (refine W.ret ?_; conv => whnf) | (refine ⟨_, a1, ?_⟩; conv => whnf) | (refine ⟨_, a2, ?_⟩; conv => whnf) | (refine ⟨_, b1, ?_⟩; conv => whnf) | (refine ⟨_, b2, ?_⟩; conv => whnf) | (refine ⟨_, b3, ?_⟩; conv => whnf) | (refine ⟨_, b4, ?_⟩; conv => whnf) | (refine ⟨_, c1, ?_⟩; conv => whnf) | (refine ⟨_, c2, ?_⟩; conv => whnf) | (refine ⟨_, d1, ?_⟩; conv => whnf) | (refine ⟨_, d2, ?_⟩; conv => whnf) | (refine ⟨_, d3, ?_⟩; conv => whnf) | (refine ⟨_, d4, ?_⟩; conv => whnf) | (refine ⟨_, d5, ?_⟩; conv => whnf) | (refine ⟨_, d6, ?_⟩; conv => whnf) | (refine ⟨_, d7, ?_⟩; conv => whnf) | (refine ⟨_, d8, ?_⟩; conv => whnf) | (refine ⟨_, d9, ?_⟩; conv => whnf) | (refine ⟨_, d10, ?_⟩; conv => whnf) | (refine ⟨_, e10, ?_⟩; conv => whnf) | (refine ⟨true, decide_eq_true (by omega), ?_⟩; conv => whnf) | (refine ⟨_, rfl, ?_⟩; conv => whnf) | (refine ⟨rfl, ?_⟩; conv => whnf) | (refine ⟨_, fun _ => rfl, fun h => absurd h.symm Bool.false_ne_true, ?_⟩; conv => whnf))
  rfl
end Go.Proofs.Fl
namespace Go.Proofs.Fl
open Go.RowKit Go.Proofs.Dig
attribute [local irreducible] IntKind.wrap PureC MutC MakC IterC
theorem rl_down (q : Rat) (k : Int) : rl (((q * (((gk k : Nat) : Int) : Rat)).floor : Rat) * mkRat 1 (gk k)) ≤ rl q + 600 := by
  have h1 := rl_mul q (((gk k : Nat) : Int) : Rat)
  have h2 := rl_gk k
  have h3 := rl_floor (q := q * (((gk k : Nat) : Int) : Rat))
  have h4 := rl_fine k
  have h5 := rl_mul (((q * (((gk k : Nat) : Int) : Rat)).floor : Rat)) (mkRat 1 (gk k))
  have h6 : lh (q * (((gk k : Nat) : Int) : Rat)).num.natAbs ≤ rl (q * (((gk k : Nat) : Int) : Rat)) := by unfold rl; omega
  omega
theorem rl_up (q : Rat) (k : Int) : rl (-((-(q * (((gk k : Nat) : Int) : Rat))).floor : Rat) * mkRat 1 (gk k)) ≤ rl q + 600 := by
  have h1 := rl_mul q (((gk k : Nat) : Int) : Rat)
  have h2 := rl_gk k
  have h0 := rl_neg (q * (((gk k : Nat) : Int) : Rat))
  have h3 := rl_floor (q := -(q * (((gk k : Nat) : Int) : Rat)))
  have h4 := rl_fine k
  have h5 := rl_mul (-((-(q * (((gk k : Nat) : Int) : Rat))).floor : Rat)) (mkRat 1 (gk k))
  have h7 := rl_neg (((-(q * (((gk k : Nat) : Int) : Rat))).floor : Int) : Rat)
  have h6 : lh (-(q * (((gk k : Nat) : Int) : Rat))).num.natAbs ≤ rl (-(q * (((gk k : Nat) : Int) : Rat))) := by unfold rl; omega
  omega
theorem rl_round (q : Rat) (k : Int) : rl (((nearI (q * (((gk k : Nat) : Int) : Rat)) : Int) : Rat) * mkRat 1 (gk k)) ≤ rl q + 600 := by
  have h1 := rl_mul q (((gk k : Nat) : Int) : Rat)
  have h2 := rl_gk k
  have h3 := rl_near (q * (((gk k : Nat) : Int) : Rat))
  have h4 := rl_fine k
  have h5 := rl_mul ((nearI (q * (((gk k : Nat) : Int) : Rat)) : Int) : Rat) (mkRat 1 (gk k))
  have h6 : lh (q * (((gk k : Nat) : Int) : Rat)).num.natAbs ≤ rl (q * (((gk k : Nat) : Int) : Rat)) := by unfold rl; omega
  omega
theorem f23_t {J : Keep} (L : LibI J) {p : Rat} (hp : rl p < 2 ^ 34) : C J 23 [qr p, rr p] (.bool true) := by
  have := f23_ok L (DOk.rr p) (rl_lt_qln (N := 2 ^ 36) (q := p) (by omega)) hp
  rw [decide_eq_true rfl] at this
  exact this
theorem f44_t {J : Keep} (L : LibI J) {p q : Rat} (hp : rl p < 2 ^ 34) (hq : rl q < 2 ^ 34) : C J 44 [sd p q, sx (some p) (some q)] (.bool true) := by
  have := f44_ok L (a := p) (b := q) (p := p) (q := q) (rl_lt_qln (N := 2 ^ 36) (by omega)) (rl_lt_qln (N := 2 ^ 36) (by omega)) hp hq
  rw [decide_eq_true rfl, decide_eq_true rfl] at this
  exact this
set_option maxHeartbeats 4000000 in
theorem f7_ok {J : Keep} (L : LibI J) {n d : Int} {p : Nat} (h1 : -9223372036854775808 ≤ n) (h2 : n ≤ 9223372036854775807) (h3 : -9223372036854775808 ≤ d) (h4 : d ≤ 9223372036854775807) (k : Int) : C J 7 [numI n d p, .int .i64 k] (.bool true) := by
  refine fn_ok Tryz.func7 rfl rfl rfl ?_
  have c0 := f34_ok J (p := p) h1 h2 h3 h4
  have hb := rl_both (p := p) h1 h2 h3 h4
  obtain ⟨q, hq⟩ : ∃ q, bothN n d p = q := ⟨_, rfl⟩
  rw [hq] at c0 hb
  have lq := qln_rl q
  have r1 := rl_down q k
  have r2 := rl_up q k
  have r3 := rl_round q k
  have r4 := rl_fine k
  have c1 := f38_ok J (DOk.rr q) (by omega) k
  have c2 := f39_ok J (DOk.rr q) (by omega) k
  have c3 := f40_ok (base J) (q := q) (by omega) k
  have c4 := f41_ok (base J) (q := q) (by omega) k
  have c5 := f42_ok (base J) (a := q) (by omega) k
  have c6 := f43_ok J (DOk.rr q) (by omega) k
  have c7 := f45_ok (base J) (q := q) (by omega) k
  have c8 : C J 46 [.int .i64 k] (qr (mkRat 1 (gk k))) := f46_ok (base J) k
  have c9 := f47_ok J k
  obtain ⟨x1, hx1⟩ : ∃ x, (((q * (((gk k : Nat) : Int) : Rat)).floor : Rat) * mkRat 1 (gk k)) = x := ⟨_, rfl⟩
  obtain ⟨x2, hx2⟩ : ∃ x, (-((-(q * (((gk k : Nat) : Int) : Rat))).floor : Rat) * mkRat 1 (gk k)) = x := ⟨_, rfl⟩
  obtain ⟨x3, hx3⟩ : ∃ x, (((nearI (q * (((gk k : Nat) : Int) : Rat)) : Int) : Rat) * mkRat 1 (gk k)) = x := ⟨_, rfl⟩
  obtain ⟨x4, hx4⟩ : ∃ x, mkRat 1 (gk k) = x := ⟨_, rfl⟩
  rw [hx1] at c1 c3 r1
  rw [hx2] at c2 c4 r2
  rw [hx3] at c5 c6 r3
  rw [hx1, hx2] at c7
  rw [hx4] at c8 c9 r4
  have d1 := f23_t L (p := x1) (by omega)
  have d2 := f23_t L (p := x2) (by omega)
  have d3 := f23_t L (p := x3) (by omega)
  have d4 := f23_t L (p := x4) (by omega)
  have d5 := f44_t L (p := x1) (q := x2) (by omega) (by omega)
  have e1 := f19_ok L
  clear hq hx1 hx2 hx3 hx4
  repeat (first | (refine W.RS (by kernel_rfl) ?_; conv => whnf) | (refine W.ret ?_; conv => whnf) | (refine ⟨_, c0, ?_⟩; conv => whnf) | (refine ⟨_, c1, ?_⟩; conv => whnf) | (refine ⟨_, c2, ?_⟩; conv => whnf) | (refine ⟨_, c3, ?_⟩; conv => whnf) | (refine ⟨_, c4, ?_⟩; conv => whnf) | (refine ⟨_, c5, ?_⟩; conv => whnf) | (refine ⟨_, c6, ?_⟩; conv => whnf) | (refine ⟨_, c7, ?_⟩; conv => whnf) | (refine ⟨_, c8, ?_⟩; conv => whnf) | (refine ⟨_, c9, ?_⟩; conv => whnf) | (refine ⟨_, d1, ?_⟩; conv => whnf) | (refine ⟨_, d2, ?_⟩; conv => whnf) | (refine ⟨_, d3, ?_⟩; conv => whnf) | (refine ⟨_, d4, ?_⟩; conv => whnf) | (refine ⟨_, d5, ?_⟩; conv => whnf) | (refine ⟨_, e1, ?_⟩; conv => whnf) | (refine ⟨rfl, ?_⟩; conv => whnf) | (refine ⟨_, fun _ => rfl, fun h => absurd h.symm Bool.false_ne_true, ?_⟩; conv => whnf))
  rfl
end Go.Proofs.Fl
namespace Go.Proofs.Fl
open Go.RowKit Go.Proofs.Dig
attribute [local irreducible] IntKind.wrap PureC MutC MakC IterC
section
variable {J : Keep} {a b c : Rat}
theorem qr_lt {q : Rat} {N : Nat} (h : rl q < N) : qln q < N := Nat.lt_of_le_of_lt (qln_rl q) h
theorem addC (ha : rl a < 2 ^ 26) (hb : rl b < 2 ^ 26) : C J 48 [qr a, qr b] (qr (a + b)) := f48_ok (base J) (by have := qr_lt ha; omega) (by have := qr_lt hb; omega)
theorem mulC (ha : rl a < 2 ^ 26) (hb : rl b < 2 ^ 26) : C J 49 [qr a, qr b] (qr (a * b)) := f49_ok (base J) (by have := qr_lt ha; omega) (by have := qr_lt hb; omega)
theorem subC (ha : rl a < 2 ^ 26) (hb : rl b < 2 ^ 26) : C J 50 [qr a, qr b] (qr (a - b)) := f50_ok (base J) (by have := qr_lt ha; omega) (by have := qr_lt hb; omega)
theorem divC (ha : rl a < 2 ^ 26) (hb : rl b < 2 ^ 26) (h0 : b ≠ 0) : C J 52 [qr a, qr b] (.tup [qr (a / b), .int .i64 0]) := f52_ok (base J) (by have := qr_lt ha; omega) (by have := qr_lt hb; omega) h0
theorem powC (ha : rl a < 2 ^ 26) (k : Int) : C J 51 [qr a, .int .i64 k] (qr (a ^ (intoN k 1000))) := f51_ok (by have := qr_lt ha; omega) k
theorem cmpC (ha : rl a < 2 ^ 26) (hb : rl b < 2 ^ 26) : C J 37 [qr a, qr b] (.int .i64 (cmpR a b)) := f37_ok (by have := qr_lt ha; omega) (by have := qr_lt hb; omega)
theorem cmpC' {v : Int} (ha : rl a < 2 ^ 26) (hb : rl b < 2 ^ 26) (h : cmpR a b = v) : C J 37 [qr a, qr b] (.int .i64 v) := h ▸ cmpC ha hb
theorem sgnC' {v : Int} (h : cmpR a 0 = v) : C J 22 [qr a] (.int .i64 v) := by
  have := f22_ok J a
  rw [sign_cmp, h] at this
  exact this
theorem sameC (L : LibI J) (h : a = b) (ha : rl a < 2 ^ 26) : C J 36 [qr a, qr b] (.bool true) := by
  subst h
  have := f36_ok L (p := a) (q := a) (by have := qr_lt ha; omega) (by have := qr_lt ha; omega)
  rw [decide_eq_true rfl] at this
  exact this
theorem sameC' (L : LibI J) (ha : rl a < 2 ^ 26) (hb : rl b < 2 ^ 26) : C J 36 [qr a, qr b] (.bool (decide (a = b))) := f36_ok L (by have := qr_lt ha; omega) (by have := qr_lt hb; omega)
theorem rl_sub (a b : Rat) : rl (a - b) ≤ 2 * rl a + 2 * rl b + 1 := by
  have h := rl_add a (-b)
  rw [rl_neg, ← Rat.sub_eq_add_neg] at h
  exact h
end
theorem cmpR_same {a b c d : Rat} (h1 : a < b ↔ c < d) (h2 : b < a ↔ d < c) : cmpR a b = cmpR c d := by
  rcases cmpR_cases a b with ⟨p, e⟩ | ⟨p, e⟩ | ⟨p, e⟩ <;> rcases cmpR_cases c d with ⟨p', e'⟩ | ⟨p', e'⟩ | ⟨p', e'⟩ <;> (first | (rw [e, e']; done) | (exfalso; grind))
theorem cmpR_add (a b c : Rat) : cmpR (a + c) (b + c) = cmpR a b := cmpR_same (by grind) (by grind)
theorem cmpR_sub (a b : Rat) : cmpR (a - b) 0 = cmpR a b := cmpR_same (by grind) (by grind)
theorem cmpR_swap (a b : Rat) : cmpR b a = -cmpR a b := by
  rcases cmpR_cases a b with ⟨p, e⟩ | ⟨p, e⟩ | ⟨p, e⟩ <;> rcases cmpR_cases b a with ⟨p', e'⟩ | ⟨p', e'⟩ | ⟨p', e'⟩ <;> (first | omega | (exfalso; grind))
theorem sq_nonneg (a : Rat) : 0 ≤ a * a := by
  rcases Rat.le_total (a := 0) (b := a) with h | h
  · exact Rat.mul_nonneg h h
  · have := Rat.mul_nonneg (a := -a) (b := -a) (by grind) (by grind)
    grind
structure Num3 where
  n : Int
  d : Int
  p : Nat
def Num3.iv (x : Num3) : IV := numI x.n x.d x.p
def Num3.q (x : Num3) : Rat := bothN x.n x.d x.p
def Num3.ok (x : Num3) : Prop := (-9223372036854775808 ≤ x.n ∧ x.n ≤ 9223372036854775807) ∧ (-9223372036854775808 ≤ x.d ∧ x.d ≤ 9223372036854775807) ∧ x.p < 256
theorem bothC (J : Keep) {x : Num3} (h : x.ok) : C J 34 [x.iv] (.tup [qr x.q, rr x.q]) := f34_ok J h.1.1 h.1.2 h.2.1.1 h.2.1.2
theorem bothL {x : Num3} (h : x.ok) : rl x.q ≤ 52 := rl_both h.1.1 h.1.2 h.2.1.1 h.2.1.2
end Go.Proofs.Fl
namespace Go.Proofs.Fl
open Go.RowKit Go.Proofs.Dig
attribute [local irreducible] IntKind.wrap PureC MutC MakC IterC
structure Gap6 where
  lo : Num3
  hi : Num3
def Gap6.iv (g : Gap6) : IV := .agg [.int .i64 g.lo.n, .int .i64 g.lo.d, .int .u8 g.lo.p, .int .i64 g.hi.n, .int .i64 g.hi.d, .int .u8 g.hi.p]
def Gap6.ok (g : Gap6) : Prop := g.lo.ok ∧ g.hi.ok
theorem f24_ok (J : Keep) {g : Gap6} (h : g.ok) : C J 24 [g.iv] (.tup [sd g.lo.q g.hi.q, sx (some g.lo.q) (some g.hi.q)]) := by
  refine fn_ok Tryz.func24 rfl rfl rfl ?_
  have c1 := bothC J h.1
  have c2 := bothC J h.2
  unfold Num3.iv at c1 c2
  unfold Gap6.iv
  obtain ⟨a, ha⟩ : ∃ a, g.lo.q = a := ⟨_, rfl⟩
  obtain ⟨b, hb⟩ : ∃ b, g.hi.q = b := ⟨_, rfl⟩
  rw [ha] at c1 ⊢
  rw [hb] at c2 ⊢
  repeat (first | (refine W.RS (by kernel_rfl) ?_; conv => whnf) | (refine W.ret ?_; conv => whnf) | (refine ⟨_, c1, ?_⟩; conv => whnf) | (refine ⟨_, c2, ?_⟩; conv => whnf) | (refine ⟨rfl, ?_⟩; conv => whnf))
  rfl
end Go.Proofs.Fl
namespace Go.Proofs.Fl
open Go.RowKit Go.ChangeShapes Go.WideShapes Go.Deep
attribute [local irreducible] IntKind.wrap PureC MutC MakC IterC
set_option maxRecDepth 100000
theorem laidOut' : laidOutB YtdheblnjmnlpfaaGreatDoor.Tryz.pinned.checked.prog = true := by kernel_rfl
theorem rowed' : mapsRowed YtdheblnjmnlpfaaGreatDoor.Tryz.pinned.checked.prog = true := by kernel_rfl
section
variable {H : Type} {enc : TypeId × Value → H} {P : Program} {w : World} {base : Nat} {spare : Nat → Bool} {held : Bool}
theorem args_open0 {args : Array Value} {ds : List (DataW H)} {ps : List MemPlace} (h : DataW.TrodAll enc P w base spare held [] args.toList ds ps) : args = #[] := by
  obtain ⟨h1, _, _⟩ := trodAll_nil h
  exact Array.toList_inj.1 h1
theorem args_open1 {t : TypeId} {args : Array Value} {ds : List (DataW H)} {ps : List MemPlace} (h : DataW.TrodAll enc P w base spare held [t] args.toList ds ps) :
    ∃ v d, (∃ p, DataW.Trod enc P w base spare held t v d p) ∧ args = #[v] := by
  obtain ⟨v, vs, d, ds', p, q, hargs, rfl, rfl, hd, hrest⟩ := trodAll_cons h
  obtain ⟨rfl, rfl, rfl⟩ := trodAll_nil hrest
  exact ⟨v, d, ⟨p, hd⟩, Array.toList_inj.1 hargs⟩
theorem args_open2 {t0 t1 : TypeId} {args : Array Value} {ds : List (DataW H)} {ps : List MemPlace} (h : DataW.TrodAll enc P w base spare held [t0, t1] args.toList ds ps) :
    ∃ v0 v1 d0 d1, (∃ p, DataW.Trod enc P w base spare held t0 v0 d0 p) ∧ (∃ p, DataW.Trod enc P w base spare held t1 v1 d1 p) ∧ args = #[v0, v1] := by
  obtain ⟨v0, vs, d0, ds', p0, q, hargs, rfl, rfl, h0, h⟩ := trodAll_cons h
  obtain ⟨v1, vs, d1, ds', p1, q, rfl, rfl, rfl, h1, h⟩ := trodAll_cons h
  obtain ⟨rfl, rfl, rfl⟩ := trodAll_nil h
  exact ⟨v0, v1, d0, d1, ⟨_, h0⟩, ⟨_, h1⟩, Array.toList_inj.1 hargs⟩
theorem args_open3 {t0 t1 t2 : TypeId} {args : Array Value} {ds : List (DataW H)} {ps : List MemPlace} (h : DataW.TrodAll enc P w base spare held [t0, t1, t2] args.toList ds ps) :
    ∃ v0 v1 v2 d0 d1 d2, (∃ p, DataW.Trod enc P w base spare held t0 v0 d0 p) ∧ (∃ p, DataW.Trod enc P w base spare held t1 v1 d1 p) ∧ (∃ p, DataW.Trod enc P w base spare held t2 v2 d2 p) ∧ args = #[v0, v1, v2] := by
  obtain ⟨v0, vs, d0, ds', p0, q, hargs, rfl, rfl, h0, h⟩ := trodAll_cons h
  obtain ⟨v1, vs, d1, ds', p1, q, rfl, rfl, rfl, h1, h⟩ := trodAll_cons h
  obtain ⟨v2, vs, d2, ds', p2, q, rfl, rfl, rfl, h2, h⟩ := trodAll_cons h
  obtain ⟨rfl, rfl, rfl⟩ := trodAll_nil h
  exact ⟨v0, v1, v2, d0, d1, d2, ⟨_, h0⟩, ⟨_, h1⟩, ⟨_, h2⟩, Array.toList_inj.1 hargs⟩
theorem args_open4 {t0 t1 t2 t3 : TypeId} {args : Array Value} {ds : List (DataW H)} {ps : List MemPlace} (h : DataW.TrodAll enc P w base spare held [t0, t1, t2, t3] args.toList ds ps) :
    ∃ v0 v1 v2 v3 d0 d1 d2 d3, (∃ p, DataW.Trod enc P w base spare held t0 v0 d0 p) ∧ (∃ p, DataW.Trod enc P w base spare held t1 v1 d1 p) ∧ (∃ p, DataW.Trod enc P w base spare held t2 v2 d2 p) ∧ (∃ p, DataW.Trod enc P w base spare held t3 v3 d3 p) ∧ args = #[v0, v1, v2, v3] := by
  obtain ⟨v0, vs, d0, ds', p0, q, hargs, rfl, rfl, h0, h⟩ := trodAll_cons h
  obtain ⟨v1, vs, d1, ds', p1, q, rfl, rfl, rfl, h1, h⟩ := trodAll_cons h
  obtain ⟨v2, vs, d2, ds', p2, q, rfl, rfl, rfl, h2, h⟩ := trodAll_cons h
  obtain ⟨v3, vs, d3, ds', p3, q, rfl, rfl, rfl, h3, h⟩ := trodAll_cons h
  obtain ⟨rfl, rfl, rfl⟩ := trodAll_nil h
  exact ⟨v0, v1, v2, v3, d0, d1, d2, d3, ⟨_, h0⟩, ⟨_, h1⟩, ⟨_, h2⟩, ⟨_, h3⟩, Array.toList_inj.1 hargs⟩
theorem args_open5 {t0 t1 t2 t3 t4 : TypeId} {args : Array Value} {ds : List (DataW H)} {ps : List MemPlace} (h : DataW.TrodAll enc P w base spare held [t0, t1, t2, t3, t4] args.toList ds ps) :
    ∃ v0 v1 v2 v3 v4 d0 d1 d2 d3 d4, (∃ p, DataW.Trod enc P w base spare held t0 v0 d0 p) ∧ (∃ p, DataW.Trod enc P w base spare held t1 v1 d1 p) ∧ (∃ p, DataW.Trod enc P w base spare held t2 v2 d2 p) ∧ (∃ p, DataW.Trod enc P w base spare held t3 v3 d3 p) ∧ (∃ p, DataW.Trod enc P w base spare held t4 v4 d4 p) ∧ args = #[v0, v1, v2, v3, v4] := by
  obtain ⟨v0, vs, d0, ds', p0, q, hargs, rfl, rfl, h0, h⟩ := trodAll_cons h
  obtain ⟨v1, vs, d1, ds', p1, q, rfl, rfl, rfl, h1, h⟩ := trodAll_cons h
  obtain ⟨v2, vs, d2, ds', p2, q, rfl, rfl, rfl, h2, h⟩ := trodAll_cons h
  obtain ⟨v3, vs, d3, ds', p3, q, rfl, rfl, rfl, h3, h⟩ := trodAll_cons h
  obtain ⟨v4, vs, d4, ds', p4, q, rfl, rfl, rfl, h4, h⟩ := trodAll_cons h
  obtain ⟨rfl, rfl, rfl⟩ := trodAll_nil h
  exact ⟨v0, v1, v2, v3, v4, d0, d1, d2, d3, d4, ⟨_, h0⟩, ⟨_, h1⟩, ⟨_, h2⟩, ⟨_, h3⟩, ⟨_, h4⟩, Array.toList_inj.1 hargs⟩
theorem args_open6 {t0 t1 t2 t3 t4 t5 : TypeId} {args : Array Value} {ds : List (DataW H)} {ps : List MemPlace} (h : DataW.TrodAll enc P w base spare held [t0, t1, t2, t3, t4, t5] args.toList ds ps) :
    ∃ v0 v1 v2 v3 v4 v5 d0 d1 d2 d3 d4 d5, (∃ p, DataW.Trod enc P w base spare held t0 v0 d0 p) ∧ (∃ p, DataW.Trod enc P w base spare held t1 v1 d1 p) ∧ (∃ p, DataW.Trod enc P w base spare held t2 v2 d2 p) ∧ (∃ p, DataW.Trod enc P w base spare held t3 v3 d3 p) ∧ (∃ p, DataW.Trod enc P w base spare held t4 v4 d4 p) ∧ (∃ p, DataW.Trod enc P w base spare held t5 v5 d5 p) ∧ args = #[v0, v1, v2, v3, v4, v5] := by
  obtain ⟨v0, vs, d0, ds', p0, q, hargs, rfl, rfl, h0, h⟩ := trodAll_cons h
  obtain ⟨v1, vs, d1, ds', p1, q, rfl, rfl, rfl, h1, h⟩ := trodAll_cons h
  obtain ⟨v2, vs, d2, ds', p2, q, rfl, rfl, rfl, h2, h⟩ := trodAll_cons h
  obtain ⟨v3, vs, d3, ds', p3, q, rfl, rfl, rfl, h3, h⟩ := trodAll_cons h
  obtain ⟨v4, vs, d4, ds', p4, q, rfl, rfl, rfl, h4, h⟩ := trodAll_cons h
  obtain ⟨v5, vs, d5, ds', p5, q, rfl, rfl, rfl, h5, h⟩ := trodAll_cons h
  obtain ⟨rfl, rfl, rfl⟩ := trodAll_nil h
  exact ⟨v0, v1, v2, v3, v4, v5, d0, d1, d2, d3, d4, d5, ⟨_, h0⟩, ⟨_, h1⟩, ⟨_, h2⟩, ⟨_, h3⟩, ⟨_, h4⟩, ⟨_, h5⟩, Array.toList_inj.1 hargs⟩
end
section
variable {H : Type} {enc : TypeId × Value → H} {w : World} {base : Nat} {spare : Nat → Bool} {held : Bool} {r : Reach} {b0 : Nat} {v : Value} {d : DataW H}
theorem num_arg3 (hv : Value.okWide Tryz.prog w r b0 45 v) (h : ∃ p, DataW.Trod enc Tryz.prog w base spare held 45 v d p) : ∃ x : Num3, v = .agg #[.int .i64 x.n, .int .i64 x.d, .int .u8 (x.p : Int)] ∧ x.ok := by
  obtain ⟨p, h⟩ := h
  obtain ⟨n, d, p, e, h1, h2, h3⟩ := num_arg hv h
  exact ⟨⟨n, d, p⟩, e, h1, h2, h3⟩
theorem gap_arg (hv : Value.okWide Tryz.prog w r b0 47 v) (h : ∃ p, DataW.Trod enc Tryz.prog w base spare held 47 v d p) :
    ∃ x : Gap6, v = .agg #[.int .i64 x.lo.n, .int .i64 x.lo.d, .int .u8 (x.lo.p : Int), .int .i64 x.hi.n, .int .i64 x.hi.d, .int .u8 (x.hi.p : Int)] ∧ x.ok := by
  obtain ⟨p, h⟩ := h
  obtain ⟨cs, rfl, hsz⟩ := okWide_struct Tryz.underlying47 hv
  obtain ⟨fuel, hf⟩ := h
  obtain ⟨y0, y1, m, _, hl, h0, h1⟩ := trod_struct2 Tryz.underlying47 hf
  dsimp only at h0 h1
  rw [show Tryz.prog.cellsOf 45 = 3 by kernel_rfl] at h0 h1
  rw [show Tryz.prog.cellsOf 47 = 6 by kernel_rfl] at hl
  obtain ⟨n1, d1, p1, e1, a1, a2, a3⟩ := num_cells h0
  obtain ⟨n2, d2, p2, e2, b1, b2, b3⟩ := num_cells h1
  have hcs : cs.toList.length = 6 := hl
  have e : cs.toList = [.int .i64 n1, .int .i64 d1, .int .u8 (p1 : Int), .int .i64 n2, .int .i64 d2, .int .u8 (p2 : Int)] := by
    have e1' : cs.toList.take 3 = _ := e1
    have e2' : (cs.toList.drop 3).take 3 = _ := e2
    rw [List.take_of_length_le (by rw [List.length_drop, hcs]; omega)] at e2'
    rw [← List.take_append_drop 3 cs.toList, e1', e2']
    rfl
  refine ⟨⟨⟨n1, d1, p1⟩, ⟨n2, d2, p2⟩⟩, ?_, ⟨a1, a2, a3⟩, b1, b2, b3⟩
  show Value.agg cs = Value.agg #[_, _, _, _, _, _]
  rw [← Array.toList_inj.1 (show cs.toList = (#[_, _, _, _, _, _] : Array Value).toList from e)]
theorem gap_vr {Hp : Heap} {x : Gap6} : VR Hp (.agg #[.int .i64 x.lo.n, .int .i64 x.lo.d, .int .u8 (x.lo.p : Int), .int .i64 x.hi.n, .int .i64 x.hi.d, .int .u8 (x.hi.p : Int)]) x.iv :=
  VR.agg [.int .i64 x.lo.n, .int .i64 x.lo.d, .int .u8 (x.lo.p : Int), .int .i64 x.hi.n, .int .i64 x.hi.d, .int .u8 (x.hi.p : Int)] _
    (.cons _ _ _ _ (.int _ _) (.cons _ _ _ _ (.int _ _) (.cons _ _ _ _ (.int _ _) (.cons _ _ _ _ (.int _ _) (.cons _ _ _ _ (.int _ _) (.cons _ _ _ _ (.int _ _) .nil)))))) (by intro v hv; simp at hv; rcases hv with rfl | rfl | rfl | rfl | rfl | rfl <;> rfl)
end
end Go.Proofs.Fl
