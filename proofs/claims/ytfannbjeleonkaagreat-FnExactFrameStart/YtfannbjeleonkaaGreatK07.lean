/- Part 8 of what the proofs lean on: what the functions of the program and of the reference compute. Conditions: none. -/
import Derived.Test.YtfannbjeleonkaaGreatK06
set_option linter.all false
set_option linter.unusedVariables false
set_option linter.unusedSimpArgs false
set_option maxHeartbeats 2000000
set_option maxRecDepth 100000
namespace Go.Proofs
open Go Go.Ev


theorem cb_laws_markFieldS : Callable Tryz.prog 41 := ⟨_, Tryz.func41, by kernel_rfl, by kernel_rfl⟩
theorem ct_laws_markFieldS {l : List Fld} {k : Nat} (hl : l.length ≤ 1099511627776) (hk : k ≤ 1099511627776) : Ct Tryz.prog 41 [.arr 0 0 l.length, .int .i64 k] [some (3, l.map eF)] (.int .i64 ((k + 3 * l.length : Nat) : Int)) [some (3, (mks mkF 3 k l.length).map eF)] := by
  refine Ct_bodyS tok Tryz.func41 rfl 38 (by kernel_rfl) (by kernel_rfl) fun X hX => ?_
  refine jq [0, 1] ?_
  refine W_seq (jq [0, 1, 5] ?_)
  refine W_block (W_loopU (α := Nat × Nat) [0, 1, 5] (fun p => [(1, .int .i64 (p.2 : Nat)), (5, .int .i64 (p.1 : Nat))]) (fun p => [(0, some (3, (mks mkF 3 k p.1).map eF ++ (l.map eF).drop p.1))]) (fun p => p.1 ≤ l.length ∧ p.2 = k + 3 * p.1) (fun p => l.length - p.1) ((0, k)) (fun p => by simp; rfl) (by simp [mks]) ?_ ?_)
  · simp
  rintro ⟨i, q⟩ ⟨hi, hq⟩
  simp only at hi hq
  obtain ⟨q1, e1⟩ : ∃ x, x = q + 1 := ⟨_, rfl⟩
  have w1 : IntKind.i64.wrap ((q : Int) + 1) = (q1 : Int) := by rw [wrap_i64 (by omega) (by omega)]; omega
  obtain ⟨q2, e2⟩ : ∃ x, x = q1 + 1 := ⟨_, rfl⟩
  have w2 : IntKind.i64.wrap ((q1 : Int) + 1) = (q2 : Int) := by rw [wrap_i64 (by omega) (by omega)]; omega
  obtain ⟨q3, e3⟩ : ∃ x, x = q2 + 1 := ⟨_, rfl⟩
  have w3 : IntKind.i64.wrap ((q2 : Int) + 1) = (q3 : Int) := by rw [wrap_i64 (by omega) (by omega)]; omega
  have v2 := mod3 q2
  refine W_seq (W_rseqK [0, 1, 5, 9] (jh hX (by simp [w1, w2, w3, v2]; rfl)) ?_)
  refine jd (fun h2 => ?_) (fun h2 => ?_)
  · try simp at h2
    rw [List.drop_eq_getElem_cons (show i < (l.map eF).length by simpa using h2), List.getElem_map]
    generalize hZ : (l.map eF).drop (i + 1) = Z
    obtain ⟨Y, hY⟩ : ∃ Y, Y = (mks mkF 3 k i).map eF := ⟨_, rfl⟩
    rw [← hY]
    have hYl : Y.length = i := by simp [hY, mks_len]
    have m1 := fun x => midG hYl x Z
    have m2 := fun x y => midS hYl x y Z
    have hnext : (mks mkF 3 k (i + 1)).map eF ++ (l.map eF).drop (i + 1) = Y ++ .agg [.str (mText q), .str (mText q1), .bool (decide (q2 % 3 = 0))] :: Z := by
      rw [mks_succ, ← hq, hZ, hY]
      simp [mkF, e1, e2, e3]
      try omega
    refine W_skip (W_seq (W_block (W_rseqK [0, 1, 5] (js hX 3 (by simp [w1, w2, w3, v2, h2, m1, m2, hYl]; rfl) (jc [] (c:=(by apply ct_laws_markText <;> first | omega | assumption)) (a:=cb_laws_markText) (k:=(jh hX (by simp [w1, w2, w3, v2, h2, m1, m2, hYl]; rfl))))) ?_)))
    refine W_rseqK [0, 1, 5] (jh hX (by simp [w1, w2, w3, v2, h2, m1, m2, hYl]; (try (simp (disch := omega) only [wrap_i64]; (try simp [w1, w2, w3, v2, h2, m1, m2, hYl]))); rfl)) ?_
    refine W_rseqK [0, 1, 5] (js hX 3 (by simp [w1, w2, w3, v2, h2, m1, m2, hYl]; rfl) (jc [] (c:=(by apply ct_laws_markText <;> first | omega | assumption)) (a:=cb_laws_markText) (k:=(jh hX (by simp [w1, w2, w3, v2, h2, m1, m2, hYl]; rfl))))) ?_
    refine W_rseqK [0, 1, 5] (jh hX (by simp [w1, w2, w3, v2, h2, m1, m2, hYl]; (try (simp (disch := omega) only [wrap_i64]; (try simp [w1, w2, w3, v2, h2, m1, m2, hYl]))); rfl)) ?_
    refine W_rseqK [0, 1, 5] (jh hX (by simp [w1, w2, w3, v2, h2, m1, m2, hYl]; rfl)) ?_
    refine W_reg (jh hX (by simp [w1, w2, w3, v2, h2, m1, m2, hYl]; (try (simp (disch := omega) only [wrap_i64]; (try simp [w1, w2, w3, v2, h2, m1, m2, hYl]))); rfl)) ?_
    refine W_reg (jh hX (by simp [w1, w2, w3, v2, h2, m1, m2, hYl]; (try (simp (disch := omega) only [wrap_i64]; (try simp [w1, w2, w3, v2, h2, m1, m2, hYl]))); rfl)) ?_
    refine round_end ((i + 1, q3)) [0, 1, 5] (by simp [hnext, w1, w2, w3]; try (simp (disch := omega) only [wrap_i64]); try omega) ?_ ?_
    · exact ⟨by simp only; omega, by simp only; omega⟩
    · simp only; omega
  · try simp at h2
    have hil : i = l.length := by omega
    subst hil
    rw [List.drop_eq_nil_of_le (by simp), List.append_nil]
    refine W_exit (W_rseqK [4] (jh hX (by simp [w1, w2, w3, v2, h2]; rfl)) ?_)
    refine W_ret (W_retR2 (by simp [w1, w2, w3, v2, h2]; rfl) (by rfl) (.of_eq ?_) ?_)
    all_goals clear hX
    · skip
      simp; omega
    · skip
      simp
end Go.Proofs
namespace Go.Proofs
open Go Go.Ev


theorem cb_laws_markInsS : Callable Tryz.prog 136 := ⟨_, Tryz.func136, by kernel_rfl, by kernel_rfl⟩
theorem ct_laws_markInsS {l : List Ins} {k : Nat} (hl : l.length ≤ 1099511627776) (hk : k ≤ 1099511627776) : Ct Tryz.prog 136 [.arr 0 0 l.length, .int .i64 k] [some (5, l.map eI)] (.int .i64 ((k + 5 * l.length : Nat) : Int)) [some (5, (mks mkI 5 k l.length).map eI)] := by
  refine Ct_bodyS tok Tryz.func136 rfl 51 (by kernel_rfl) (by kernel_rfl) fun X hX => ?_
  refine jq [0, 1] ?_
  refine W_seq (jq [0, 1, 5] ?_)
  refine W_block (W_loopU (α := Nat × Nat) [0, 1, 5] (fun p => [(1, .int .i64 (p.2 : Nat)), (5, .int .i64 (p.1 : Nat))]) (fun p => [(0, some (5, (mks mkI 5 k p.1).map eI ++ (l.map eI).drop p.1))]) (fun p => p.1 ≤ l.length ∧ p.2 = k + 5 * p.1) (fun p => l.length - p.1) ((0, k)) (fun p => by simp; rfl) (by simp [mks]) ?_ ?_)
  · simp
  rintro ⟨i, q⟩ ⟨hi, hq⟩
  simp only at hi hq
  obtain ⟨q1, e1⟩ : ∃ x, x = q + 1 := ⟨_, rfl⟩
  have w1 : IntKind.i64.wrap ((q : Int) + 1) = (q1 : Int) := by rw [wrap_i64 (by omega) (by omega)]; omega
  obtain ⟨q2, e2⟩ : ∃ x, x = q1 + 1 := ⟨_, rfl⟩
  have w2 : IntKind.i64.wrap ((q1 : Int) + 1) = (q2 : Int) := by rw [wrap_i64 (by omega) (by omega)]; omega
  obtain ⟨q3, e3⟩ : ∃ x, x = q2 + 1 := ⟨_, rfl⟩
  have w3 : IntKind.i64.wrap ((q2 : Int) + 1) = (q3 : Int) := by rw [wrap_i64 (by omega) (by omega)]; omega
  obtain ⟨q4, e4⟩ : ∃ x, x = q3 + 1 := ⟨_, rfl⟩
  have w4 : IntKind.i64.wrap ((q3 : Int) + 1) = (q4 : Int) := by rw [wrap_i64 (by omega) (by omega)]; omega
  obtain ⟨q5, e5⟩ : ∃ x, x = q4 + 1 := ⟨_, rfl⟩
  have w5 : IntKind.i64.wrap ((q4 : Int) + 1) = (q5 : Int) := by rw [wrap_i64 (by omega) (by omega)]; omega
  refine W_seq (W_rseqK [0, 1, 5, 9] (jh hX (by simp [w1, w2, w3, w4, w5]; rfl)) ?_)
  refine jd (fun h2 => ?_) (fun h2 => ?_)
  · try simp at h2
    rw [List.drop_eq_getElem_cons (show i < (l.map eI).length by simpa using h2), List.getElem_map]
    generalize hZ : (l.map eI).drop (i + 1) = Z
    obtain ⟨Y, hY⟩ : ∃ Y, Y = (mks mkI 5 k i).map eI := ⟨_, rfl⟩
    rw [← hY]
    have hYl : Y.length = i := by simp [hY, mks_len]
    have m1 := fun x => midG hYl x Z
    have m2 := fun x y => midS hYl x y Z
    have hnext : (mks mkI 5 k (i + 1)).map eI ++ (l.map eI).drop (i + 1) = Y ++ .agg [.int .i64 (q : Nat), .int .i64 (q1 : Nat), .str (mText q2), .str (mText q3), .str (mText q4)] :: Z := by
      rw [mks_succ, ← hq, hZ, hY]
      simp [mkI, e1, e2, e3, e4, e5]
      try omega
    refine W_skip (W_seq (W_block (W_rseqK [0, 1, 5] (jh hX (by simp [w1, w2, w3, w4, w5, h2, m1, m2, hYl]; rfl)) ?_)))
    refine W_rseqK [0, 1, 5] (jh hX (by simp [w1, w2, w3, w4, w5, h2, m1, m2, hYl]; (try (simp (disch := omega) only [wrap_i64]; (try simp [w1, w2, w3, w4, w5, h2, m1, m2, hYl]))); rfl)) ?_
    refine W_rseqK [0, 1, 5] (jh hX (by simp [w1, w2, w3, w4, w5, h2, m1, m2, hYl]; rfl)) ?_
    refine W_rseqK [0, 1, 5] (jh hX (by simp [w1, w2, w3, w4, w5, h2, m1, m2, hYl]; (try (simp (disch := omega) only [wrap_i64]; (try simp [w1, w2, w3, w4, w5, h2, m1, m2, hYl]))); rfl)) ?_
    refine W_rseqK [0, 1, 5] (js hX 3 (by simp [w1, w2, w3, w4, w5, h2, m1, m2, hYl]; rfl) (jc [] (c:=(by apply ct_laws_markText <;> first | omega | assumption)) (a:=cb_laws_markText) (k:=(jh hX (by simp [w1, w2, w3, w4, w5, h2, m1, m2, hYl]; rfl))))) ?_
    refine W_rseqK [0, 1, 5] (jh hX (by simp [w1, w2, w3, w4, w5, h2, m1, m2, hYl]; (try (simp (disch := omega) only [wrap_i64]; (try simp [w1, w2, w3, w4, w5, h2, m1, m2, hYl]))); rfl)) ?_
    refine W_rseqK [0, 1, 5] (js hX 3 (by simp [w1, w2, w3, w4, w5, h2, m1, m2, hYl]; rfl) (jc [] (c:=(by apply ct_laws_markText <;> first | omega | assumption)) (a:=cb_laws_markText) (k:=(jh hX (by simp [w1, w2, w3, w4, w5, h2, m1, m2, hYl]; rfl))))) ?_
    refine W_rseqK [0, 1, 5] (jh hX (by simp [w1, w2, w3, w4, w5, h2, m1, m2, hYl]; (try (simp (disch := omega) only [wrap_i64]; (try simp [w1, w2, w3, w4, w5, h2, m1, m2, hYl]))); rfl)) ?_
    refine W_rseqK [0, 1, 5] (js hX 3 (by simp [w1, w2, w3, w4, w5, h2, m1, m2, hYl]; rfl) (jc [] (c:=(by apply ct_laws_markText <;> first | omega | assumption)) (a:=cb_laws_markText) (k:=(jh hX (by simp [w1, w2, w3, w4, w5, h2, m1, m2, hYl]; rfl))))) ?_
    refine W_reg (jh hX (by simp [w1, w2, w3, w4, w5, h2, m1, m2, hYl]; (try (simp (disch := omega) only [wrap_i64]; (try simp [w1, w2, w3, w4, w5, h2, m1, m2, hYl]))); rfl)) ?_
    refine W_reg (jh hX (by simp [w1, w2, w3, w4, w5, h2, m1, m2, hYl]; (try (simp (disch := omega) only [wrap_i64]; (try simp [w1, w2, w3, w4, w5, h2, m1, m2, hYl]))); rfl)) ?_
    refine round_end ((i + 1, q5)) [0, 1, 5] (by simp [hnext, w1, w2, w3, w4, w5]; try (simp (disch := omega) only [wrap_i64]); try omega) ?_ ?_
    · exact ⟨by simp only; omega, by simp only; omega⟩
    · simp only; omega
  · try simp at h2
    have hil : i = l.length := by omega
    subst hil
    rw [List.drop_eq_nil_of_le (by simp), List.append_nil]
    refine W_exit (W_rseqK [4] (jh hX (by simp [w1, w2, w3, w4, w5, h2]; rfl)) ?_)
    refine W_ret (W_retR2 (by simp [w1, w2, w3, w4, w5, h2]; rfl) (by rfl) (.of_eq ?_) ?_)
    all_goals clear hX
    · skip
      simp; omega
    · skip
      simp
end Go.Proofs
namespace Go.Proofs
open Go Go.Ev


theorem cb_laws_markHandlerS : Callable Tryz.prog 137 := ⟨_, Tryz.func137, by kernel_rfl, by kernel_rfl⟩
theorem ct_laws_markHandlerS {l : List Hdl} {k : Nat} (hl : l.length ≤ 1099511627776) (hk : k ≤ 1099511627776) : Ct Tryz.prog 137 [.arr 0 0 l.length, .int .i64 k] [some (4, l.map eH)] (.int .i64 ((k + 4 * l.length : Nat) : Int)) [some (4, (mks mkH 4 k l.length).map eH)] := by
  refine Ct_bodyS tok Tryz.func137 rfl 42 (by kernel_rfl) (by kernel_rfl) fun X hX => ?_
  refine jq [0, 1] ?_
  refine W_seq (jq [0, 1, 5] ?_)
  refine W_block (W_loopU (α := Nat × Nat) [0, 1, 5] (fun p => [(1, .int .i64 (p.2 : Nat)), (5, .int .i64 (p.1 : Nat))]) (fun p => [(0, some (4, (mks mkH 4 k p.1).map eH ++ (l.map eH).drop p.1))]) (fun p => p.1 ≤ l.length ∧ p.2 = k + 4 * p.1) (fun p => l.length - p.1) ((0, k)) (fun p => by simp; rfl) (by simp [mks]) ?_ ?_)
  · simp
  rintro ⟨i, q⟩ ⟨hi, hq⟩
  simp only at hi hq
  obtain ⟨q1, e1⟩ : ∃ x, x = q + 1 := ⟨_, rfl⟩
  have w1 : IntKind.i64.wrap ((q : Int) + 1) = (q1 : Int) := by rw [wrap_i64 (by omega) (by omega)]; omega
  obtain ⟨q2, e2⟩ : ∃ x, x = q1 + 1 := ⟨_, rfl⟩
  have w2 : IntKind.i64.wrap ((q1 : Int) + 1) = (q2 : Int) := by rw [wrap_i64 (by omega) (by omega)]; omega
  obtain ⟨q3, e3⟩ : ∃ x, x = q2 + 1 := ⟨_, rfl⟩
  have w3 : IntKind.i64.wrap ((q2 : Int) + 1) = (q3 : Int) := by rw [wrap_i64 (by omega) (by omega)]; omega
  obtain ⟨q4, e4⟩ : ∃ x, x = q3 + 1 := ⟨_, rfl⟩
  have w4 : IntKind.i64.wrap ((q3 : Int) + 1) = (q4 : Int) := by rw [wrap_i64 (by omega) (by omega)]; omega
  refine W_seq (W_rseqK [0, 1, 5, 9] (jh hX (by simp [w1, w2, w3, w4]; rfl)) ?_)
  refine jd (fun h2 => ?_) (fun h2 => ?_)
  · try simp at h2
    rw [List.drop_eq_getElem_cons (show i < (l.map eH).length by simpa using h2), List.getElem_map]
    generalize hZ : (l.map eH).drop (i + 1) = Z
    obtain ⟨Y, hY⟩ : ∃ Y, Y = (mks mkH 4 k i).map eH := ⟨_, rfl⟩
    rw [← hY]
    have hYl : Y.length = i := by simp [hY, mks_len]
    have m1 := fun x => midG hYl x Z
    have m2 := fun x y => midS hYl x y Z
    have hnext : (mks mkH 4 k (i + 1)).map eH ++ (l.map eH).drop (i + 1) = Y ++ .agg [.int .i64 (q : Nat), .int .i64 (q1 : Nat), .int .i64 (q2 : Nat), .str (mText q3)] :: Z := by
      rw [mks_succ, ← hq, hZ, hY]
      simp [mkH, e1, e2, e3, e4]
      try omega
    refine W_skip (W_seq (W_block (W_rseqK [0, 1, 5] (jh hX (by simp [w1, w2, w3, w4, h2, m1, m2, hYl]; rfl)) ?_)))
    refine W_rseqK [0, 1, 5] (jh hX (by simp [w1, w2, w3, w4, h2, m1, m2, hYl]; (try (simp (disch := omega) only [wrap_i64]; (try simp [w1, w2, w3, w4, h2, m1, m2, hYl]))); rfl)) ?_
    refine W_rseqK [0, 1, 5] (jh hX (by simp [w1, w2, w3, w4, h2, m1, m2, hYl]; rfl)) ?_
    refine W_rseqK [0, 1, 5] (jh hX (by simp [w1, w2, w3, w4, h2, m1, m2, hYl]; (try (simp (disch := omega) only [wrap_i64]; (try simp [w1, w2, w3, w4, h2, m1, m2, hYl]))); rfl)) ?_
    refine W_rseqK [0, 1, 5] (jh hX (by simp [w1, w2, w3, w4, h2, m1, m2, hYl]; rfl)) ?_
    refine W_rseqK [0, 1, 5] (jh hX (by simp [w1, w2, w3, w4, h2, m1, m2, hYl]; (try (simp (disch := omega) only [wrap_i64]; (try simp [w1, w2, w3, w4, h2, m1, m2, hYl]))); rfl)) ?_
    refine W_rseqK [0, 1, 5] (js hX 3 (by simp [w1, w2, w3, w4, h2, m1, m2, hYl]; rfl) (jc [] (c:=(by apply ct_laws_markText <;> first | omega | assumption)) (a:=cb_laws_markText) (k:=(jh hX (by simp [w1, w2, w3, w4, h2, m1, m2, hYl]; rfl))))) ?_
    refine W_reg (jh hX (by simp [w1, w2, w3, w4, h2, m1, m2, hYl]; (try (simp (disch := omega) only [wrap_i64]; (try simp [w1, w2, w3, w4, h2, m1, m2, hYl]))); rfl)) ?_
    refine W_reg (jh hX (by simp [w1, w2, w3, w4, h2, m1, m2, hYl]; (try (simp (disch := omega) only [wrap_i64]; (try simp [w1, w2, w3, w4, h2, m1, m2, hYl]))); rfl)) ?_
    refine round_end ((i + 1, q4)) [0, 1, 5] (by simp [hnext, w1, w2, w3, w4]; try (simp (disch := omega) only [wrap_i64]); try omega) ?_ ?_
    · exact ⟨by simp only; omega, by simp only; omega⟩
    · simp only; omega
  · try simp at h2
    have hil : i = l.length := by omega
    subst hil
    rw [List.drop_eq_nil_of_le (by simp), List.append_nil]
    refine W_exit (W_rseqK [4] (jh hX (by simp [w1, w2, w3, w4, h2]; rfl)) ?_)
    refine W_ret (W_retR2 (by simp [w1, w2, w3, w4, h2]; rfl) (by rfl) (.of_eq ?_) ?_)
    all_goals clear hX
    · skip
      simp; omega
    · skip
      simp
end Go.Proofs
namespace Go.Proofs
open Go Go.Ev


theorem cb_laws_markMethodS : Callable Tryz.prog 90 := ⟨_, Tryz.func90, by kernel_rfl, by kernel_rfl⟩
theorem ct_laws_markMethodS {l : List Mth} {k : Nat} (hk : k + cntMs l ≤ 1073741824) : Ct Tryz.prog 90 [.arr 0 0 l.length, .int .i64 k] [some (9, l.map oM)] (.int .i64 ((k + cntMs l : Nat) : Int)) [some (9, (mkMs k l).map oM)] := by
  have hl : l.length ≤ 1073741824 := by have := cntMs_len l; omega
  refine Ct_bodyS tok Tryz.func90 rfl 84 (by kernel_rfl) (by kernel_rfl) fun X hX => ?_
  refine jq [0, 1] ?_
  refine W_seq (jq [0, 1, 5] ?_)
  refine W_block (W_loopU (α := Nat × Nat) [0, 1, 5] (fun p => [(1, .int .i64 (p.2 : Nat)), (5, .int .i64 (p.1 : Nat))]) (fun p => [(0, some (9, (mkMs k (l.take p.1)).map oM ++ (l.map oM).drop p.1))]) (fun p => p.1 ≤ l.length ∧ p.2 = k + cntMs (l.take p.1)) (fun p => l.length - p.1) ((0, k)) (fun p => by simp; rfl) (by simp [mkMs]) ?_ ?_)
  · simp [cntMs]
  rintro ⟨i, q⟩ ⟨hi, hq⟩
  simp only at hi hq
  have hqB : q ≤ 1073741824 := by have := cntMs_take l i; omega
  obtain ⟨q1, e1⟩ : ∃ x, x = q + 1 := ⟨_, rfl⟩
  have w1 : IntKind.i64.wrap ((q : Int) + 1) = (q1 : Int) := by rw [wrap_i64 (by omega) (by omega)]; omega
  obtain ⟨q2, e2⟩ : ∃ x, x = q1 + 1 := ⟨_, rfl⟩
  have w2 : IntKind.i64.wrap ((q1 : Int) + 1) = (q2 : Int) := by rw [wrap_i64 (by omega) (by omega)]; omega
  obtain ⟨q3, e3⟩ : ∃ x, x = q2 + 1 := ⟨_, rfl⟩
  have w3 : IntKind.i64.wrap ((q2 : Int) + 1) = (q3 : Int) := by rw [wrap_i64 (by omega) (by omega)]; omega
  obtain ⟨q4, e4⟩ : ∃ x, x = q3 + 1 := ⟨_, rfl⟩
  have w4 : IntKind.i64.wrap ((q3 : Int) + 1) = (q4 : Int) := by rw [wrap_i64 (by omega) (by omega)]; omega
  obtain ⟨q5, e5⟩ : ∃ x, x = q4 + 1 := ⟨_, rfl⟩
  have w5 : IntKind.i64.wrap ((q4 : Int) + 1) = (q5 : Int) := by rw [wrap_i64 (by omega) (by omega)]; omega
  obtain ⟨q6, e6⟩ : ∃ x, x = q5 + 1 := ⟨_, rfl⟩
  have w6 : IntKind.i64.wrap ((q5 : Int) + 1) = (q6 : Int) := by rw [wrap_i64 (by omega) (by omega)]; omega
  obtain ⟨q7, e7⟩ : ∃ x, x = q6 + 1 := ⟨_, rfl⟩
  have w7 : IntKind.i64.wrap ((q6 : Int) + 1) = (q7 : Int) := by rw [wrap_i64 (by omega) (by omega)]; omega
  have v2 := mod3 q2
  have v3 := mod3 q3
  have v4 := mod3 q4
  refine W_seq (W_rseqK [0, 1, 5, 9] (jh hX (by simp [w1, w2, w3, w4, w5, w6, w7, v2, v3, v4]; rfl)) ?_)
  refine jd (fun h2 => ?_) (fun h2 => ?_)
  · try simp at h2
    have hB := cntMs_at l i h2
    simp only [cntM] at hB
    rw [List.drop_eq_getElem_cons (show i < (l.map oM).length by simpa using h2), List.getElem_map]
    obtain ⟨Z, hZ⟩ : ∃ Z, Z = (l.map oM).drop (i + 1) := ⟨_, rfl⟩
    rw [← hZ]
    obtain ⟨Y, hY⟩ : ∃ Y, Y = (mkMs k (l.take i)).map oM := ⟨_, rfl⟩
    rw [← hY]
    have hYl : Y.length = i := by rw [hY, List.length_map, mkMs_len, List.length_take]; omega
    have hYZ : ∀ x, i < (Y ++ x :: Z).length := fun x => by simp [hYl]
    have m1 := fun x => midG hYl x Z
    have m2 := fun x y => midS hYl x y Z
    have m3 := fun p x => mid_jk (p := p) (x := x) (Y := Y) (Z := Z) (by rw [hY]; simp) (by rw [hZ, ← List.map_drop]; exact jk_oM p _)
    have hnext : (mkMs k (l.take (i + 1))).map oM ++ (l.map oM).drop (i + 1) = Y ++ .agg [.str (mText q), .str (mText q1), .bool (decide (q2 % 3 = 0)), .bool (decide (q3 % 3 = 0)), .bool (decide (q4 % 3 = 0)), .int .i64 (q5 : Nat), .int .i64 (q6 : Nat), .lst true 5 ((mks mkI 5 q7 l[i].code.length).map eI), .lst true 4 ((mks mkH 4 (q7 + 5 * l[i].code.length) l[i].hdls.length).map eH)] :: Z := by
      rw [mkMs_snoc h2, ← hq, ← hZ, hY]
      simp only [List.map_append, List.map_cons, List.map_nil, List.append_assoc, List.singleton_append, oM, mkM]
      simp [e1, e2, e3, e4, e5, e6, e7]
      try omega
    refine W_le (Le.expose 0 i 7 (by simp [St.expose, m1, m2, hYl]; rfl)) ?_
    refine W_le (Le.expose 0 i 8 (by simp [St.expose, m1, m2, hYl]; rfl)) ?_
    refine W_skip (W_seq (W_block (W_rseqK [0, 1, 5] (js hX 3 (by simp [w1, w2, w3, w4, w5, w6, w7, v2, v3, v4, h2, m1, m2, hYl, hYZ]; rfl) (jc [] (c:=(by apply ct_laws_markText <;> first | omega | assumption | (simp; omega))) (a:=cb_laws_markText) (k:=(jh hX (by simp [w1, w2, w3, w4, w5, w6, w7, v2, v3, v4, h2, m1, m2, hYl, hYZ]; rfl))))) ?_)))
    refine W_rseqK [0, 1, 5] (jh hX (by simp [w1, w2, w3, w4, w5, w6, w7, v2, v3, v4, h2, m1, m2, hYl, hYZ]; (try (simp (disch := omega) only [wrap_i64]; (try simp [w1, w2, w3, w4, w5, w6, w7, v2, v3, v4, h2, m1, m2, hYl, hYZ]))); rfl)) ?_
    refine W_rseqK [0, 1, 5] (js hX 3 (by simp [w1, w2, w3, w4, w5, w6, w7, v2, v3, v4, h2, m1, m2, hYl, hYZ]; rfl) (jc [] (c:=(by apply ct_laws_markText <;> first | omega | assumption | (simp; omega))) (a:=cb_laws_markText) (k:=(jh hX (by simp [w1, w2, w3, w4, w5, w6, w7, v2, v3, v4, h2, m1, m2, hYl, hYZ]; rfl))))) ?_
    refine W_rseqK [0, 1, 5] (jh hX (by simp [w1, w2, w3, w4, w5, w6, w7, v2, v3, v4, h2, m1, m2, hYl, hYZ]; (try (simp (disch := omega) only [wrap_i64]; (try simp [w1, w2, w3, w4, w5, w6, w7, v2, v3, v4, h2, m1, m2, hYl, hYZ]))); rfl)) ?_
    refine W_rseqK [0, 1, 5] (jh hX (by simp [w1, w2, w3, w4, w5, w6, w7, v2, v3, v4, h2, m1, m2, hYl, hYZ]; rfl)) ?_
    refine W_rseqK [0, 1, 5] (jh hX (by simp [w1, w2, w3, w4, w5, w6, w7, v2, v3, v4, h2, m1, m2, hYl, hYZ]; (try (simp (disch := omega) only [wrap_i64]; (try simp [w1, w2, w3, w4, w5, w6, w7, v2, v3, v4, h2, m1, m2, hYl, hYZ]))); rfl)) ?_
    refine W_rseqK [0, 1, 5] (jh hX (by simp [w1, w2, w3, w4, w5, w6, w7, v2, v3, v4, h2, m1, m2, hYl, hYZ]; rfl)) ?_
    refine W_rseqK [0, 1, 5] (jh hX (by simp [w1, w2, w3, w4, w5, w6, w7, v2, v3, v4, h2, m1, m2, hYl, hYZ]; (try (simp (disch := omega) only [wrap_i64]; (try simp [w1, w2, w3, w4, w5, w6, w7, v2, v3, v4, h2, m1, m2, hYl, hYZ]))); rfl)) ?_
    refine W_rseqK [0, 1, 5] (jh hX (by simp [w1, w2, w3, w4, w5, w6, w7, v2, v3, v4, h2, m1, m2, hYl, hYZ]; rfl)) ?_
    refine W_rseqK [0, 1, 5] (jh hX (by simp [w1, w2, w3, w4, w5, w6, w7, v2, v3, v4, h2, m1, m2, hYl, hYZ]; (try (simp (disch := omega) only [wrap_i64]; (try simp [w1, w2, w3, w4, w5, w6, w7, v2, v3, v4, h2, m1, m2, hYl, hYZ]))); rfl)) ?_
    refine W_rseqK [0, 1, 5] (jh hX (by simp [w1, w2, w3, w4, w5, w6, w7, v2, v3, v4, h2, m1, m2, hYl, hYZ]; rfl)) ?_
    refine W_rseqK [0, 1, 5] (jh hX (by simp [w1, w2, w3, w4, w5, w6, w7, v2, v3, v4, h2, m1, m2, hYl, hYZ]; (try (simp (disch := omega) only [wrap_i64]; (try simp [w1, w2, w3, w4, w5, w6, w7, v2, v3, v4, h2, m1, m2, hYl, hYZ]))); rfl)) ?_
    refine W_rseqK [0, 1, 5] (jh hX (by simp [w1, w2, w3, w4, w5, w6, w7, v2, v3, v4, h2, m1, m2, hYl, hYZ]; rfl)) ?_
    refine W_rseqK [0, 1, 5] (jh hX (by simp [w1, w2, w3, w4, w5, w6, w7, v2, v3, v4, h2, m1, m2, hYl, hYZ]; (try (simp (disch := omega) only [wrap_i64]; (try simp [w1, w2, w3, w4, w5, w6, w7, v2, v3, v4, h2, m1, m2, hYl, hYZ]))); rfl)) ?_
    refine W_rseqK [0, 1, 5] (js hX 6 (by simp [w1, w2, w3, w4, w5, w6, w7, v2, v3, v4, h2, m1, m2, hYl, hYZ]; rfl) (jc [1] (c:=(by (try simp only [mapL_T, mapL_F, mapL_I, mapL_H, mapL_M, mapL_C]); apply ct_laws_markInsS <;> first | omega | assumption | (simp; omega))) (a:=cb_laws_markInsS) (k:=(jh hX (by simp [w1, w2, w3, w4, w5, w6, w7, v2, v3, v4, h2, m1, m2, hYl, hYZ]; rfl))))) ?_
    refine W_reg (js hX 6 (by simp [w1, w2, w3, w4, w5, w6, w7, v2, v3, v4, h2, m1, m2, hYl, hYZ]; rfl) (jc [2] (c:=(by (try simp only [mapL_T, mapL_F, mapL_I, mapL_H, mapL_M, mapL_C]); apply ct_laws_markHandlerS <;> first | omega | assumption | (simp; omega))) (a:=cb_laws_markHandlerS) (k:=(jh hX (by simp [w1, w2, w3, w4, w5, w6, w7, v2, v3, v4, h2, m1, m2, hYl, hYZ]; rfl))))) ?_
    refine W_reg (jh hX (by simp [w1, w2, w3, w4, w5, w6, w7, v2, v3, v4, h2, m1, m2, hYl, hYZ]; (try (simp (disch := omega) only [wrap_i64]; (try simp [w1, w2, w3, w4, w5, w6, w7, v2, v3, v4, h2, m1, m2, hYl, hYZ]))); rfl)) ?_
    refine ⟨(i + 1, (q7 + 5 * l[i].code.length) + 4 * l[i].hdls.length), Le.trans (Le.keep [0, 1, 5] _) (Le.trans (Le.absorb 0 i 7 (by simp [m1, m2, m3, hYl, hYZ, mks_len, mkMs_len, take_mks, take_mkMs]; rfl)) (Le.trans (Le.absorb 0 i 8 (by simp [m1, m2, m3, hYl, hYZ, mks_len, mkMs_len, take_mks, take_mkMs]; rfl)) (Le.trans (Le.trim 1 (by simp [hX]) _ (by simp)) (Le.of_eq (by simp [hnext, m1, m2, m3, hYl, hYZ, mks_len, mkMs_len, take_mks, take_mkMs, V.jk, jkL, w1, w2, w3, w4, w5, w6, w7]; try omega))))), ?_, ?_⟩
    · exact ⟨by simp only; omega, by simp only; rw [cntMs_snoc h2]; simp only [cntM]; omega⟩
    · simp only; omega
  · try simp at h2
    have hil : i = l.length := by omega
    subst hil
    rw [List.drop_eq_nil_of_le (by simp), List.append_nil, List.take_of_length_le (Nat.le_refl _)]
    rw [List.take_of_length_le (Nat.le_refl _)] at hq
    refine W_exit (W_rseqK [4] (jh hX (by simp [w1, w2, w3, w4, w5, w6, w7, v2, v3, v4, h2]; rfl)) ?_)
    refine W_ret (W_retR2 (by simp [w1, w2, w3, w4, w5, w6, w7, v2, v3, v4, h2]; rfl) (by rfl) (.of_eq ?_) ?_)
    all_goals clear hX
    · skip
      simp; omega
    · skip
      simp
end Go.Proofs
namespace Go.Proofs
open Go Go.Ev


theorem cb_laws_markClassS : Callable Tryz.prog 40 := ⟨_, Tryz.func40, by kernel_rfl, by kernel_rfl⟩
theorem ct_laws_markClassS {l : List Cls} {k : Nat} (hk : k + cntCs l ≤ 1073741824) : Ct Tryz.prog 40 [.arr 0 0 l.length, .int .i64 k] [some (6, l.map oC)] (.int .i64 ((k + cntCs l : Nat) : Int)) [some (6, (mkCs k l).map oC)] := by
  have hl : l.length ≤ 1073741824 := by have := cntCs_len l; omega
  refine Ct_bodyS tok Tryz.func40 rfl 61 (by kernel_rfl) (by kernel_rfl) fun X hX => ?_
  refine jq [0, 1] ?_
  refine W_seq (jq [0, 1, 5] ?_)
  refine W_block (W_loopU (α := Nat × Nat) [0, 1, 5] (fun p => [(1, .int .i64 (p.2 : Nat)), (5, .int .i64 (p.1 : Nat))]) (fun p => [(0, some (6, (mkCs k (l.take p.1)).map oC ++ (l.map oC).drop p.1))]) (fun p => p.1 ≤ l.length ∧ p.2 = k + cntCs (l.take p.1)) (fun p => l.length - p.1) ((0, k)) (fun p => by simp; rfl) (by simp [mkCs]) ?_ ?_)
  · simp [cntCs]
  rintro ⟨i, q⟩ ⟨hi, hq⟩
  simp only at hi hq
  have hqB : q ≤ 1073741824 := by have := cntCs_take l i; omega
  obtain ⟨q1, e1⟩ : ∃ x, x = q + 1 := ⟨_, rfl⟩
  have w1 : IntKind.i64.wrap ((q : Int) + 1) = (q1 : Int) := by rw [wrap_i64 (by omega) (by omega)]; omega
  obtain ⟨q2, e2⟩ : ∃ x, x = q1 + 1 := ⟨_, rfl⟩
  have w2 : IntKind.i64.wrap ((q1 : Int) + 1) = (q2 : Int) := by rw [wrap_i64 (by omega) (by omega)]; omega
  obtain ⟨q3, e3⟩ : ∃ x, x = q2 + 1 := ⟨_, rfl⟩
  have w3 : IntKind.i64.wrap ((q2 : Int) + 1) = (q3 : Int) := by rw [wrap_i64 (by omega) (by omega)]; omega
  obtain ⟨q4, e4⟩ : ∃ x, x = q3 + 1 := ⟨_, rfl⟩
  have w4 : IntKind.i64.wrap ((q3 : Int) + 1) = (q4 : Int) := by rw [wrap_i64 (by omega) (by omega)]; omega
  have v2 := mod3 q2
  have v3 := mod3 q3
  refine W_seq (W_rseqK [0, 1, 5, 9] (jh hX (by simp [w1, w2, w3, w4, v2, v3]; rfl)) ?_)
  refine jd (fun h2 => ?_) (fun h2 => ?_)
  · try simp at h2
    have hB := cntCs_at l i h2
    simp only [cntC] at hB
    rw [List.drop_eq_getElem_cons (show i < (l.map oC).length by simpa using h2), List.getElem_map]
    obtain ⟨Z, hZ⟩ : ∃ Z, Z = (l.map oC).drop (i + 1) := ⟨_, rfl⟩
    rw [← hZ]
    obtain ⟨Y, hY⟩ : ∃ Y, Y = (mkCs k (l.take i)).map oC := ⟨_, rfl⟩
    rw [← hY]
    have hYl : Y.length = i := by rw [hY, List.length_map, mkCs_len, List.length_take]; omega
    have hYZ : ∀ x, i < (Y ++ x :: Z).length := fun x => by simp [hYl]
    have m1 := fun x => midG hYl x Z
    have m2 := fun x y => midS hYl x y Z
    have m3 := fun p x => mid_jk (p := p) (x := x) (Y := Y) (Z := Z) (by rw [hY]; simp) (by rw [hZ, ← List.map_drop]; exact jk_oC p _)
    have hnext : (mkCs k (l.take (i + 1))).map oC ++ (l.map oC).drop (i + 1) = Y ++ .agg [.str (mText q), .str (mText q1), .bool (decide (q2 % 3 = 0)), .bool (decide (q3 % 3 = 0)), .lst true 3 ((mks mkF 3 q4 l[i].fields.length).map eF), .lst true 9 ((mkMs (q4 + 3 * l[i].fields.length) l[i].methods).map oM)] :: Z := by
      rw [mkCs_snoc h2, ← hq, ← hZ, hY]
      simp only [List.map_append, List.map_cons, List.map_nil, List.append_assoc, List.singleton_append, oC, mkC]
      simp [e1, e2, e3, e4]
      try omega
    refine W_le (Le.expose 0 i 4 (by simp [St.expose, m1, m2, hYl]; rfl)) ?_
    refine W_le (Le.expose 0 i 5 (by simp [St.expose, m1, m2, hYl]; rfl)) ?_
    refine W_skip (W_seq (W_block (W_rseqK [0, 1, 5] (js hX 3 (by simp [w1, w2, w3, w4, v2, v3, h2, m1, m2, hYl, hYZ]; rfl) (jc [] (c:=(by apply ct_laws_markText <;> first | omega | assumption | (simp; omega))) (a:=cb_laws_markText) (k:=(jh hX (by simp [w1, w2, w3, w4, v2, v3, h2, m1, m2, hYl, hYZ]; rfl))))) ?_)))
    refine W_rseqK [0, 1, 5] (jh hX (by simp [w1, w2, w3, w4, v2, v3, h2, m1, m2, hYl, hYZ]; (try (simp (disch := omega) only [wrap_i64]; (try simp [w1, w2, w3, w4, v2, v3, h2, m1, m2, hYl, hYZ]))); rfl)) ?_
    refine W_rseqK [0, 1, 5] (js hX 3 (by simp [w1, w2, w3, w4, v2, v3, h2, m1, m2, hYl, hYZ]; rfl) (jc [] (c:=(by apply ct_laws_markText <;> first | omega | assumption | (simp; omega))) (a:=cb_laws_markText) (k:=(jh hX (by simp [w1, w2, w3, w4, v2, v3, h2, m1, m2, hYl, hYZ]; rfl))))) ?_
    refine W_rseqK [0, 1, 5] (jh hX (by simp [w1, w2, w3, w4, v2, v3, h2, m1, m2, hYl, hYZ]; (try (simp (disch := omega) only [wrap_i64]; (try simp [w1, w2, w3, w4, v2, v3, h2, m1, m2, hYl, hYZ]))); rfl)) ?_
    refine W_rseqK [0, 1, 5] (jh hX (by simp [w1, w2, w3, w4, v2, v3, h2, m1, m2, hYl, hYZ]; rfl)) ?_
    refine W_rseqK [0, 1, 5] (jh hX (by simp [w1, w2, w3, w4, v2, v3, h2, m1, m2, hYl, hYZ]; (try (simp (disch := omega) only [wrap_i64]; (try simp [w1, w2, w3, w4, v2, v3, h2, m1, m2, hYl, hYZ]))); rfl)) ?_
    refine W_rseqK [0, 1, 5] (jh hX (by simp [w1, w2, w3, w4, v2, v3, h2, m1, m2, hYl, hYZ]; rfl)) ?_
    refine W_rseqK [0, 1, 5] (jh hX (by simp [w1, w2, w3, w4, v2, v3, h2, m1, m2, hYl, hYZ]; (try (simp (disch := omega) only [wrap_i64]; (try simp [w1, w2, w3, w4, v2, v3, h2, m1, m2, hYl, hYZ]))); rfl)) ?_
    refine W_rseqK [0, 1, 5] (js hX 6 (by simp [w1, w2, w3, w4, v2, v3, h2, m1, m2, hYl, hYZ]; rfl) (jc [1] (c:=(by (try simp only [mapL_T, mapL_F, mapL_I, mapL_H, mapL_M, mapL_C]); apply ct_laws_markFieldS <;> first | omega | assumption | (simp; omega))) (a:=cb_laws_markFieldS) (k:=(jh hX (by simp [w1, w2, w3, w4, v2, v3, h2, m1, m2, hYl, hYZ]; rfl))))) ?_
    refine W_reg (js hX 6 (by simp [w1, w2, w3, w4, v2, v3, h2, m1, m2, hYl, hYZ]; rfl) (jc [2] (c:=(by (try simp only [mapL_T, mapL_F, mapL_I, mapL_H, mapL_M, mapL_C]); apply ct_laws_markMethodS <;> first | omega | assumption | (simp; omega))) (a:=cb_laws_markMethodS) (k:=(jh hX (by simp [w1, w2, w3, w4, v2, v3, h2, m1, m2, hYl, hYZ]; rfl))))) ?_
    refine W_reg (jh hX (by simp [w1, w2, w3, w4, v2, v3, h2, m1, m2, hYl, hYZ]; (try (simp (disch := omega) only [wrap_i64]; (try simp [w1, w2, w3, w4, v2, v3, h2, m1, m2, hYl, hYZ]))); rfl)) ?_
    refine ⟨(i + 1, (q4 + 3 * l[i].fields.length) + cntMs l[i].methods), Le.trans (Le.keep [0, 1, 5] _) (Le.trans (Le.absorb 0 i 4 (by simp [m1, m2, m3, hYl, hYZ, mks_len, mkMs_len, take_mks, take_mkMs]; rfl)) (Le.trans (Le.absorb 0 i 5 (by simp [m1, m2, m3, hYl, hYZ, mks_len, mkMs_len, take_mks, take_mkMs]; rfl)) (Le.trans (Le.trim 1 (by simp [hX]) _ (by simp)) (Le.of_eq (by simp [hnext, m1, m2, m3, hYl, hYZ, mks_len, mkMs_len, take_mks, take_mkMs, V.jk, jkL, w1, w2, w3, w4]; try omega))))), ?_, ?_⟩
    · exact ⟨by simp only; omega, by simp only; rw [cntCs_snoc h2]; simp only [cntC]; omega⟩
    · simp only; omega
  · try simp at h2
    have hil : i = l.length := by omega
    subst hil
    rw [List.drop_eq_nil_of_le (by simp), List.append_nil, List.take_of_length_le (Nat.le_refl _)]
    rw [List.take_of_length_le (Nat.le_refl _)] at hq
    refine W_exit (W_rseqK [4] (jh hX (by simp [w1, w2, w3, w4, v2, v3, h2]; rfl)) ?_)
    refine W_ret (W_retR2 (by simp [w1, w2, w3, w4, v2, v3, h2]; rfl) (by rfl) (.of_eq ?_) ?_)
    all_goals clear hX
    · skip
      simp; omega
    · skip
      simp
end Go.Proofs
namespace Go.Proofs
open Go Go.Ev


theorem cb_spec_BuiltIn : Callable Tryz.prog 139 := ⟨_, Tryz.func139, by kernel_rfl, by kernel_rfl⟩
theorem ct_spec_BuiltIn  : Ct Tryz.prog 139 [] [] (.lst true 1 (builtIn.map V.str)) [] := by
  refine Ct_bodyS tok Tryz.func139 rfl 2 (by kernel_rfl) (by kernel_rfl) fun X hX => ?_
  refine jq [] ?_
  refine jq [0] ?_
  refine W_ret (je0 ?_)
  simp [builtIn]
end Go.Proofs
namespace Go.Proofs
open Go Go.Ev


theorem cb_spec_l05Built : Callable Tryz.prog 111 := ⟨_, Tryz.func111, by kernel_rfl, by kernel_rfl⟩
theorem ct_spec_l05Built {n : Str} : Ct Tryz.prog 111 [.str n] [] (.int .i64 (builtIx n)) [] := by
  have hbl := builtIn_length
  refine Ct_bodyS tok Tryz.func111 rfl 19 (by kernel_rfl) (by kernel_rfl) fun X hX => ?_
  refine jq [0] ?_
  refine W_rseqK [0, 3] (jc [] (c:=(by apply ct_spec_BuiltIn <;> first | assumption | omega | (simp at *; omega) | simp_all)) (a:=cb_spec_BuiltIn) (k:=jr)) ?_
  refine W_seq (jq [0, 3, 4] ?_)
  refine W_block (W_loopU (α := Nat) [0, 3, 4] (fun i => [(4, .int .i64 i)]) (fun i => []) (fun i => i ≤ 8 ∧ ixFrom n (builtIn.drop i) i = builtIx n) (fun i => 8 - i) (0) (fun i => by simp; rfl) (by simp) ?_ ?_)
  · simp [builtIx]
  rintro i ⟨hi, hI⟩
  refine W_seq (jq [0, 3, 4, 9] ?_)
  refine jd (fun h3 => ?_) (fun h3 => ?_)
  · try simp at h3
    rw [List.drop_eq_getElem_cons h3] at hI
    simp only [ixFrom] at hI
    refine W_skip (W_seq (W_block (W_rseqK [0, 3, 4, 17] (jh hX (by simp [h3]; rfl)) ?_)))
    refine jd (fun h5 => ?_) (fun h5 => ?_)
    · try simp at h5
      refine jq [2] ?_
      refine W_ret (je (by simp [h3]; rfl) ?_)
      simp [← hI, h5]
    · try simp at h5
      refine W_skip (W_reg (jh hX (by simp; (try (simp (disch := omega) only [wrap_i64]; (try simp))); rfl)) ?_)
      refine round_end (i + 1) [0, 3, 4] (by simp [h3]; try (simp (disch := omega) only [wrap_i64])) ?_ ?_
      · exact ⟨by omega, by simp [← hI, h5]⟩
      · omega
  · try simp at h3
    refine W_exit (jq [2] ?_)
    refine W_ret (je (by simp [h3]; rfl) ?_)
    simp [← hI, List.drop_eq_nil_of_le h3, ixFrom]
end Go.Proofs
namespace Go.Proofs
open Go Go.Ev


theorem cb_spec_l05Find : Callable Tryz.prog 112 := ⟨_, Tryz.func112, by kernel_rfl, by kernel_rfl⟩
theorem ct_spec_l05Find {l : List Cls} {n : Str} (hl : l.length ≤ 1099511627776) : Ct Tryz.prog 112 [.lst false 6 (l.map eC), .str n] [] (.int .i64 (findFrom n l 0)) [] := by
  refine Ct_bodyS tok Tryz.func112 rfl 20 (by kernel_rfl) (by kernel_rfl) fun X hX => ?_
  refine jq [0, 1] ?_
  refine W_seq (jq [0, 1, 5] ?_)
  refine W_block (W_loopU (α := Nat) [0, 1, 5] (fun i => [(5, .int .i64 i)]) (fun i => []) (fun i => i ≤ l.length ∧ findFrom n (l.drop i) i = findFrom n l 0) (fun i => l.length - i) (0) (fun i => by simp; rfl) (by simp) ?_ ?_)
  · simp
  rintro i ⟨hi, hI⟩
  refine W_seq (jq [0, 1, 5, 9] ?_)
  refine jd (fun h2 => ?_) (fun h2 => ?_)
  · try simp at h2
    rw [List.drop_eq_getElem_cons h2] at hI
    simp only [findFrom] at hI
    refine W_skip (W_seq (W_block (W_rseqK [0, 1, 5, 18] (jh hX (by simp [h2]; rfl)) ?_)))
    refine jd (fun h4 => ?_) (fun h4 => ?_)
    · try simp at h4
      refine jq [4] ?_
      refine W_ret (je (by simp [h2]; rfl) ?_)
      simp [← hI, h4]
    · try simp at h4
      refine W_skip (W_reg (jh hX (by simp; (try (simp (disch := omega) only [wrap_i64]; (try simp))); rfl)) ?_)
      refine round_end (i + 1) [0, 1, 5] (by simp [h2]; try (simp (disch := omega) only [wrap_i64])) ?_ ?_
      · exact ⟨by omega, by simp [← hI, h4]⟩
      · omega
  · try simp at h2
    refine W_exit (jq [4] ?_)
    refine W_ret (je (by simp [h2]; rfl) ?_)
    simp [← hI, List.drop_eq_nil_of_le h2, findFrom]
end Go.Proofs
namespace Go.Proofs
open Go Go.Ev


theorem cb_spec_l05Known : Callable Tryz.prog 62 := ⟨_, Tryz.func62, by kernel_rfl, by kernel_rfl⟩
theorem ct_spec_l05Known {l : List Cls} {n : Str} (hl : l.length ≤ 1099511627776) : Ct Tryz.prog 62 [.lst false 6 (l.map eC), .str n] [] (.bool (isKnown l n)) [] := by
  refine Ct_bodyS tok Tryz.func62 rfl 14 (by kernel_rfl) (by kernel_rfl) fun X hX => ?_
  refine jq [0, 1] ?_
  refine W_rseqK [4] (jt 1 (k:=(jc [] (c:=(by apply ct_spec_l05Built <;> first | assumption | omega | (simp at *; omega) | simp_all)) (a:=cb_spec_l05Built) (k:=(jt 2 (k:=(jm 5 8 [13] (p:=fun b1_4 => by (try simp at b1_4); exact (jh hX (by simp [-atD_lt, -atL_lt]; rfl))) (q:=fun b1_4 => by (try simp at b1_4); exact (js hX 2 (by simp [-atD_lt, -atL_lt]; rfl) (Runs.call [] rfl (by simp) rfl (by simp [-atD_lt, -atL_lt]; rfl) (by simp; rfl) (by apply ct_spec_l05Find <;> first | assumption | omega | (simp at *; omega) | simp_all) cb_spec_l05Find (by simp) (by simp) (by simp [-atD_lt, -atL_lt]; rfl) (jh hX (by simp [-atD_lt, -atL_lt]; rfl))))) (k:=jr)))))))) ?_
  refine W_ret (je0 ?_)
  (try simp_all [isKnown])
end Go.Proofs
namespace Go.Proofs
open Go Go.Ev


theorem cb_spec_l01NameByte : Callable Tryz.prog 232 := ⟨_, Tryz.func232, by kernel_rfl, by kernel_rfl⟩
theorem ct_spec_l01NameByte {c : UInt8} {f : Bool} : Ct Tryz.prog 232 [.int .u8 c.toNat, .bool f] [] (.bool (nameByte c f)) [] := by
  refine Ct_bodyS tok Tryz.func232 rfl 33 (by kernel_rfl) (by kernel_rfl) fun X hX => ?_
  refine jq [0, 1] ?_
  refine W_seq (W_rseqK [0, 1, 22] (jt 3 (k:=(jm 3 7 [0, 1, 10] (p:=fun b1_3 => by (try simp at b1_3); exact (jh hX (by simp [-atD_lt, -atL_lt]; rfl))) (q:=fun b1_3 => by (try simp at b1_3); exact (jh hX (by simp [-atD_lt, -atL_lt]; rfl))) (k:=(jt 1 (k:=(jm 7 11 [0, 1, 18] (p:=fun b1_7 => by (try simp at b1_7); exact (jh hX (by simp [-atD_lt, -atL_lt]; rfl))) (q:=fun b1_7 => by (try simp at b1_7); exact (js hX 3 (by simp [-atD_lt, -atL_lt]; rfl) (jm 3 14 [0, 1, 11, 17] (p:=fun b1_10 => by (try simp at b1_10); exact (jh hX (by simp [-atD_lt, -atL_lt]; rfl))) (q:=fun b1_10 => by (try simp at b1_10); exact (jh hX (by simp [-atD_lt, -atL_lt]; rfl))) (k:=(jh hX (by simp [-atD_lt, -atL_lt]; rfl)))))) (k:=(jt 1 (k:=(jm 3 19 [0, 1, 22] (p:=fun b1_15 => by (try simp at b1_15); exact (jh hX (by simp [-atD_lt, -atL_lt]; rfl))) (q:=fun b1_15 => by (try simp at b1_15); exact (jh hX (by simp [-atD_lt, -atL_lt]; rfl))) (k:=jf)))))))))))) ?_)
  refine jd (fun h1 => ?_) (fun h1 => ?_)
  · try simp at h1
    refine jq [4] ?_
    refine W_ret (je (by simp [h1]; rfl) ?_)
    (try simp_all [nameByte]) <;> grind [nameByte]
  · try simp at h1
    refine W_skip (W_rseqK [4] (jt 3 (k:=(jm 3 25 [0, 28] (p:=fun b3_3 => by (try simp at b3_3); exact (jh hX (by simp [-atD_lt, -atL_lt]; rfl))) (q:=fun b3_3 => by (try simp at b3_3); exact (jh hX (by simp [-atD_lt, -atL_lt]; rfl))) (k:=(jt 1 (k:=(jm 3 29 [32] (p:=fun b3_7 => by (try simp at b3_7); exact (jh hX (by simp [-atD_lt, -atL_lt]; rfl))) (q:=fun b3_7 => by (try simp at b3_7); exact (jh hX (by simp [-atD_lt, -atL_lt]; rfl))) (k:=jr)))))))) ?_)
    refine W_ret (je (by simp [h1]; rfl) ?_)
    (try simp_all [nameByte]) <;> grind [nameByte]
end Go.Proofs
namespace Go.Proofs
open Go Go.Ev


theorem cb_spec_NameRight : Callable Tryz.prog 211 := ⟨_, Tryz.func211, by kernel_rfl, by kernel_rfl⟩
theorem ct_spec_NameRight {t : Str} (ht : t.length ≤ 1099511627776) : Ct Tryz.prog 211 [.str t] [] (.bool (nameRight t)) [] := by
  refine Ct_bodyS tok Tryz.func211 rfl 25 (by kernel_rfl) (by kernel_rfl) fun X hX => ?_
  refine jq [0] ?_
  refine W_seq (W_rseqK [0, 11] (jt 4 (k:=(jm 4 7 [0, 11] (p:=fun b1_4 => by (try simp at b1_4); exact (jh hX (by simp [-atD_lt, -atL_lt]; rfl))) (q:=fun b1_4 => by (try simp at b1_4); exact (jh hX (by simp [-atD_lt, -atL_lt, b1_4]; rfl))) (k:=jf)))) ?_)
  refine jd (fun h1 => ?_) (fun h1 => ?_)
  · try simp at h1
    refine jq [2] ?_
    refine W_ret (je (by simp [h1]; rfl) ?_)
    grind [nameRight]
  · try simp at h1
    refine W_skip (W_seq (jq [0, 3] ?_))
    refine W_block (W_loopU (α := Nat) [0, 3] (fun i => [(3, .int .i64 i)]) (fun i => []) (fun i => i ≤ t.length ∧ nameFrom (decide (i = 0)) (t.drop i) = nameFrom true t) (fun i => t.length - i) (0) (fun i => by simp; rfl) (by simp) ?_ ?_)
    · simp
    rintro i ⟨hi, hI⟩
    refine W_seq (W_rseqK [0, 3, 15] (jh hX (by simp [h1]; rfl)) ?_)
    refine jd (fun h4 => ?_) (fun h4 => ?_)
    · try simp at h4
      rw [List.drop_eq_getElem_cons h4] at hI
      simp only [nameFrom] at hI
      refine W_skip (W_seq (W_block (W_rseqK [0, 3, 24] (js hX 5 (by simp [h1, h4]; rfl) (jc [] (c:=(by apply ct_spec_l01NameByte <;> first | assumption | omega | (simp at *; omega) | simp_all)) (a:=cb_spec_l01NameByte) (k:=jr))) ?_)))
      refine jd (fun h6 => ?_) (fun h6 => ?_)
      · try simp at h6
        refine jq [2] ?_
        refine W_ret (je (by simp [h1, h4]; rfl) ?_)
        grind [nameRight]
      · try simp at h6
        refine W_skip (W_reg (jh hX (by simp; (try (simp (disch := omega) only [wrap_i64]; (try simp))); rfl)) ?_)
        refine round_end (i + 1) [0, 3] (by simp [h1, h4]; try (simp (disch := omega) only [wrap_i64])) ?_ ?_
        · exact ⟨by omega, by simp_all⟩
        · omega
    · try simp at h4
      rw [List.drop_eq_nil_of_le h4] at hI
      simp only [nameFrom] at hI
      refine W_exit (jq [2] ?_)
      refine W_ret (je (by simp [h1, h4]; rfl) ?_)
      grind [nameRight]
end Go.Proofs
namespace Go.Proofs
open Go Go.Ev


theorem cb_spec_l02Type : Callable Tryz.prog 200 := ⟨_, Tryz.func200, by kernel_rfl, by kernel_rfl⟩
theorem ct_spec_l02Type_t {t : Str} {p : Nat} (ht : t.length ≤ 1099511627776) (hp : p ≤ t.length) : Ct Tryz.prog 200 [.str t, .int .i64 p, .bool true] [] (.tup [.int .i64 (tyP1 t p).1, .bool (tyP1 t p).2]) [] := by
  refine Ct_bodyS tok Tryz.func200 rfl 85 (by kernel_rfl) (by kernel_rfl) fun X hX => ?_
  refine jq [0, 1, 2] ?_
  refine W_seq (jq [0, 1, 2, 13] ?_)
  refine jd (fun h1 => ?_) (fun h1 => ?_)
  · try simp at h1
    refine jq [6, 7] ?_
    refine W_ret (je (by simp [h1]; rfl) ?_)
    simp_all [tyP, tyP1, nmP, isAt_lt, isAt_ge]
  · try simp at h1
    refine W_skip (W_seq (W_block (W_rseqK [0, 1, 2, 15] (jh hX (by simp [h1]; rfl)) ?_)))
    refine jd (fun h3 => ?_) (fun h3 => ?_)
    · try simp at h3
      refine W_rseqK [6, 7] (jh hX (by simp; (try (simp (disch := omega) only [wrap_i64]; (try simp))); rfl)) ?_
      refine W_ret (je (by simp [h1]; rfl) ?_)
      simp_all [tyP, tyP1, nmP, isAt_lt, isAt_ge]
    · try simp at h3
      refine W_rseqK [0, 1, 22] (js hX 5 (by simp [h1]; rfl) (jm 3 27 [0, 1, 30] (p:=fun b5_5 => by (try simp at b5_5); exact (jh hX (by simp [-atD_lt, -atL_lt]; rfl))) (q:=fun b5_5 => by (try simp at b5_5); exact (jh hX (by simp [-atD_lt, -atL_lt]; rfl))) (k:=jr))) ?_
      refine jd (fun h5 => ?_) (fun h5 => ?_)
      · try simp at h5
        --done
      · try simp at h5
        refine W_rseqK [0, 1, 37] (jh hX (by simp [h1]; rfl)) ?_
        refine jd (fun h7 => ?_) (fun h7 => ?_)
        · try simp at h7
          refine W_rseqK [0, 8] (jh hX (by simp; (try (simp (disch := omega) only [wrap_i64]; (try simp))); rfl)) ?_
          refine jq [0, 8, 9] ?_
          refine W_seq (W_block (W_loopU (α := Nat) [0, 8, 9] (fun i => [(9, .int .i64 i)]) (fun i => []) (fun i => p + 1 ≤ i ∧ i ≤ t.length ∧ i - (p + 1) ≤ 20 ∧ i + nameRun (20 - (i - (p + 1))) (decide (i = p + 1)) (t.drop i) = p + 1 + nameRun 20 true (t.drop (p + 1))) (fun i => t.length - i) (p + 1) (fun i => by simp; rfl) (by simp) ?_ ?_))
          · simp; omega
          rintro i ⟨h0i, hi, hn, hI⟩
          refine W_seq (W_rseqK [0, 8, 9, 63] (js hX 5 (by simp [h1]; rfl) (jm 5 49 [0, 8, 9, 54] (p:=fun b10_5 => by (try simp at b10_5); exact (jh hX (by simp [-atD_lt, -atL_lt]; (try (simp (disch := omega) only [wrap_i64]; (try simp [-atD_lt, -atL_lt]))); rfl))) (q:=fun b10_5 => by (try simp at b10_5); exact (jh hX (by simp [-atD_lt, -atL_lt]; rfl))) (k:=(jt 1 (k:=(jm 8 55 [0, 8, 9, 63] (p:=fun b10_11 => by (try simp at b10_11); exact (js hX 6 (by simp [-atD_lt, -atL_lt, h1, b10_11]; rfl) (Runs.call [] rfl (by simp) rfl (by simp [-atD_lt, -atL_lt]; rfl) (by simp; rfl) (by apply ct_spec_l01NameByte <;> first | assumption | omega | (simp at *; omega) | simp_all) cb_spec_l01NameByte (by simp) (by simp) (by simp [-atD_lt, -atL_lt]; rfl) (jh hX (by simp [-atD_lt, -atL_lt]; rfl))))) (q:=fun b10_11 => by (try simp at b10_11); exact (jh hX (by simp [-atD_lt, -atL_lt]; rfl))) (k:=jf))))))) ?_)
          have hge : t.length ≤ i → nameRun (20 - (i - (p + 1))) (decide (i = p + 1)) (t.drop i) = 0 := fun h => by rw [List.drop_eq_nil_of_le h]; simp [nameRun]
          have hg2 : i - (p + 1) = 20 → nameRun (20 - (i - (p + 1))) (decide (i = p + 1)) (t.drop i) = 0 := fun h => by rw [h]; simp [nameRun]
          have hg3 := fun h1 h2 => @drop_nameRun t i (p + 1) h1 h2 h0i
          refine jd (fun h10 => ?_) (fun h10 => ?_)
          · try simp at h10
            have ⟨⟨h10a, h10b⟩, h10c⟩ := h10
            rw [atD_lt h10a] at h10c
            rw [hg3 h10a (by omega), if_pos h10c] at hI
            refine W_skip (W_block (W_reg (jh hX (by simp; (try (simp (disch := omega) only [wrap_i64]; (try simp))); rfl)) ?_))
            refine round_end (i + 1) [0, 8, 9] (by simp [h1, h10]; try (simp (disch := omega) only [wrap_i64])) ?_ ?_
            · exact ⟨by omega, by omega, by omega, by omega⟩
            · omega
          · try simp at h10
            have hI2 : i = p + 1 + nameRun 20 true (t.drop (p + 1)) := by
              rcases Nat.lt_or_ge i t.length with hl | hl
              · by_cases hk : i - (p + 1) = 20
                · have := hg2 hk; omega
                · rw [hg3 hl (by omega)] at hI
                  have : nameByte t[i] (decide (i = p + 1)) = false := by
                    rw [← atD_lt hl]; exact h10 hl (by omega)
                  rw [this] at hI; simpa using hI
              · have := hge hl; omega
            have hnm : nmP t (p + 1) = if (isAt t i 59 && !decide (i = p + 1)) then (i + 1, true) else (i, false) := by simp only [nmP, ← hI2]
            have hty : tyP1 t p = nmP t (p + 1) := by simp [tyP1, isAt_lt h1, h3, h7]
            clear hI hI2 hg2 hg3 hge
            refine W_exit (W_seq (W_rseqK [9, 80] (js hX 5 (by simp [h1, h10]; rfl) (jm 5 70 [8, 9, 75] (p:=fun b12_5 => by (try simp at b12_5); exact (jh hX (by simp [-atD_lt, -atL_lt]; rfl))) (q:=fun b12_5 => by (try simp at b12_5); (have hlt : i < t.length := by omega); exact (jh hX (by simp [-atD_lt, -atL_lt, h1, h10, hlt]; rfl))) (k:=(jt 1 (k:=(jm 4 76 [9, 80] (p:=fun b12_11 => by (try simp at b12_11); exact (jh hX (by simp [-atD_lt, -atL_lt]; rfl))) (q:=fun b12_11 => by (try simp at b12_11); exact (jh hX (by simp [-atD_lt, -atL_lt]; rfl))) (k:=jf))))))) ?_))
            refine jd (fun h12 => ?_) (fun h12 => ?_)
            · try simp at h12
              refine jq [6, 7] ?_
              refine W_ret (je (by simp [h1, h10]; rfl) ?_)
              rw [hty, hnm]
              have : (isAt t i 59 && !decide (i = p + 1)) = false := by grind [isAt_lt, isAt_ge, atD_lt]
              simp [this]
            · try simp at h12
              refine W_skip (W_rseqK [6, 7] (jh hX (by simp; (try (simp (disch := omega) only [wrap_i64]; (try simp))); rfl)) ?_)
              refine W_ret (je (by simp [h1, h10]; rfl) ?_)
              rw [hty, hnm]
              have : (isAt t i 59 && !decide (i = p + 1)) = true := by grind [isAt_lt, isAt_ge, atD_lt]
              simp [this]
        · try simp at h7
          refine W_skip (jq [6, 7] ?_)
          refine W_ret (je (by simp [h1]; rfl) ?_)
          simp_all [tyP, tyP1, nmP, isAt_lt, isAt_ge]
theorem ct_spec_l02Type {t : Str} {p : Nat} (ht : t.length ≤ 1099511627776) (hp : p ≤ t.length) : Ct Tryz.prog 200 [.str t, .int .i64 p, .bool false] [] (.tup [.int .i64 (tyP t p).1, .bool (tyP t p).2]) [] := by
  refine Ct_bodyS tok Tryz.func200 rfl 85 (by kernel_rfl) (by kernel_rfl) fun X hX => ?_
  refine jq [0, 1, 2] ?_
  refine W_seq (jq [0, 1, 2, 13] ?_)
  refine jd (fun h1 => ?_) (fun h1 => ?_)
  · try simp at h1
    refine jq [6, 7] ?_
    refine W_ret (je (by simp [h1]; rfl) ?_)
    simp_all [tyP, tyP1, nmP, isAt_lt, isAt_ge]
  · try simp at h1
    refine W_skip (W_seq (W_block (W_rseqK [0, 1, 2, 15] (jh hX (by simp [h1]; rfl)) ?_)))
    refine jd (fun h3 => ?_) (fun h3 => ?_)
    · try simp at h3
      refine W_rseqK [6, 7] (jh hX (by simp; (try (simp (disch := omega) only [wrap_i64]; (try simp))); rfl)) ?_
      refine W_ret (je (by simp [h1]; rfl) ?_)
      simp_all [tyP, tyP1, nmP, isAt_lt, isAt_ge]
    · try simp at h3
      refine W_rseqK [0, 1, 22] (js hX 5 (by simp [h1]; rfl) (jm 3 27 [0, 1, 30] (p:=fun b5_5 => by (try simp at b5_5); exact (jh hX (by simp [-atD_lt, -atL_lt]; rfl))) (q:=fun b5_5 => by (try simp at b5_5); exact (jh hX (by simp [-atD_lt, -atL_lt]; rfl))) (k:=jr))) ?_
      refine jd (fun h5 => ?_) (fun h5 => ?_)
      · try simp at h5
        refine W_rseqK [6, 7] (js hX 3 (by simp; (try (simp (disch := omega) only [wrap_i64]; (try simp))); rfl) (jc [] (c:=(by apply ct_spec_l02Type_t <;> first | assumption | omega | (simp at *; omega) | simp_all)) (a:=cb_spec_l02Type) (k:=jr))) ?_
        refine W_ret (je (by simp [h1]; rfl) ?_)
        simp_all [tyP, tyP1, nmP, isAt_lt, isAt_ge]
      · try simp at h5
        refine W_rseqK [0, 1, 37] (jh hX (by simp [h1]; rfl)) ?_
        refine jd (fun h7 => ?_) (fun h7 => ?_)
        · try simp at h7
          refine W_rseqK [0, 8] (jh hX (by simp; (try (simp (disch := omega) only [wrap_i64]; (try simp))); rfl)) ?_
          refine jq [0, 8, 9] ?_
          refine W_seq (W_block (W_loopU (α := Nat) [0, 8, 9] (fun i => [(9, .int .i64 i)]) (fun i => []) (fun i => p + 1 ≤ i ∧ i ≤ t.length ∧ i - (p + 1) ≤ 20 ∧ i + nameRun (20 - (i - (p + 1))) (decide (i = p + 1)) (t.drop i) = p + 1 + nameRun 20 true (t.drop (p + 1))) (fun i => t.length - i) (p + 1) (fun i => by simp; rfl) (by simp) ?_ ?_))
          · simp; omega
          rintro i ⟨h0i, hi, hn, hI⟩
          refine W_seq (W_rseqK [0, 8, 9, 63] (js hX 5 (by simp [h1]; rfl) (jm 5 49 [0, 8, 9, 54] (p:=fun b10_5 => by (try simp at b10_5); exact (jh hX (by simp [-atD_lt, -atL_lt]; (try (simp (disch := omega) only [wrap_i64]; (try simp [-atD_lt, -atL_lt]))); rfl))) (q:=fun b10_5 => by (try simp at b10_5); exact (jh hX (by simp [-atD_lt, -atL_lt]; rfl))) (k:=(jt 1 (k:=(jm 8 55 [0, 8, 9, 63] (p:=fun b10_11 => by (try simp at b10_11); exact (js hX 6 (by simp [-atD_lt, -atL_lt, h1, b10_11]; rfl) (Runs.call [] rfl (by simp) rfl (by simp [-atD_lt, -atL_lt]; rfl) (by simp; rfl) (by apply ct_spec_l01NameByte <;> first | assumption | omega | (simp at *; omega) | simp_all) cb_spec_l01NameByte (by simp) (by simp) (by simp [-atD_lt, -atL_lt]; rfl) (jh hX (by simp [-atD_lt, -atL_lt]; rfl))))) (q:=fun b10_11 => by (try simp at b10_11); exact (jh hX (by simp [-atD_lt, -atL_lt]; rfl))) (k:=jf))))))) ?_)
          have hge : t.length ≤ i → nameRun (20 - (i - (p + 1))) (decide (i = p + 1)) (t.drop i) = 0 := fun h => by rw [List.drop_eq_nil_of_le h]; simp [nameRun]
          have hg2 : i - (p + 1) = 20 → nameRun (20 - (i - (p + 1))) (decide (i = p + 1)) (t.drop i) = 0 := fun h => by rw [h]; simp [nameRun]
          have hg3 := fun h1 h2 => @drop_nameRun t i (p + 1) h1 h2 h0i
          refine jd (fun h10 => ?_) (fun h10 => ?_)
          · try simp at h10
            have ⟨⟨h10a, h10b⟩, h10c⟩ := h10
            rw [atD_lt h10a] at h10c
            rw [hg3 h10a (by omega), if_pos h10c] at hI
            refine W_skip (W_block (W_reg (jh hX (by simp; (try (simp (disch := omega) only [wrap_i64]; (try simp))); rfl)) ?_))
            refine round_end (i + 1) [0, 8, 9] (by simp [h1, h10]; try (simp (disch := omega) only [wrap_i64])) ?_ ?_
            · exact ⟨by omega, by omega, by omega, by omega⟩
            · omega
          · try simp at h10
            have hI2 : i = p + 1 + nameRun 20 true (t.drop (p + 1)) := by
              rcases Nat.lt_or_ge i t.length with hl | hl
              · by_cases hk : i - (p + 1) = 20
                · have := hg2 hk; omega
                · rw [hg3 hl (by omega)] at hI
                  have : nameByte t[i] (decide (i = p + 1)) = false := by
                    rw [← atD_lt hl]; exact h10 hl (by omega)
                  rw [this] at hI; simpa using hI
              · have := hge hl; omega
            have hnm : nmP t (p + 1) = if (isAt t i 59 && !decide (i = p + 1)) then (i + 1, true) else (i, false) := by simp only [nmP, ← hI2]
            have hty : tyP t p = nmP t (p + 1) := by simp_all [tyP, tyP1, isAt_lt h1]
            clear hI hI2 hg2 hg3 hge
            refine W_exit (W_seq (W_rseqK [9, 80] (js hX 5 (by simp [h1, h10]; rfl) (jm 5 70 [8, 9, 75] (p:=fun b12_5 => by (try simp at b12_5); exact (jh hX (by simp [-atD_lt, -atL_lt]; rfl))) (q:=fun b12_5 => by (try simp at b12_5); (have hlt : i < t.length := by omega); exact (jh hX (by simp [-atD_lt, -atL_lt, h1, h10, hlt]; rfl))) (k:=(jt 1 (k:=(jm 4 76 [9, 80] (p:=fun b12_11 => by (try simp at b12_11); exact (jh hX (by simp [-atD_lt, -atL_lt]; rfl))) (q:=fun b12_11 => by (try simp at b12_11); exact (jh hX (by simp [-atD_lt, -atL_lt]; rfl))) (k:=jf))))))) ?_))
            refine jd (fun h12 => ?_) (fun h12 => ?_)
            · try simp at h12
              refine jq [6, 7] ?_
              refine W_ret (je (by simp [h1, h10]; rfl) ?_)
              rw [hty, hnm]
              have : (isAt t i 59 && !decide (i = p + 1)) = false := by grind [isAt_lt, isAt_ge, atD_lt]
              simp [this]
            · try simp at h12
              refine W_skip (W_rseqK [6, 7] (jh hX (by simp; (try (simp (disch := omega) only [wrap_i64]; (try simp))); rfl)) ?_)
              refine W_ret (je (by simp [h1, h10]; rfl) ?_)
              rw [hty, hnm]
              have : (isAt t i 59 && !decide (i = p + 1)) = true := by grind [isAt_lt, isAt_ge, atD_lt]
              simp [this]
        · try simp at h7
          refine W_skip (jq [6, 7] ?_)
          refine W_ret (je (by simp [h1]; rfl) ?_)
          simp_all [tyP, tyP1, nmP, isAt_lt, isAt_ge]
end Go.Proofs
namespace Go.Proofs
open Go Go.Ev


theorem cb_spec_TypeRight : Callable Tryz.prog 212 := ⟨_, Tryz.func212, by kernel_rfl, by kernel_rfl⟩
theorem ct_spec_TypeRight {t : Str} (ht : t.length ≤ 1099511627776) : Ct Tryz.prog 212 [.str t] [] (.bool (typeRight t)) [] := by
  refine Ct_bodyS tok Tryz.func212 rfl 20 (by kernel_rfl) (by kernel_rfl) fun X hX => ?_
  refine jq [0] ?_
  refine W_seq (jq [0, 7] ?_)
  refine jd (fun h1 => ?_) (fun h1 => ?_)
  · try simp at h1
    refine jq [2] ?_
    refine W_ret (je (by simp [h1]; rfl) ?_)
    (try simp_all [typeRight]) <;> grind
  · try simp at h1
    refine W_skip (W_rseqK [0, 3, 4] (jt 1 (k:=(jc [] (c:=(by apply ct_spec_l02Type <;> first | assumption | omega | (simp at *; omega) | simp_all)) (a:=cb_spec_l02Type) (k:=jr)))) ?_)
    refine W_rseqK [2] (jt 2 (k:=(jm 5 14 [19] (p:=fun b4_2 => by (try simp at b4_2); exact (jh hX (by simp [-atD_lt, -atL_lt, h1]; rfl))) (q:=fun b4_2 => by (try simp at b4_2); exact (jh hX (by simp [-atD_lt, -atL_lt]; rfl))) (k:=jr)))) ?_
    refine W_ret (je (by simp [h1]; rfl) ?_)
    (try simp_all [typeRight]) <;> grind
end Go.Proofs
namespace Go.Proofs
open Go Go.Ev


theorem cb_spec_l02Wrong : Callable Tryz.prog 199 := ⟨_, Tryz.func199, by kernel_rfl, by kernel_rfl⟩
theorem ct_spec_l02Wrong {n : Int} : Ct Tryz.prog 199 [.int .i64 n] [] (.agg [.raw (.slice none 0 0), .str [], .int .i64 n, .int .i64 3]) [] := by
  refine Ct_bodyS tok Tryz.func199 rfl 5 (by kernel_rfl) (by kernel_rfl) fun X hX => ?_
  refine jq [0, 2] ?_
  refine jq [2] ?_
  refine W_ret (je0 ?_)
  rfl
end Go.Proofs
namespace Go.Proofs
open Go Go.Ev


theorem cb_spec_DescRead : Callable Tryz.prog 148 := ⟨_, Tryz.func148, by kernel_rfl, by kernel_rfl⟩
theorem ct_spec_DescRead {t : Str} (ht : t.length ≤ 1099511627776) : Ct Tryz.prog 148 [.str t] [] (eDO (descRead t)) [] := by
  refine Ct_bodyS tok Tryz.func148 rfl 104 (by kernel_rfl) (by kernel_rfl) fun X hX => ?_
  refine jq [0, 2] ?_
  refine W_seq (jq [0, 2, 11] ?_)
  refine jd (fun h1 => ?_) (fun h1 => ?_)
  · try simp at h1
    refine W_rseqK [2] (jh hX (by simp [h1]; rfl)) ?_
    refine W_ret (W_retR (by simp [h1]; rfl) ?_ rfl)
    rw [show descRead t = ⟨[], [], 0, 2⟩ from by unfold descRead; rw [if_pos (by omega)]]
    exact wk_err _ _ _
  · try simp at h1
    have h1c : descRead t = dRead t := by unfold descRead; rw [if_neg (by omega)]
    rw [h1c]
    refine W_skip (W_seq (W_rseqK [0, 2, 20] (js hX 4 (by simp [h1]; rfl) (jm 4 16 [0, 2, 20] (p:=fun b3_4 => by (try simp at b3_4); exact (jh hX (by simp [-atD_lt, -atL_lt]; rfl))) (q:=fun b3_4 => by (try simp at b3_4); (have hlt : 0 < t.length := List.length_pos_iff.2 b3_4); exact (jh hX (by simp [-atD_lt, -atL_lt, h1, hlt]; rfl))) (k:=jf))) ?_))
    refine jd (fun h3 => ?_) (fun h3 => ?_)
    · try simp at h3
      refine W_rseqK [2] (jc [] (c:=(by apply ct_spec_l02Wrong <;> first | assumption | omega)) (a:=cb_spec_l02Wrong) (k:=(jh hX (by simp [h1]; rfl)))) ?_
      refine W_ret (W_retR (by simp [h1]; rfl) ?_ rfl)
      rw [show dRead t = dErr 0 from by unfold dRead; rw [if_neg]; rcases h3 with rfl | h3; simp [isAt]; simp only [isAt]; split <;> simp_all [atD]]
      exact wk_err _ _ _
    · try simp at h3
      have h3c : 0 < t.length := List.length_pos_iff.2 h3.1
      have h3b : isAt t 0 40 = true := by rw [isAt_lt h3c, ← atD_lt h3c]; simpa using h3.2
      refine W_skip (W_rseqK [0, 2, 3] (jh hX (by simp [h1]; rfl)) ?_)
      refine jq [0, 2, 3, 4] ?_
      refine W_seq (W_block (W_le (Le.nilC 1 0 0 1 (by simp; rfl)) ?_))
      refine W_loopU (α := List Str × Nat) [0, 2, 3, 4] (fun a => [(4, .int .i64 a.2)]) (fun a => [(1, some (2, [.agg [.arr 2 0 a.1.length, .str []]])), (2, some (1, a.1.map V.str))]) (fun a => a.2 ≤ t.length ∧ a.1.length ≤ 8 ∧ dParams t (8 - a.1.length) a.2 a.1 = dParams t 8 1 []) (fun a => 8 - a.1.length) (([], 1)) (fun a => by simp; rfl) (by simp) ?_ ?_
      · exact ⟨by simp; omega, by simp, rfl⟩
      rintro ⟨ps, p⟩ ⟨hp, hn, hI⟩
      simp only at hp hn hI
      refine W_seq (W_rseqK [0, 2, 3, 4, 32] (js hX 5 (by simp [h1]; rfl) (jm 5 27 [0, 2, 3, 4, 32] (p:=fun b7_5 => by (try simp at b7_5); exact (jh hX (by simp [-atD_lt, -atL_lt, h1, b7_5]; rfl))) (q:=fun b7_5 => by (try simp at b7_5); exact (jh hX (by simp [-atD_lt, -atL_lt]; rfl))) (k:=jf))) ?_)
      refine jd (fun h7 => ?_) (fun h7 => ?_)
      · try simp at h7
        have h7a := h7.1
        have h7b : isAt t p 41 = false := by rw [isAt_lt h7a, ← atD_lt h7a]; simpa using h7.2
        refine W_skip (W_block (W_seq (W_rseqK [0, 2, 3, 4, 36] (jh hX (by simp [h1, h7]; rfl)) ?_)))
        refine jd (fun h8 => ?_) (fun h8 => ?_)
        · try simp at h8
          have h8b : 8 - ps.length = 0 := by omega
          rw [h8b, dParams, if_neg (by simp [h7b])] at hI
          refine W_rseqK [2] (jt 1 (k:=(jc [] (c:=(by apply ct_spec_l02Wrong <;> first | assumption | omega)) (a:=cb_spec_l02Wrong) (k:=(jh hX (by simp [h1, h7]; rfl)))))) ?_
          refine W_ret (W_retR (by simp [h1, h7]; rfl) ?_ rfl)
          rw [dRead_err h3b hI.symm]
          exact wk_err _ _ _
        · try simp at h8
          have h8b : 8 - ps.length = (8 - (ps.length + 1)) + 1 := by omega
          rw [h8b, dParams, if_neg (by simp [h7b])] at hI
          obtain ⟨hge, hle, hgt, _⟩ := tyP_le hp
          have w1 : (ps.length + 1) * 16 ≤ 140737488355328 := by omega
          have w2 : ps.length ≤ 1099511627775 := by omega
          refine W_skip (W_rseqK [0, 2, 3, 4, 5, 6] (jt 2 (k:=(jc [] (c:=(by apply ct_spec_l02Type <;> first | assumption | omega)) (a:=cb_spec_l02Type) (k:=jr)))) ?_)
          refine W_seq (jq [0, 2, 3, 4, 5, 46] ?_)
          refine jd (fun h11 => ?_) (fun h11 => ?_)
          · try simp at h11
            rw [if_neg (by simp [h11])] at hI
            refine W_rseqK [2] (jt 1 (k:=(jc [] (c:=(by apply ct_spec_l02Wrong <;> first | assumption | omega)) (a:=cb_spec_l02Wrong) (k:=(jh hX (by simp [h1, h7, w1, w2]; rfl)))))) ?_
            refine W_ret (W_retR (by simp [h1, h7, w1, w2]; rfl) ?_ rfl)
            rw [dRead_err h3b hI.symm]
            exact wk_err _ _ _
          · try simp at h11
            rw [if_pos h11] at hI
            have hI3 : dParams t (8 - (ps ++ [seg t p (tyP t p).1]).length) (tyP t p).1 (ps ++ [seg t p (tyP t p).1]) = dParams t 8 1 [] := by simpa using hI
            refine W_skip (jL 7 [0, 1, 2, 3, 4, 5] [6] [0, 2, 3, 5] ([1]) hX (by simp [h1, h7, w1, w2, hge, hle]; rfl) (jH (p:=fun X hX => jr) (k:=.nil)) (jh hX (by simp [h1, h7, w1, w2, hge, hle]; rfl)) ?_)
            refine W_reg jr ?_
            refine round_endT ((ps ++ [seg t p (tyP t p).1], (tyP t p).1)) [0, 2, 3, 4] 3 (by simp [hX]) (by simp) (by simp [seg, h11]; try (simp (disch := omega) only [wrap_i64])) ?_ ?_
            · exact ⟨hle, by simp; omega, hI3⟩
            · simp; omega
      · try simp at h7
        have h7b : p < t.length → isAt t p 41 = true := fun h => by rw [isAt_lt h, ← atD_lt h]; simpa using h7 h
        refine W_exit (W_seq (W_rseqK [0, 2, 3, 4, 62] (jh hX (by simp [h1, h7]; rfl)) ?_))
        refine jd (fun h15 => ?_) (fun h15 => ?_)
        · try simp at h15
          refine W_rseqK [2] (jt 1 (k:=(jc [] (c:=(by apply ct_spec_l02Wrong <;> first | assumption | omega)) (a:=cb_spec_l02Wrong) (k:=(jh hX (by simp [h1, h7]; rfl)))))) ?_
          refine W_ret (W_retR (by simp [h1, h7]; rfl) ?_ rfl)
          have hpl : p = t.length := h15
          rw [show dRead t = dErr p from dRead_err h3b (by rw [← hI]; cases 8 - ps.length <;> simp [dParams, isAt_ge (show t.length ≤ p from by omega), tyP, tyP1]), hpl]
          exact wk_err _ _ _
        · try simp at h15
          have h7d := h7b (by omega)
          have hd : dRead t = dTail t ps p := dRead_ok h3b (by rw [← hI]; cases 8 - ps.length <;> simp [dParams, h7d])
          rw [hd]
          have w0 : p + 1 ≤ t.length := by omega
          have wp : ps.length ≤ ps.length := Nat.le_refl _
          refine W_skip (W_rseqK [0, 2, 3, 4] (jh hX (by simp; (try (simp (disch := omega) only [wrap_i64]; (try simp))); rfl)) ?_)
          refine W_seq (W_rseqK [0, 2, 3, 4, 76] (js hX 5 (by simp [h1, h7, w0]; rfl) (jm 5 71 [0, 2, 3, 4, 76] (p:=fun b18_5 => by (try simp at b18_5); exact (jh hX (by simp [-atD_lt, -atL_lt, h1, h7, w0, b18_5]; rfl))) (q:=fun b18_5 => by (try simp at b18_5); exact (jh hX (by simp [-atD_lt, -atL_lt]; rfl))) (k:=jf))) ?_)
          refine jd (fun h18 => ?_) (fun h18 => ?_)
          · try simp at h18
            have h18b : isAt t (p + 1) 86 = true := by rw [isAt_lt h18.1, ← atD_lt h18.1]; simpa using h18.2
            refine W_rseqK [0, 2, 3, 4] (jh hX (by simp [h1, h7, w0, h18]; rfl)) ?_
            refine W_reg (jh hX (by simp; (try (simp (disch := omega) only [wrap_i64]; (try simp))); rfl)) ?_
            refine W_seq (W_rseqK [2, 3, 4, 99] (jh hX (by simp [h1, h7, w0, h18]; rfl)) ?_)
            refine jd (fun h26 => ?_) (fun h26 => ?_)
            · try simp at h26
              refine W_rseqK [2] (jt 1 (k:=(jc [] (c:=(by apply ct_spec_l02Wrong <;> first | assumption | omega)) (a:=cb_spec_l02Wrong) (k:=(jh hX (by simp [h1, h7, w0, h18, h26]; rfl)))))) ?_
              refine W_ret (W_retR (by simp [h1, h7, w0, h18, h26]; rfl) ?_ rfl)
              first
                | (rw [show dTail t ps p = dErr (p + 2) from by simp only [dTail, h18b, if_true]; rw [if_pos (by omega)], show ((p : Int) + 1 + 1) = ((p + 2 : Nat) : Int) from by omega]; exact wk_err _ _ _)
                | (rw [show dTail t ps p = dErr (tyP t (p + 1)).1 from by simp only [dTail, h18b, h22, if_true]; simp; omega]; exact wk_err _ _ _)
            · try simp at h26
              refine W_skip (W_rseqK [2] (jh hX (by simp [h1, h7, w0, h18, h26]; rfl)) ?_)
              refine W_ret (W_retR (by simp [h1, h7, w0, h18, h26]; rfl) ?_ rfl)
              first
                | (rw [show dTail t ps p = ⟨ps, [86], 0, 0⟩ from by simp only [dTail, h18b, if_true]; rw [if_neg (by omega)]]; exact Wk.refl _)
                | (rw [show dTail t ps p = ⟨ps, seg t (p + 1) (tyP t (p + 1)).1, 0, 0⟩ from by simp only [dTail, h18b, h22]; simp; omega]; exact Wk.refl _)
          · try simp at h18
            have h18b : isAt t (p + 1) 86 = false := by
              rcases Nat.lt_or_ge (p + 1) t.length with h | h
              · rw [isAt_lt h, ← atD_lt h]; simpa using h18 h
              · exact isAt_ge h
            obtain ⟨hge, hle, hgt, _⟩ := tyP_le w0
            refine W_rseqK [0, 2, 3, 4, 7, 8] (jt 2 (k:=(jc [] (c:=(by apply ct_spec_l02Type <;> first | assumption | omega)) (a:=cb_spec_l02Type) (k:=jr)))) ?_
            refine W_seq (jq [0, 2, 3, 4, 7, 87] ?_)
            refine jd (fun h22 => ?_) (fun h22 => ?_)
            · try simp at h22
              refine W_rseqK [2] (jt 1 (k:=(jc [] (c:=(by apply ct_spec_l02Wrong <;> first | assumption | omega)) (a:=cb_spec_l02Wrong) (k:=(jh hX (by simp [h1, h7, w0, h18, hge, hle]; rfl)))))) ?_
              refine W_ret (W_retR (by simp [h1, h7, w0, h18, hge, hle]; rfl) ?_ rfl)
              rw [show dTail t ps p = dErr (tyP t (p + 1)).1 from by simp [dTail, h18b, h22]]
              exact wk_err _ _ _
            · try simp at h22
              refine W_skip (W_rseqK [0, 2, 3, 7] (jh hX (by simp [h1, h7, w0, h18, hge, hle]; rfl)) ?_)
              refine W_reg jr ?_
              refine W_seq (W_rseqK [2, 3, 4, 99] (jh hX (by simp [h1, h7, w0, h18, hge, hle]; rfl)) ?_)
              refine jd (fun h26 => ?_) (fun h26 => ?_)
              · try simp at h26
                refine W_rseqK [2] (jt 1 (k:=(jc [] (c:=(by apply ct_spec_l02Wrong <;> first | assumption | omega)) (a:=cb_spec_l02Wrong) (k:=(jh hX (by simp [h1, h7, w0, h18, hge, hle, h26]; rfl)))))) ?_
                refine W_ret (W_retR (by simp [h1, h7, w0, h18, hge, hle, h26]; rfl) ?_ rfl)
                first
                  | (rw [show dTail t ps p = dErr (p + 2) from by simp only [dTail, h18b, if_true]; rw [if_pos (by omega)], show ((p : Int) + 1 + 1) = ((p + 2 : Nat) : Int) from by omega]; exact wk_err _ _ _)
                  | (rw [show dTail t ps p = dErr (tyP t (p + 1)).1 from by simp only [dTail, h18b, h22, if_true]; simp; omega]; exact wk_err _ _ _)
              · try simp at h26
                refine W_skip (W_rseqK [2] (jh hX (by simp [h1, h7, w0, h18, hge, hle, h26]; rfl)) ?_)
                refine W_ret (W_retR (by simp [h1, h7, w0, h18, hge, hle, h26]; rfl) ?_ rfl)
                first
                  | (rw [show dTail t ps p = ⟨ps, [86], 0, 0⟩ from by simp only [dTail, h18b, if_true]; rw [if_neg (by omega)]]; exact Wk.refl _)
                  | (rw [show dTail t ps p = ⟨ps, seg t (p + 1) (tyP t (p + 1)).1, 0, 0⟩ from by simp only [dTail, h18b, h22]; simp; omega]; exact Wk.refl _)
end Go.Proofs
namespace Go.Proofs
open Go Go.Ev


theorem cb_spec_l01Int : Callable Tryz.prog 227 := ⟨_, Tryz.func227, by kernel_rfl, by kernel_rfl⟩
theorem ct_spec_l01Int {n : Int} : Ct Tryz.prog 227 [.int .i64 n] [] (.bool (decide (-2147483648 ≤ n ∧ n ≤ 2147483647))) [] := by
  refine Ct_bodyS tok Tryz.func227 rfl 9 (by kernel_rfl) (by kernel_rfl) fun X hX => ?_
  refine jq [0] ?_
  refine W_rseqK [2] (jt 3 (k:=(jm 3 5 [8] (p:=fun b1_3 => by (try simp at b1_3); exact (jh hX (by simp [-atD_lt, -atL_lt]; rfl))) (q:=fun b1_3 => by (try simp at b1_3); exact (jh hX (by simp [-atD_lt, -atL_lt]; rfl))) (k:=jr)))) ?_
  refine W_ret (je0 ?_)
  (try simp_all) <;> grind
end Go.Proofs
namespace Go.Proofs
open Go Go.Ev


theorem cb_spec_l03Ops : Callable Tryz.prog 252 := ⟨_, Tryz.func252, by kernel_rfl, by kernel_rfl⟩
theorem ct_spec_l03Ops  : Ct Tryz.prog 252 [] [] (.lst true 1 (opsL.map V.str)) [] := by
  refine Ct_bodyS tok Tryz.func252 rfl 2 (by kernel_rfl) (by kernel_rfl) fun X hX => ?_
  refine jq [] ?_
  refine jq [0] ?_
  refine W_ret (je0 ?_)
  rfl
end Go.Proofs
namespace Go.Proofs
open Go Go.Ev


theorem cb_spec_l01Split : Callable Tryz.prog 253 := ⟨_, Tryz.func253, by kernel_rfl, by kernel_rfl⟩
theorem ct_spec_l01Split {t : Str} {c : UInt8} (ht : t.length ≤ 1048576) : Ct Tryz.prog 253 [.str t, .int .u8 c.toNat] [] (.lst true 1 ((splitL c t).map V.str)) [] := by
  refine Ct_bodyS tok Tryz.func253 rfl 35 (by kernel_rfl) (by kernel_rfl) fun X hX => ?_
  refine jq [0, 1] ?_
  refine jq [0, 1, 5] ?_
  refine jq [0, 1, 5, 6] ?_
  refine W_seq (jq [0, 1, 5, 6, 7] ?_)
  refine W_block (W_loopU (α := List Str × Nat × Nat) [0, 1, 5, 6, 7] (fun a => [(5, .arr 0 0 a.1.length), (6, .int .i64 a.2.1), (7, .int .i64 a.2.2)]) (fun a => [(0, some (1, a.1.map V.str))]) (fun a => a.2.1 ≤ a.2.2 ∧ a.2.2 ≤ t.length ∧ a.1.length ≤ a.2.2 ∧ (∀ x ∈ (t.drop a.2.1).take (a.2.2 - a.2.1), x ≠ c) ∧ a.1 ++ splitL c (t.drop a.2.1) = splitL c t) (fun a => t.length - a.2.2) (([], 0, 0)) (fun a => by simp; rfl) (by simp) ?_ ?_)
  · simp
  rintro ⟨ps, f, i⟩ ⟨hf, hi, hp, hn, hI⟩
  simp only at hf hi hp hn hI
  have w1 : (ps.length + 1) * 16 ≤ 140737488355328 := by omega
  have w2 : ps.length ≤ 1099511627775 := by omega
  refine W_seq (W_rseqK [0, 1, 5, 6, 7, 12] (jh hX (by simp [w1, w2, hf, hi]; rfl)) ?_)
  refine jd (fun h4 => ?_) (fun h4 => ?_)
  · try simp at h4
    have hdi : i - f < (t.drop f).length := by simp; omega
    have hde : (t.drop f)[i - f] = t[i] := by simp [Nat.add_sub_cancel' hf]
    refine W_skip (W_seq (W_block (W_rseqK [0, 1, 5, 6, 7, 19] (jh hX (by simp [w1, w2, hf, hi, h4]; rfl)) ?_)))
    refine jd (fun h6 => ?_) (fun h6 => ?_)
    · try simp at h6
      have hs := splitL_hit hdi hn (by rw [hde]; exact UInt8.toNat_inj.1 h6)
      rw [List.drop_drop, show f + (i - f + 1) = i + 1 from by omega] at hs
      have hI2 : (ps ++ [seg t f i]) ++ splitL c (t.drop (i + 1)) = splitL c t := by rw [← hI, hs, seg, List.drop_take]; simp
      refine W_rseqK [0, 1, 5, 7] (jh hX (by simp [w1, w2, hf, hi, h4]; rfl)) ?_
      refine W_reg (jh hX (by simp; (try (simp (disch := omega) only [wrap_i64]; (try simp))); rfl)) ?_
      refine W_reg (jh hX (by simp; (try (simp (disch := omega) only [wrap_i64]; (try simp))); rfl)) ?_
      refine round_endT (if t[i].toNat = c.toNat then (ps ++ [seg t f i], i + 1, i + 1) else (ps, f, i + 1)) [0, 1, 5, 6, 7] 1 (by simp [hX]) (by simp) (by simp [h4, h6, seg]; try (simp (disch := omega) only [wrap_i64])) ?_ ?_
      · first
        | (rw [if_pos h6]; exact ⟨Nat.le_refl _, h4, by simp; omega, by simp, hI2⟩)
        | (rw [if_neg h6]; exact ⟨by simp; omega, h4, by simp; omega, hn2, hI⟩)
      · first | (rw [if_pos h6]; simp; omega) | (rw [if_neg h6]; simp; omega)
    · try simp at h6
      have h6c : t[i] ≠ c := fun e => h6 (by rw [e])
      have hn2 : ∀ x ∈ (t.drop f).take (i + 1 - f), x ≠ c := by
        rw [show i + 1 - f = (i - f) + 1 from by omega, List.take_succ_eq_append_getElem hdi, hde]
        intro x hx
        rcases List.mem_append.1 hx with hx | hx
        · exact hn x hx
        · simp at hx; rw [hx]; exact h6c
      refine W_skip (W_reg (jh hX (by simp; (try (simp (disch := omega) only [wrap_i64]; (try simp))); rfl)) ?_)
      refine round_endT (if t[i].toNat = c.toNat then (ps ++ [seg t f i], i + 1, i + 1) else (ps, f, i + 1)) [0, 1, 5, 6, 7] 1 (by simp [hX]) (by simp) (by simp [h4, h6, seg]; try (simp (disch := omega) only [wrap_i64])) ?_ ?_
      · first
        | (rw [if_pos h6]; exact ⟨Nat.le_refl _, h4, by simp; omega, by simp, hI2⟩)
        | (rw [if_neg h6]; exact ⟨by simp; omega, h4, by simp; omega, hn2, hI⟩)
      · first | (rw [if_pos h6]; simp; omega) | (rw [if_neg h6]; simp; omega)
  · try simp at h4
    have hfl : f ≤ t.length := by omega
    refine W_exit (W_rseqK [4] (jh hX (by simp [w1, w2, hf, hi, h4, hfl]; rfl)) ?_)
    refine W_ret (W_retR (by simp [w1, w2, hf, hi, h4, hfl]; rfl) ?_ rfl)
    have hil : i = t.length := by omega
    subst hil
    rw [splitL_no (by rw [List.take_of_length_le (by simp)] at hn; exact hn)] at hI
    rw [← hI]
    simp
    exact Wk.refl _
end Go.Proofs
namespace Go.Proofs
open Go Go.Ev


theorem cb_spec_OpForm : Callable Tryz.prog 239 := ⟨_, Tryz.func239, by kernel_rfl, by kernel_rfl⟩
theorem ct_spec_OpForm {op : Int} : Ct Tryz.prog 239 [.int .i64 op] [] (.str (opForm op)) [] := by
  have hol : opsL.length = 45 := rfl
  refine Ct_bodyS tok Tryz.func239 rfl 25 (by kernel_rfl) (by kernel_rfl) fun X hX => ?_
  refine jq [0] ?_
  refine W_rseqK [0, 3] (jF (c:=(by apply ct_spec_l03Ops <;> first | assumption | omega | (simp at *; omega) | simp_all)) (a:=cb_spec_l03Ops) (k:=jr)) ?_
  refine W_seq (W_rseqK [0, 3, 13] (jt 3 (k:=(jm 5 8 [0, 3, 13] (p:=fun b2_3 => by (try simp at b2_3); exact (jh hX (by simp [-atD_lt, -atL_lt]; rfl))) (q:=fun b2_3 => by (try simp at b2_3); exact (jh hX (by simp [-atD_lt, -atL_lt, b2_3]; rfl))) (k:=jf)))) ?_)
  refine jd (fun h2 => ?_) (fun h2 => ?_)
  · try simp at h2
    have hx : opForm op = [33] := by simp only [opForm]; rw [if_pos (by simp [hol] at h2; omega)]
    refine jq [2] ?_
    refine W_ret (je (by simp [h2]; rfl) ?_)
    simp_all [formOf]
  · try simp at h2
    simp only [hol] at h2
    obtain ⟨k, rfl⟩ : ∃ k : Nat, op = (k : Int) := ⟨op.toNat, by omega⟩
    have hk : k < opsL.length := by rw [hol]; omega
    have hf := formOf_ops ⟨k, by omega⟩ (by simp; omega)
    have hl : opsL[k].length ≤ 1048576 := Nat.le_trans (ops_short ⟨k, by omega⟩) (by decide)
    have hof : opForm k = formL.getD (k - 1) [] := by simp only [opForm]; rw [if_neg (by omega)]; congr 1; omega
    have hge : opsL.getD k [] = opsL[k] := by simp [hk]
    simp only [hge] at hf
    rw [hof, ← hf]
    clear hf hof hge
    refine W_skip (W_rseqK [4] (js hX 4 (by simp [h2, hk]; rfl) (jF (c:=(by apply (ct_spec_l01Split (c := 32)) <;> first | assumption | omega | (simp at *; omega) | simp_all)) (a:=cb_spec_l01Split) (k:=jr))) ?_)
    refine W_seq (W_rseqK [4, 21] (jh hX (by simp [h2, hk]; rfl)) ?_)
    refine jd (fun h5 => ?_) (fun h5 => ?_)
    · try simp at h5
      skip
      refine W_rseqK [2] (jh hX (by simp [h2, hk, h5]; rfl)) ?_
      refine W_ret (je (by simp [h2, hk, h5]; rfl) ?_)
      simp_all [formOf]
    · try simp at h5
      refine W_skip (jq [2] ?_)
      refine W_ret (je (by simp [h2, hk]; rfl) ?_)
      simp_all [formOf]
end Go.Proofs
namespace Go.Proofs
open Go Go.Ev


theorem cb_spec_l03Empty : Callable Tryz.prog 251 := ⟨_, Tryz.func251, by kernel_rfl, by kernel_rfl⟩
theorem ct_spec_l03Empty {x : Ins} : Ct Tryz.prog 251 [eI x] [] (.bool (decide (x.cls = [] ∧ x.name = [] ∧ x.desc = []))) [] := by
  refine Ct_bodyS tok Tryz.func251 rfl 16 (by kernel_rfl) (by kernel_rfl) fun X hX => ?_
  refine jq [1] ?_
  refine W_rseqK [2] (jt 4 (k:=(jm 4 6 [1, 10] (p:=fun b1_4 => by (try simp at b1_4); exact (jh hX (by simp [-atD_lt, -atL_lt]; rfl))) (q:=fun b1_4 => by (try simp at b1_4); exact (jh hX (by simp [-atD_lt, -atL_lt]; rfl))) (k:=(jt 1 (k:=(jm 4 11 [15] (p:=fun b1_9 => by (try simp at b1_9); exact (jh hX (by simp [-atD_lt, -atL_lt]; rfl))) (q:=fun b1_9 => by (try simp at b1_9); exact (jh hX (by simp [-atD_lt, -atL_lt]; rfl))) (k:=jr)))))))) ?_
  refine W_ret (je0 ?_)
  (try simp_all) <;> grind
end Go.Proofs
namespace Go.Proofs
open Go Go.Ev


theorem cb_spec_InsRight : Callable Tryz.prog 238 := ⟨_, Tryz.func238, by kernel_rfl, by kernel_rfl⟩
theorem ct_spec_InsRight {x : Ins} (h : sizeI x ≤ 1099511627776) : Ct Tryz.prog 238 [eI x] [] (.bool (insRight x)) [] := by
  simp only [sizeI] at h
  refine Ct_bodyS tok Tryz.func238 rfl 145 (by kernel_rfl) (by kernel_rfl) fun X hX => ?_
  refine jq [1] ?_
  refine W_seq (W_rseqK [1, 5] (jt 2 (k:=(jc [] (c:=(by apply ct_spec_OpForm <;> first | assumption | omega | (simp at *; omega) | simp_all)) (a:=cb_spec_OpForm) (k:=jf)))) ?_)
  refine W_block (jq [1, 5, 6] ?_)
  refine jd (fun h2 => ?_) (fun h2 => ?_)
  · try simp at h2
    refine W_rseqK [2] (jt 4 (k:=(jm 3 11 [14] (p:=fun b3_4 => by (try simp at b3_4); exact (js hX 1 (by simp [-atD_lt, -atL_lt]; rfl) (Runs.call [] rfl (by simp) rfl (by simp [-atD_lt, -atL_lt]; rfl) (by simp; rfl) (by apply ct_spec_l03Empty <;> first | assumption | omega | (simp at *; omega) | simp_all) cb_spec_l03Empty (by simp) (by simp) (by simp [-atD_lt, -atL_lt]; rfl) (jh hX (by simp [-atD_lt, -atL_lt]; rfl))))) (q:=fun b3_4 => by (try simp at b3_4); exact (jh hX (by simp [-atD_lt, -atL_lt]; rfl))) (k:=jr)))) ?_
    refine W_ret (je0 ?_)
    (try simp_all [insRight, insEmpty, isInt, init]) <;> grind
  · try simp at h2
    refine jq [1, 5, 15] ?_
    refine jd (fun h4 => ?_) (fun h4 => ?_)
    · try simp at h4
      refine W_rseqK [2] (jt 2 (k:=(jc [] (c:=(by apply ct_spec_l01Int <;> first | assumption | omega | (simp at *; omega) | simp_all)) (a:=cb_spec_l01Int) (k:=(jt 1 (k:=(jm 3 20 [23] (p:=fun b5_4 => by (try simp at b5_4); exact (js hX 1 (by simp [-atD_lt, -atL_lt]; rfl) (Runs.call [] rfl (by simp) rfl (by simp [-atD_lt, -atL_lt]; rfl) (by simp; rfl) (by apply ct_spec_l03Empty <;> first | assumption | omega | (simp at *; omega) | simp_all) cb_spec_l03Empty (by simp) (by simp) (by simp [-atD_lt, -atL_lt]; rfl) (jh hX (by simp [-atD_lt, -atL_lt]; rfl))))) (q:=fun b5_4 => by (try simp at b5_4); exact (jh hX (by simp [-atD_lt, -atL_lt]; rfl))) (k:=jr)))))))) ?_
      refine W_ret (je0 ?_)
      (try simp_all [insRight, insEmpty, isInt, init]) <;> grind
    · try simp at h4
      refine jq [1, 5, 24] ?_
      refine jd (fun h6 => ?_) (fun h6 => ?_)
      · try simp at h6
        refine W_rseqK [2] (jt 4 (k:=(jm 4 29 [1, 33] (p:=fun b7_4 => by (try simp at b7_4); exact (jh hX (by simp [-atD_lt, -atL_lt, b7_4]; rfl))) (q:=fun b7_4 => by (try simp at b7_4); exact (jh hX (by simp [-atD_lt, -atL_lt]; rfl))) (k:=(jt 1 (k:=(jm 3 34 [37] (p:=fun b7_9 => by (try simp at b7_9); exact (js hX 1 (by simp [-atD_lt, -atL_lt, b7_9]; rfl) (Runs.call [] rfl (by simp) rfl (by simp [-atD_lt, -atL_lt]; rfl) (by simp; rfl) (by apply ct_spec_l03Empty <;> first | assumption | omega | (simp at *; omega) | simp_all) cb_spec_l03Empty (by simp) (by simp) (by simp [-atD_lt, -atL_lt]; rfl) (jh hX (by simp [-atD_lt, -atL_lt]; rfl))))) (q:=fun b7_9 => by (try simp at b7_9); exact (jh hX (by simp [-atD_lt, -atL_lt]; rfl))) (k:=jr)))))))) ?_
        refine W_ret (je0 ?_)
        (try simp_all [insRight, insEmpty, isInt, init]) <;> grind
      · try simp at h6
        refine jq [1, 5, 38] ?_
        refine jd (fun h8 => ?_) (fun h8 => ?_)
        · try simp at h8
          refine W_rseqK [2] (jt 4 (k:=(jm 4 43 [1, 47] (p:=fun b9_4 => by (try simp at b9_4); exact (jh hX (by simp [-atD_lt, -atL_lt, b9_4]; rfl))) (q:=fun b9_4 => by (try simp at b9_4); exact (jh hX (by simp [-atD_lt, -atL_lt]; rfl))) (k:=(jt 1 (k:=(jm 3 48 [51] (p:=fun b9_9 => by (try simp at b9_9); exact (js hX 1 (by simp [-atD_lt, -atL_lt, b9_9]; rfl) (Runs.call [] rfl (by simp) rfl (by simp [-atD_lt, -atL_lt]; rfl) (by simp; rfl) (by apply ct_spec_l03Empty <;> first | assumption | omega | (simp at *; omega) | simp_all) cb_spec_l03Empty (by simp) (by simp) (by simp [-atD_lt, -atL_lt]; rfl) (jh hX (by simp [-atD_lt, -atL_lt]; rfl))))) (q:=fun b9_9 => by (try simp at b9_9); exact (jh hX (by simp [-atD_lt, -atL_lt]; rfl))) (k:=jr)))))))) ?_
          refine W_ret (je0 ?_)
          (try simp_all [insRight, insEmpty, isInt, init]) <;> grind
        · try simp at h8
          refine jq [1, 5, 52] ?_
          refine jd (fun h10 => ?_) (fun h10 => ?_)
          · try simp at h10
            refine W_rseqK [2] (jt 4 (k:=(jm 4 57 [1, 61] (p:=fun b11_4 => by (try simp at b11_4); exact (js hX 2 (by simp [-atD_lt, -atL_lt]; rfl) (Runs.call [] rfl (by simp) rfl (by simp [-atD_lt, -atL_lt]; rfl) (by simp; rfl) (by apply ct_spec_NameRight <;> first | assumption | omega | (simp at *; omega) | simp_all) cb_spec_NameRight (by simp) (by simp) (by simp [-atD_lt, -atL_lt]; rfl) (jh hX (by simp [-atD_lt, -atL_lt]; rfl))))) (q:=fun b11_4 => by (try simp at b11_4); exact (jh hX (by simp [-atD_lt, -atL_lt]; rfl))) (k:=(jt 1 (k:=(jm 4 62 [1, 66] (p:=fun b11_9 => by (try simp at b11_9); exact (jh hX (by simp [-atD_lt, -atL_lt]; rfl))) (q:=fun b11_9 => by (try simp at b11_9); exact (jh hX (by simp [-atD_lt, -atL_lt]; rfl))) (k:=(jt 1 (k:=(jm 4 67 [71] (p:=fun b11_14 => by (try simp at b11_14); exact (jh hX (by simp [-atD_lt, -atL_lt]; rfl))) (q:=fun b11_14 => by (try simp at b11_14); exact (jh hX (by simp [-atD_lt, -atL_lt]; rfl))) (k:=jr)))))))))))) ?_
            refine W_ret (je0 ?_)
            (try simp_all [insRight, insEmpty, isInt, init]) <;> grind
          · try simp at h10
            refine jq [1, 5, 72] ?_
            refine jd (fun h12 => ?_) (fun h12 => ?_)
            · try simp at h12
              refine W_rseqK [2] (jt 4 (k:=(jm 4 77 [1, 81] (p:=fun b13_4 => by (try simp at b13_4); exact (jh hX (by simp [-atD_lt, -atL_lt]; rfl))) (q:=fun b13_4 => by (try simp at b13_4); exact (jh hX (by simp [-atD_lt, -atL_lt]; rfl))) (k:=(jt 1 (k:=(jm 4 82 [1, 86] (p:=fun b13_9 => by (try simp at b13_9); exact (jh hX (by simp [-atD_lt, -atL_lt]; rfl))) (q:=fun b13_9 => by (try simp at b13_9); exact (jh hX (by simp [-atD_lt, -atL_lt]; rfl))) (k:=(jt 1 (k:=(jm 4 87 [1, 91] (p:=fun b13_14 => by (try simp at b13_14); exact (js hX 2 (by simp [-atD_lt, -atL_lt]; rfl) (Runs.call [] rfl (by simp) rfl (by simp [-atD_lt, -atL_lt]; rfl) (by simp; rfl) (by apply ct_spec_TypeRight <;> first | assumption | omega | (simp at *; omega) | simp_all) cb_spec_TypeRight (by simp) (by simp) (by simp [-atD_lt, -atL_lt]; rfl) (jh hX (by simp [-atD_lt, -atL_lt]; rfl))))) (q:=fun b13_14 => by (try simp at b13_14); exact (jh hX (by simp [-atD_lt, -atL_lt]; rfl))) (k:=(jt 1 (k:=(jm 5 92 [97] (p:=fun b13_19 => by (try simp at b13_19); (have hlt := (len_of_typeRight b13_19.2).1; have hat := isAt_lt (n := 91) hlt); exact (jh hX (by simp [-atD_lt, -atL_lt, hlt]; rfl))) (q:=fun b13_19 => by (try simp at b13_19); exact (jh hX (by simp [-atD_lt, -atL_lt]; rfl))) (k:=jr)))))))))))))))) ?_
              refine W_ret (je0 ?_)
              by_cases hd : typeRight x.desc = true
              · have hlt := (len_of_typeRight hd).1
                have hat := isAt_lt (n := 91) hlt
                have had := atD_lt hlt
                (try simp_all [insRight, insEmpty]) <;> grind
              · (try simp_all [insRight, insEmpty]) <;> grind
            · try simp at h12
              refine jq [1, 5, 98] ?_
              refine jd (fun h14 => ?_) (fun h14 => ?_)
              · try simp at h14
                refine W_rseqK [2] (jt 4 (k:=(jm 4 103 [1, 107] (p:=fun b15_4 => by (try simp at b15_4); exact (js hX 2 (by simp [-atD_lt, -atL_lt]; rfl) (Runs.call [] rfl (by simp) rfl (by simp [-atD_lt, -atL_lt]; rfl) (by simp; rfl) (by apply ct_spec_NameRight <;> first | assumption | omega | (simp at *; omega) | simp_all) cb_spec_NameRight (by simp) (by simp) (by simp [-atD_lt, -atL_lt]; rfl) (jh hX (by simp [-atD_lt, -atL_lt]; rfl))))) (q:=fun b15_4 => by (try simp at b15_4); exact (jh hX (by simp [-atD_lt, -atL_lt]; rfl))) (k:=(jt 1 (k:=(jm 4 108 [1, 112] (p:=fun b15_9 => by (try simp at b15_9); exact (js hX 2 (by simp [-atD_lt, -atL_lt]; rfl) (Runs.call [] rfl (by simp) rfl (by simp [-atD_lt, -atL_lt]; rfl) (by simp; rfl) (by apply ct_spec_NameRight <;> first | assumption | omega | (simp at *; omega) | simp_all) cb_spec_NameRight (by simp) (by simp) (by simp [-atD_lt, -atL_lt]; rfl) (jh hX (by simp [-atD_lt, -atL_lt]; rfl))))) (q:=fun b15_9 => by (try simp at b15_9); exact (jh hX (by simp [-atD_lt, -atL_lt]; rfl))) (k:=(jt 1 (k:=(jm 4 113 [117] (p:=fun b15_14 => by (try simp at b15_14); exact (js hX 2 (by simp [-atD_lt, -atL_lt]; rfl) (Runs.call [] rfl (by simp) rfl (by simp [-atD_lt, -atL_lt]; rfl) (by simp; rfl) (by apply ct_spec_TypeRight <;> first | assumption | omega | (simp at *; omega) | simp_all) cb_spec_TypeRight (by simp) (by simp) (by simp [-atD_lt, -atL_lt]; rfl) (jh hX (by simp [-atD_lt, -atL_lt]; rfl))))) (q:=fun b15_14 => by (try simp at b15_14); exact (jh hX (by simp [-atD_lt, -atL_lt]; rfl))) (k:=jr)))))))))))) ?_
                refine W_ret (je0 ?_)
                (try simp_all [insRight, insEmpty, isInt, init]) <;> grind
              · try simp at h14
                refine jq [1, 118] ?_
                refine jd (fun h16 => ?_) (fun h16 => ?_)
                · try simp at h16
                  refine W_rseqK [2] (jt 4 (k:=(jm 4 123 [1, 127] (p:=fun b17_4 => by (try simp at b17_4); exact (js hX 2 (by simp [-atD_lt, -atL_lt]; rfl) (Runs.call [] rfl (by simp) rfl (by simp [-atD_lt, -atL_lt]; rfl) (by simp; rfl) (by apply ct_spec_NameRight <;> first | assumption | omega | (simp at *; omega) | simp_all) cb_spec_NameRight (by simp) (by simp) (by simp [-atD_lt, -atL_lt]; rfl) (jh hX (by simp [-atD_lt, -atL_lt]; rfl))))) (q:=fun b17_4 => by (try simp at b17_4); exact (jh hX (by simp [-atD_lt, -atL_lt]; rfl))) (k:=(jt 1 (k:=(jm 9 128 [1, 137] (p:=fun b17_9 => by (try simp at b17_9); exact (js hX 2 (by simp [-atD_lt, -atL_lt]; rfl) (Runs.call [] rfl (by simp) rfl (by simp [-atD_lt, -atL_lt]; rfl) (by simp; rfl) (by apply ct_spec_NameRight <;> first | assumption | omega | (simp at *; omega) | simp_all) cb_spec_NameRight (by simp) (by simp) (by simp [-atD_lt, -atL_lt]; rfl) (js hX 1 (by simp [-atD_lt, -atL_lt]; rfl) (jm 4 132 [1, 128, 136] (p:=fun b17_13 => by (try simp at b17_13); exact (jh hX (by simp [-atD_lt, -atL_lt]; rfl))) (q:=fun b17_13 => by (try simp at b17_13); exact (jh hX (by simp [-atD_lt, -atL_lt]; rfl))) (k:=(jh hX (by simp [-atD_lt, -atL_lt]; rfl)))))))) (q:=fun b17_9 => by (try simp at b17_9); exact (jh hX (by simp [-atD_lt, -atL_lt]; rfl))) (k:=(jt 1 (k:=(jm 6 138 [144] (p:=fun b17_19 => by (try simp at b17_19); exact (js hX 2 (by simp [-atD_lt, -atL_lt]; rfl) (Runs.callF rfl (by simp) rfl (by simp [-atD_lt, -atL_lt]; rfl) (by apply ct_spec_DescRead <;> first | assumption | omega | (simp at *; omega) | simp_all) cb_spec_DescRead (by simp [-atD_lt, -atL_lt]; rfl) (jh hX (by simp [-atD_lt, -atL_lt]; rfl))))) (q:=fun b17_19 => by (try simp at b17_19); exact (jh hX (by simp [-atD_lt, -atL_lt]; rfl))) (k:=jr)))))))))))) ?_
                  refine W_ret (je0 ?_)
                  (try simp_all [insRight, insEmpty, isInt, init]) <;> grind
                · try simp at h16
                  refine W_skip (jq [2] ?_)
                  refine W_ret (je0 ?_)
                  (try simp_all [insRight, insEmpty, isInt, init]) <;> grind
end Go.Proofs
namespace Go.Proofs
open Go Go.Ev


theorem cb_spec_l03Handler : Callable Tryz.prog 240 := ⟨_, Tryz.func240, by kernel_rfl, by kernel_rfl⟩
theorem ct_spec_l03Handler {x : Hdl} {n : Int} (h : x.cls.length ≤ 1099511627776) : Ct Tryz.prog 240 [eH x, .int .i64 n] [] (.bool (hdlRight n x)) [] := by
  refine Ct_bodyS tok Tryz.func240 rfl 37 (by kernel_rfl) (by kernel_rfl) fun X hX => ?_
  refine jq [1, 2] ?_
  refine W_rseqK [4] (jt 4 (k:=(jm 6 8 [1, 2, 14] (p:=fun b1_4 => by (try simp at b1_4); exact (jh hX (by simp [-atD_lt, -atL_lt, b1_4]; rfl))) (q:=fun b1_4 => by (try simp at b1_4); exact (jh hX (by simp [-atD_lt, -atL_lt]; rfl))) (k:=(jt 1 (k:=(jm 5 15 [1, 2, 20] (p:=fun b1_11 => by (try simp at b1_11); exact (jh hX (by simp [-atD_lt, -atL_lt, b1_11]; rfl))) (q:=fun b1_11 => by (try simp at b1_11); exact (jh hX (by simp [-atD_lt, -atL_lt]; rfl))) (k:=(jt 1 (k:=(jm 4 21 [1, 2, 25] (p:=fun b1_17 => by (try simp at b1_17); exact (jh hX (by simp [-atD_lt, -atL_lt, b1_17]; rfl))) (q:=fun b1_17 => by (try simp at b1_17); exact (jh hX (by simp [-atD_lt, -atL_lt]; rfl))) (k:=(jt 1 (k:=(jm 5 26 [2, 31] (p:=fun b1_22 => by (try simp at b1_22); exact (jh hX (by simp [-atD_lt, -atL_lt, b1_22]; rfl))) (q:=fun b1_22 => by (try simp at b1_22); exact (jh hX (by simp [-atD_lt, -atL_lt]; rfl))) (k:=(jt 1 (k:=(jm 4 32 [36] (p:=fun b1_28 => by (try simp at b1_28); exact (js hX 2 (by simp [-atD_lt, -atL_lt, b1_28]; rfl) (Runs.call [] rfl (by simp) rfl (by simp [-atD_lt, -atL_lt]; rfl) (by simp; rfl) (by apply ct_spec_NameRight <;> first | assumption | omega | (simp at *; omega) | simp_all) cb_spec_NameRight (by simp) (by simp) (by simp [-atD_lt, -atL_lt]; rfl) (jh hX (by simp [-atD_lt, -atL_lt]; rfl))))) (q:=fun b1_28 => by (try simp at b1_28); exact (jh hX (by simp [-atD_lt, -atL_lt]; rfl))) (k:=jr)))))))))))))))))))) ?_
  refine W_ret (je0 ?_)
  (try simp_all [hdlRight]) <;> grind
end Go.Proofs
namespace Go.Proofs
open Go Go.Ev


theorem cb_spec_MethodRight : Callable Tryz.prog 213 := ⟨_, Tryz.func213, by kernel_rfl, by kernel_rfl⟩
theorem ct_spec_MethodRight {x : Mth} (h : sizeM x ≤ 1099511627776) : Ct Tryz.prog 213 [eM x] [] (.bool (mthRight x)) [] := by
  simp only [sizeM] at h
  refine Ct_bodyS tok Tryz.func213 rfl 180 (by kernel_rfl) (by kernel_rfl) fun X hX => ?_
  refine jq [1] ?_
  refine W_rseqK [1, 3] (jt 2 (k:=(jF (c:=(by apply ct_spec_DescRead <;> first | assumption | omega | (have := mem_sum (f := sizeI) (List.getElem_mem (l := x.code) (n := i) (by omega)); simp only [sizeI] at *; omega) | (have := mem_sum (f := sizeH) (List.getElem_mem (l := x.hdls) (n := i) (by omega)); simp only [sizeH] at *; omega))) (a:=cb_spec_DescRead) (k:=jr)))) ?_
  refine W_seq (W_rseqK [1, 3, 44] (jt 2 (k:=(jc [] (c:=(by apply ct_spec_NameRight <;> first | assumption | omega | (have := mem_sum (f := sizeI) (List.getElem_mem (l := x.code) (n := i) (by omega)); simp only [sizeI] at *; omega) | (have := mem_sum (f := sizeH) (List.getElem_mem (l := x.hdls) (n := i) (by omega)); simp only [sizeH] at *; omega))) (a:=cb_spec_NameRight) (k:=(jt 2 (k:=(jm 4 15 [1, 3, 19] (p:=fun b2_5 => by (try simp at b2_5); exact (jh hX (by simp [-atD_lt, -atL_lt]; rfl))) (q:=fun b2_5 => by (try simp at b2_5); exact (jh hX (by simp [-atD_lt, -atL_lt]; rfl))) (k:=(jt 1 (k:=(jm 4 20 [1, 3, 24] (p:=fun b2_10 => by (try simp at b2_10); exact (jh hX (by simp [-atD_lt, -atL_lt]; rfl))) (q:=fun b2_10 => by (try simp at b2_10); exact (jh hX (by simp [-atD_lt, -atL_lt]; rfl))) (k:=(jt 1 (k:=(jm 4 25 [1, 3, 29] (p:=fun b2_15 => by (try simp at b2_15); exact (jh hX (by simp [-atD_lt, -atL_lt]; rfl))) (q:=fun b2_15 => by (try simp at b2_15); exact (jh hX (by simp [-atD_lt, -atL_lt]; rfl))) (k:=(jt 1 (k:=(jm 4 30 [1, 3, 34] (p:=fun b2_20 => by (try simp at b2_20); exact (jh hX (by simp [-atD_lt, -atL_lt]; rfl))) (q:=fun b2_20 => by (try simp at b2_20); exact (jh hX (by simp [-atD_lt, -atL_lt, b2_20]; rfl))) (k:=(jt 1 (k:=(jm 4 35 [1, 3, 39] (p:=fun b2_25 => by (try simp at b2_25); exact (jh hX (by simp [-atD_lt, -atL_lt]; rfl))) (q:=fun b2_25 => by (try simp at b2_25); exact (jh hX (by simp [-atD_lt, -atL_lt, b2_25]; rfl))) (k:=(jt 1 (k:=(jm 4 40 [1, 3, 44] (p:=fun b2_30 => by (try simp at b2_30); exact (jh hX (by simp [-atD_lt, -atL_lt]; rfl))) (q:=fun b2_30 => by (try simp at b2_30); exact (jh hX (by simp [-atD_lt, -atL_lt, b2_30]; rfl))) (k:=jf)))))))))))))))))))))))))))) ?_)
  refine jd (fun h2 => ?_) (fun h2 => ?_)
  · try simp at h2
    have hh : mthHead x = false := by unfold mthHead init; grind
    refine jq [2] ?_
    refine W_ret (je (by simp [h2]; rfl) ?_)
    rw [mthRight_no hh]
  · try simp at h2
    have hh : mthHead x = true := by unfold mthHead init; grind
    refine W_skip (W_seq (W_rseqK [1, 3, 46] (jh hX (by simp [h2]; rfl)) ?_))
    refine jd (fun h4 => ?_) (fun h4 => ?_)
    · try simp at h4
      refine W_rseqK [2] (js hX 4 (by simp [h2]; rfl) (jm 4 50 [1, 54] (p:=fun b5_4 => by (try simp at b5_4); exact (jh hX (by simp [-atD_lt, -atL_lt, h2]; rfl))) (q:=fun b5_4 => by (try simp at b5_4); exact (jh hX (by simp [-atD_lt, -atL_lt]; rfl))) (k:=(jt 1 (k:=(jm 5 55 [1, 60] (p:=fun b5_9 => by (try simp at b5_9); exact (jh hX (by simp [-atD_lt, -atL_lt, h2]; rfl))) (q:=fun b5_9 => by (try simp at b5_9); exact (jh hX (by simp [-atD_lt, -atL_lt]; rfl))) (k:=(jt 1 (k:=(jm 5 61 [1, 66] (p:=fun b5_15 => by (try simp at b5_15); exact (jh hX (by simp [-atD_lt, -atL_lt, h2]; rfl))) (q:=fun b5_15 => by (try simp at b5_15); exact (jh hX (by simp [-atD_lt, -atL_lt]; rfl))) (k:=(jt 1 (k:=(jm 4 67 [1, 71] (p:=fun b5_21 => by (try simp at b5_21); exact (jh hX (by simp [-atD_lt, -atL_lt, h2]; rfl))) (q:=fun b5_21 => by (try simp at b5_21); exact (jh hX (by simp [-atD_lt, -atL_lt]; rfl))) (k:=(jt 1 (k:=(jm 4 72 [1, 76] (p:=fun b5_26 => by (try simp at b5_26); exact (jh hX (by simp [-atD_lt, -atL_lt, h2]; rfl))) (q:=fun b5_26 => by (try simp at b5_26); exact (jh hX (by simp [-atD_lt, -atL_lt]; rfl))) (k:=(jt 1 (k:=(jm 4 77 [81] (p:=fun b5_31 => by (try simp at b5_31); exact (jh hX (by simp [-atD_lt, -atL_lt, h2]; rfl))) (q:=fun b5_31 => by (try simp at b5_31); exact (jh hX (by simp [-atD_lt, -atL_lt]; rfl))) (k:=jr))))))))))))))))))))))) ?_
      refine W_ret (je (by simp [h2]; rfl) ?_)
      rw [mthRight_abs hh h4]
      simp [init]; grind
    · try simp at h4
      refine W_skip (W_rseqK [1, 3, 4] (jh hX (by simp [h2]; rfl)) ?_)
      refine W_rseqK [1, 3, 4, 5] (jh hX (by simp [h2]; rfl)) ?_
      refine W_seq (W_rseqK [1, 3, 4, 5, 91] (jh hX (by simp [h2]; rfl)) ?_)
      refine' W_condS3 [1, 3, 4, 5] (by simp; rfl) (by rfl) (fun h8 => ?a1_1) (fun h8 => ?a0_1) ?ak_1
      case a1_1 =>
        try simp at h8
        refine W_reg (jh hX (by simp; (try (simp (disch := omega) only [wrap_i64]; (try simp))); rfl)) ?_
        exact ⟨rfl, Eq.trans (by (try simp); rfl) (by rfl)⟩
      case a0_1 =>
        try simp at h8
        refine W_skip ?_
        exact ⟨rfl, Eq.trans (by (try simp); rfl) (by rfl)⟩
      case ak_1 =>
        refine W_le (Le.of_eq (by simp; rfl)) ?_
        have hpl := descRead_le x.desc
        have hw : IntKind.i64.wrap (((descRead x.desc).params.length : Int) + 1) = (descRead x.desc).params.length + 1 := wrap_i64 (by omega) (by omega)
        simp only [hw]
        refine W_seq (W_rseqK [1, 3, 4, 111] (jt 3 (k:=(jm 3 96 [1, 3, 4, 5, 99] (p:=fun b10_3 => by (try simp at b10_3); exact (jh hX (by simp [-atD_lt, -atL_lt]; rfl))) (q:=fun b10_3 => by (try simp at b10_3); exact (jh hX (by simp [-atD_lt, -atL_lt]; rfl))) (k:=(jt 1 (k:=(jm 5 100 [1, 3, 4, 105] (p:=fun b10_7 => by (try simp at b10_7); exact (jh hX (by simp [-atD_lt, -atL_lt]; rfl))) (q:=fun b10_7 => by (try simp at b10_7); exact (jh hX (by simp [-atD_lt, -atL_lt, h2, b10_7]; rfl))) (k:=(jt 1 (k:=(jm 5 106 [1, 3, 4, 111] (p:=fun b10_13 => by (try simp at b10_13); exact (jh hX (by simp [-atD_lt, -atL_lt]; rfl))) (q:=fun b10_13 => by (try simp at b10_13); exact (jh hX (by simp [-atD_lt, -atL_lt, h2, b10_13]; rfl))) (k:=jf)))))))))))) ?_)
        refine jd (fun h10 => ?_) (fun h10 => ?_)
        · try simp at h10
          rw [mthRight_out h4 (by unfold needs; grind)]
          refine jq [2] ?_
          refine W_ret (je (by simp [h2, h10]; rfl) ?_)
          rfl
        · try simp at h10
          rw [mthRight_in hh h4 (by unfold needs; grind)]
          refine W_skip (W_seq (jq [1, 3, 4, 6] ?_))
          refine W_block (W_loopU (α := Nat) [1, 3, 4, 6] (fun i => [(6, .int .i64 i)]) (fun i => []) (fun i => i ≤ x.code.length ∧ (x.code.drop i).all (codeOK x.code.length) = x.code.all (codeOK x.code.length)) (fun i => x.code.length - i) (0) (fun i => by simp; rfl) (by simp) ?_ ?_)
          · simp
          rintro i ⟨hi, hI⟩
          refine W_seq (W_rseqK [1, 3, 4, 6, 116] (jh hX (by simp [h2, h10]; rfl)) ?_)
          refine jd (fun h13 => ?_) (fun h13 => ?_)
          · try simp at h13
            rw [all_drop h13] at hI
            refine W_skip (W_seq (W_block (W_rseqK [1, 3, 4, 6, 145] (js hX 5 (by simp [h2, h10, h13]; rfl) (jc [] (c:=(by apply ct_spec_InsRight <;> first | assumption | omega | (have := mem_sum (f := sizeI) (List.getElem_mem (l := x.code) (n := i) (by omega)); simp only [sizeI] at *; omega) | (have := mem_sum (f := sizeH) (List.getElem_mem (l := x.hdls) (n := i) (by omega)); simp only [sizeH] at *; omega))) (a:=cb_spec_InsRight) (k:=(jt 2 (k:=(jm 19 126 [1, 3, 4, 6, 145] (p:=fun b15_8 => by (try simp at b15_8); exact (jh hX (by simp [-atD_lt, -atL_lt]; rfl))) (q:=fun b15_8 => by (try simp at b15_8); exact (js hX 6 (by simp [-atD_lt, -atL_lt, h2, h10, h13]; rfl) (Runs.call [] rfl (by simp) rfl (by simp [-atD_lt, -atL_lt]; rfl) (by simp; rfl) (by apply ct_spec_OpForm <;> first | assumption | omega | (have := mem_sum (f := sizeI) (List.getElem_mem (l := x.code) (n := i) (by omega)); simp only [sizeI] at *; omega) | (have := mem_sum (f := sizeH) (List.getElem_mem (l := x.hdls) (n := i) (by omega)); simp only [sizeH] at *; omega)) cb_spec_OpForm (by simp) (by simp) (by simp [-atD_lt, -atL_lt]; rfl) (js hX 2 (by simp [-atD_lt, -atL_lt]; rfl) (jm 9 135 [1, 3, 4, 6, 126, 144] (p:=fun b15_17 => by (try simp at b15_17); exact (jh hX (by simp [-atD_lt, -atL_lt, h2, h10, h13]; rfl))) (q:=fun b15_17 => by (try simp at b15_17); exact (jh hX (by simp [-atD_lt, -atL_lt]; rfl))) (k:=(jh hX (by simp [-atD_lt, -atL_lt]; rfl)))))))) (k:=jf))))))) ?_)))
            refine jd (fun h15 => ?_) (fun h15 => ?_)
            · try simp at h15
              refine jq [2] ?_
              refine W_ret (je (by simp [h2, h10, h13, h15]; rfl) ?_)
              simp only [atL_lt h13] at h15
              have : codeOK x.code.length x.code[i] = false := by unfold codeOK; grind
              simp [← hI, this]
            · try simp at h15
              simp only [atL_lt h13] at h15
              have h15b : codeOK x.code.length x.code[i] = true := by unfold codeOK; grind
              rw [h15b, Bool.true_and] at hI
              refine W_skip (W_reg (jh hX (by simp; (try (simp (disch := omega) only [wrap_i64]; (try simp))); rfl)) ?_)
              refine round_end (i + 1) [1, 3, 4, 6] (by simp [h2, h10, h13, h15]; try (simp (disch := omega) only [wrap_i64])) ?_ ?_
              · exact ⟨by omega, hI⟩
              · omega
          · try simp at h13
            rw [List.drop_eq_nil_of_le h13] at hI
            refine W_exit (W_seq (jq [1, 3, 4, 7] ?_))
            refine W_block (W_loopU (α := Nat) [1, 3, 4, 7] (fun i => [(7, .int .i64 i)]) (fun i => []) (fun i => i ≤ x.hdls.length ∧ (x.hdls.drop i).all (hdlRight x.code.length) = x.hdls.all (hdlRight x.code.length)) (fun i => x.hdls.length - i) (0) (fun i => by simp; rfl) (by simp) ?_ ?_)
            · simp
            rintro i ⟨hi2, hI2⟩
            refine W_seq (W_rseqK [1, 3, 4, 7, 150] (jh hX (by simp [h2, h10, h13]; rfl)) ?_)
            refine jd (fun h18 => ?_) (fun h18 => ?_)
            · try simp at h18
              rw [all_drop h18] at hI2
              refine W_skip (W_seq (W_block (W_rseqK [1, 3, 4, 7, 160] (js hX 6 (by simp [h2, h10, h13, h18]; rfl) (jc [] (c:=(by apply ct_spec_l03Handler <;> first | assumption | omega | (have := mem_sum (f := sizeI) (List.getElem_mem (l := x.code) (n := i) (by omega)); simp only [sizeI] at *; omega) | (have := mem_sum (f := sizeH) (List.getElem_mem (l := x.hdls) (n := i) (by omega)); simp only [sizeH] at *; omega))) (a:=cb_spec_l03Handler) (k:=jr))) ?_)))
              refine jd (fun h20 => ?_) (fun h20 => ?_)
              · try simp at h20
                refine jq [2] ?_
                refine W_ret (je (by simp [h2, h10, h13, h18]; rfl) ?_)
                simp [← hI2, h20]
              · try simp at h20
                rw [h20, Bool.true_and] at hI2
                refine W_skip (W_reg (jh hX (by simp; (try (simp (disch := omega) only [wrap_i64]; (try simp))); rfl)) ?_)
                refine round_end (i + 1) [1, 3, 4, 7] (by simp [h2, h10, h13, h18]; try (simp (disch := omega) only [wrap_i64])) ?_ ?_
                · exact ⟨by omega, hI2⟩
                · omega
            · try simp at h18
              rw [List.drop_eq_nil_of_le h18] at hI2
              refine W_exit (W_rseqK [2] (js hX 4 (by simp [h2, h10, h13, h18]; rfl) (jm 15 164 [179] (p:=fun b22_4 => by (try simp at b22_4); exact (jh hX (by simp [-atD_lt, -atL_lt]; rfl))) (q:=fun b22_4 => by (try simp at b22_4); exact (js hX 4 (by simp [-atD_lt, -atL_lt, h2, h10, h13, h18]; rfl) (jm 4 168 [3, 164, 172] (p:=fun b22_8 => by (try simp at b22_8); exact (jh hX (by simp [-atD_lt, -atL_lt, h2, h10, h13, h18]; rfl))) (q:=fun b22_8 => by (try simp at b22_8); exact (jh hX (by simp [-atD_lt, -atL_lt]; rfl))) (k:=(js hX 1 (by simp [-atD_lt, -atL_lt]; rfl) (jm 5 173 [164, 178] (p:=fun b22_13 => by (try simp at b22_13); exact (jh hX (by simp [-atD_lt, -atL_lt, h2, h10, h13, h18]; rfl))) (q:=fun b22_13 => by (try simp at b22_13); exact (jh hX (by simp [-atD_lt, -atL_lt]; rfl))) (k:=(jh hX (by simp [-atD_lt, -atL_lt]; rfl))))))))) (k:=jr))) ?_)
              refine W_ret (je (by simp [h2, h10, h13, h18]; rfl) ?_)
              simp [← hI, ← hI2, init]; grind
end Go.Proofs
namespace Go.Proofs
open Go Go.Ev


theorem cb_spec_ClassRight : Callable Tryz.prog 162 := ⟨_, Tryz.func162, by kernel_rfl, by kernel_rfl⟩
theorem ct_spec_ClassRight {x : Cls} (h : sizeC x ≤ 1099511627776) : Ct Tryz.prog 162 [eC x] [] (.bool (clsRight x)) [] := by
  simp only [sizeC] at h
  refine Ct_bodyS tok Tryz.func162 rfl 137 (by kernel_rfl) (by kernel_rfl) fun X hX => ?_
  refine jq [1] ?_
  refine W_seq (W_rseqK [1, 44] (jt 2 (k:=(jc [] (c:=(by apply ct_spec_NameRight <;> first | assumption | omega | (have := mem_sum (f := sizeF) (List.getElem_mem h4); simp only [sizeF] at *; (try simp only [atL_lt h4]); omega) | (have := mem_sum (f := sizeM) (List.getElem_mem h14); omega))) (a:=cb_spec_NameRight) (k:=(jt 2 (k:=(jm 5 12 [1, 17] (p:=fun b1_5 => by (try simp at b1_5); exact (jh hX (by simp [-atD_lt, -atL_lt]; rfl))) (q:=fun b1_5 => by (try simp at b1_5); exact (js hX 2 (by simp [-atD_lt, -atL_lt]; rfl) (Runs.call [] rfl (by simp) rfl (by simp [-atD_lt, -atL_lt]; rfl) (by simp; rfl) (by apply ct_spec_NameRight <;> first | assumption | omega | (have := mem_sum (f := sizeF) (List.getElem_mem h4); simp only [sizeF] at *; (try simp only [atL_lt h4]); omega) | (have := mem_sum (f := sizeM) (List.getElem_mem h14); omega)) cb_spec_NameRight (by simp) (by simp) (by simp [-atD_lt, -atL_lt]; rfl) (jh hX (by simp [-atD_lt, -atL_lt]; rfl))))) (k:=(jt 1 (k:=(jm 6 18 [1, 24] (p:=fun b1_11 => by (try simp at b1_11); exact (jh hX (by simp [-atD_lt, -atL_lt]; rfl))) (q:=fun b1_11 => by (try simp at b1_11); exact (jh hX (by simp [-atD_lt, -atL_lt]; rfl))) (k:=(jt 1 (k:=(jm 7 25 [1, 32] (p:=fun b1_18 => by (try simp at b1_18); exact (jh hX (by simp [-atD_lt, -atL_lt]; rfl))) (q:=fun b1_18 => by (try simp at b1_18); exact (js hX 3 (by simp [-atD_lt, -atL_lt]; rfl) (jm 3 28 [1, 25, 31] (p:=fun b1_21 => by (try simp at b1_21); exact (jh hX (by simp [-atD_lt, -atL_lt]; rfl))) (q:=fun b1_21 => by (try simp at b1_21); exact (jh hX (by simp [-atD_lt, -atL_lt]; rfl))) (k:=(jh hX (by simp [-atD_lt, -atL_lt]; rfl)))))) (k:=(jt 1 (k:=(jm 5 33 [1, 38] (p:=fun b1_26 => by (try simp at b1_26); exact (jh hX (by simp [-atD_lt, -atL_lt]; rfl))) (q:=fun b1_26 => by (try simp at b1_26); exact (jh hX (by simp [-atD_lt, -atL_lt]; rfl))) (k:=(jt 1 (k:=(jm 5 39 [1, 44] (p:=fun b1_32 => by (try simp at b1_32); exact (jh hX (by simp [-atD_lt, -atL_lt]; rfl))) (q:=fun b1_32 => by (try simp at b1_32); exact (jh hX (by simp [-atD_lt, -atL_lt, b1_32]; rfl))) (k:=jf)))))))))))))))))))))))) ?_)
  refine jd (fun h1 => ?_) (fun h1 => ?_)
  · try simp at h1
    have hh : clsHead x = false := by unfold clsHead; grind
    refine jq [2] ?_
    refine W_ret (je (by simp [h1]; rfl) ?_)
    simp [clsRight, hh]
  · try simp at h1
    have hh : clsHead x = true := by unfold clsHead; grind
    rw [show clsRight x = (fldsR [] x.fields && mthsR x.abstr [] x.methods) from by simp [clsRight, hh]]
    refine W_skip (W_seq (jq [1, 3] ?_))
    refine W_block (W_loopU (α := Nat) [1, 3] (fun i => [(3, .int .i64 i)]) (fun i => []) (fun i => i ≤ x.fields.length ∧ fldsR (x.fields.take i) (x.fields.drop i) = fldsR [] x.fields) (fun i => x.fields.length - i) (0) (fun i => by simp; rfl) (by simp) ?_ ?_)
    · simp
    rintro i ⟨hi, hI⟩
    refine W_seq (W_rseqK [1, 3, 49] (jh hX (by simp [h1]; rfl)) ?_)
    refine jd (fun h4 => ?_) (fun h4 => ?_)
    · try simp at h4
      rw [List.drop_eq_getElem_cons h4] at hI
      simp only [fldsR] at hI
      refine W_skip (W_seq (W_block (W_seq (W_rseqK [1, 3, 69] (js hX 6 (by simp [h1, h4]; rfl) (jc [] (c:=(by apply ct_spec_NameRight <;> first | assumption | omega | (have := mem_sum (f := sizeF) (List.getElem_mem h4); simp only [sizeF] at *; (try simp only [atL_lt h4]); omega) | (have := mem_sum (f := sizeM) (List.getElem_mem h14); omega))) (a:=cb_spec_NameRight) (k:=(jt 2 (k:=(jm 9 60 [1, 3, 69] (p:=fun b6_9 => by (try simp at b6_9); exact (jh hX (by simp [-atD_lt, -atL_lt]; rfl))) (q:=fun b6_9 => by (try simp at b6_9); exact (js hX 6 (by simp [-atD_lt, -atL_lt, h1, h4]; rfl) (Runs.call [] rfl (by simp) rfl (by simp [-atD_lt, -atL_lt]; rfl) (by simp; rfl) (by apply ct_spec_TypeRight <;> first | assumption | omega | (have := mem_sum (f := sizeF) (List.getElem_mem h4); simp only [sizeF] at *; (try simp only [atL_lt h4]); omega) | (have := mem_sum (f := sizeM) (List.getElem_mem h14); omega)) cb_spec_TypeRight (by simp) (by simp) (by simp [-atD_lt, -atL_lt]; rfl) (jh hX (by simp [-atD_lt, -atL_lt]; rfl))))) (k:=jf))))))) ?_))))
      refine jd (fun h6 => ?_) (fun h6 => ?_)
      · try simp at h6
        refine jq [2] ?_
        refine W_ret (je (by simp [h1, h4]; rfl) ?_)
        have h6b : (nameRight x.fields[i].name && typeRight x.fields[i].type) = false := by simp only [atL_lt h4] at h6; grind
        simp [← hI, h6b]
      · try simp at h6
        have h6b : (nameRight x.fields[i].name && typeRight x.fields[i].type) = true := by simp only [atL_lt h4] at h6; grind
        refine W_skip (jq [1, 3, 4] ?_)
        refine W_block (W_loopU (α := Nat) [1, 3, 4] (fun k => [(4, .int .i64 k)]) (fun k => []) (fun k => k ≤ i ∧ ((x.fields.take i).drop k).all (fun g => !decide (g.name = x.fields[i].name)) = (x.fields.take i).all (fun g => !decide (g.name = x.fields[i].name))) (fun k => i - k) (0) (fun k => by simp; rfl) (by simp) ?_ ?_)
        · simp
        rintro k ⟨hk, hK⟩
        refine W_seq (jq [1, 3, 4, 72] ?_)
        refine jd (fun h9 => ?_) (fun h9 => ?_)
        · try simp at h9
          have hkl : k < (x.fields.take i).length := by simp; omega
          have hkf : k < x.fields.length := by omega
          rw [all_drop hkl, List.getElem_take] at hK
          refine W_skip (W_seq (W_block (jD [1, 3, 4, 87] (jQ (by simp [h1, h4, h9, hkf]; rfl)) ?_)))
          refine jd (fun h11 => ?_) (fun h11 => ?_)
          · try simp at h11
            refine jq [2] ?_
            refine W_ret (je (by simp [h1, h4, h9, hkf]; rfl) ?_)
            simp [← hI, ← hK, h11]
          · try simp at h11
            simp only [h11, decide_false, Bool.not_false, Bool.true_and] at hK
            refine W_skip (W_reg (jh hX (by simp; (try (simp (disch := omega) only [wrap_i64]; (try simp))); rfl)) ?_)
            refine round_end (k + 1) [1, 3, 4] (by simp [h1, h4, h9, hkf]; try (simp (disch := omega) only [wrap_i64])) ?_ ?_
            · exact ⟨by omega, hK⟩
            · omega
        · try simp at h9
          rw [List.drop_eq_nil_of_le (by simp; omega)] at hK
          simp only [List.all_nil] at hK
          refine W_exit (W_reg (jh hX (by simp; (try (simp (disch := omega) only [wrap_i64]; (try simp))); rfl)) ?_)
          refine round_end (i + 1) [1, 3] (by simp [h1, h4, h9]; try (simp (disch := omega) only [wrap_i64])) ?_ ?_
          · exact ⟨by omega, by rw [List.take_succ_eq_append_getElem h4, ← hI, h6b, ← hK]; simp⟩
          · omega
    · try simp at h4
      rw [List.drop_eq_nil_of_le h4] at hI
      simp only [fldsR] at hI
      rw [← hI, Bool.true_and]
      refine W_exit (W_seq (jq [1, 5] ?_))
      refine W_block (W_loopU (α := Nat) [1, 5] (fun i => [(5, .int .i64 i)]) (fun i => []) (fun i => i ≤ x.methods.length ∧ mthsR x.abstr (x.methods.take i) (x.methods.drop i) = mthsR x.abstr [] x.methods) (fun i => x.methods.length - i) (0) (fun i => by simp; rfl) (by simp) ?_ ?_)
      · simp
      rintro i ⟨hi2, hI2⟩
      refine W_seq (W_rseqK [1, 5, 92] (jh hX (by simp [h1, h4]; rfl)) ?_)
      refine jd (fun h14 => ?_) (fun h14 => ?_)
      · try simp at h14
        rw [List.drop_eq_getElem_cons h14] at hI2
        simp only [mthsR] at hI2
        refine W_skip (W_seq (W_block (W_rseqK [1, 5, 6] (jh hX (by simp [h1, h4, h14]; rfl)) ?_)))
        refine W_seq (W_rseqK [1, 5, 6, 111] (js hX 1 (by simp [h1, h4, h14]; rfl) (jc [] (c:=(by apply ct_spec_MethodRight <;> first | assumption | omega | (have := mem_sum (f := sizeF) (List.getElem_mem h4); simp only [sizeF] at *; (try simp only [atL_lt h4]); omega) | (have := mem_sum (f := sizeM) (List.getElem_mem h14); omega))) (a:=cb_spec_MethodRight) (k:=(jt 2 (k:=(jm 8 103 [1, 5, 6, 111] (p:=fun b17_4 => by (try simp at b17_4); exact (jh hX (by simp [-atD_lt, -atL_lt]; rfl))) (q:=fun b17_4 => by (try simp at b17_4); exact (js hX 3 (by simp [-atD_lt, -atL_lt, h1, h4, h14]; rfl) (jm 4 106 [1, 5, 6, 103, 110] (p:=fun b17_7 => by (try simp at b17_7); exact (jh hX (by simp [-atD_lt, -atL_lt, h1, h4, h14]; rfl))) (q:=fun b17_7 => by (try simp at b17_7); exact (jh hX (by simp [-atD_lt, -atL_lt]; rfl))) (k:=(jh hX (by simp [-atD_lt, -atL_lt]; rfl)))))) (k:=jf))))))) ?_)
        refine jd (fun h17 => ?_) (fun h17 => ?_)
        · try simp at h17
          refine jq [2] ?_
          refine W_ret (je (by simp [h1, h4, h14]; rfl) ?_)
          have h17b : (mthRight x.methods[i] && !(x.methods[i].abstr && !x.abstr)) = false := by grind
          rw [← hI2, h17b, Bool.false_and, Bool.false_and]
        · try simp at h17
          have h17b : (mthRight x.methods[i] && !(x.methods[i].abstr && !x.abstr)) = true := by grind
          refine W_skip (jq [1, 5, 6, 7] ?_)
          refine W_block (W_loopU (α := Nat) [1, 5, 6, 7] (fun k => [(7, .int .i64 k)]) (fun k => []) (fun k => k ≤ i ∧ ((x.methods.take i).drop k).all (fun g => !(decide (g.name = x.methods[i].name) && decide (g.desc = x.methods[i].desc))) = (x.methods.take i).all (fun g => !(decide (g.name = x.methods[i].name) && decide (g.desc = x.methods[i].desc)))) (fun k => i - k) (0) (fun k => by simp; rfl) (by simp) ?_ ?_)
          · simp
          rintro k ⟨hk2, hK2⟩
          refine W_seq (jq [1, 5, 6, 7, 114] ?_)
          refine jd (fun h20 => ?_) (fun h20 => ?_)
          · try simp at h20
            have hkl : k < (x.methods.take i).length := by simp; omega
            have hkf : k < x.methods.length := by omega
            rw [all_drop hkl, List.getElem_take] at hK2
            refine W_skip (W_seq (W_block (jD [1, 5, 6, 7, 136] (jS 10 (by simp [h1, h4, h14, h20, hkf]; rfl) (jM 10 126 [1, 5, 6, 7, 136] (p:=fun b22_10 => by (try simp at b22_10); exact (jQ (by simp [-atD_lt, -atL_lt, h1, h4, h14, h20, hkf]; rfl))) (q:=fun b22_10 => by (try simp at b22_10); exact (jQ (by simp [-atD_lt, -atL_lt]; rfl))) (k:=(RunsQ.fin (by (try simp); rfl))))) ?_)))
            refine jd (fun h22 => ?_) (fun h22 => ?_)
            · try simp at h22
              refine jq [2] ?_
              refine W_ret (je (by simp [h1, h4, h14, h20, hkf]; rfl) ?_)
              simp only [atL_lt hkf] at h22
              rw [← hI2, ← hK2, decide_eq_true h22.1, decide_eq_true h22.2]
              simp
            · try simp at h22
              simp only [atL_lt hkf] at h22
              have h22b : (!(decide (x.methods[k].name = x.methods[i].name) && decide (x.methods[k].desc = x.methods[i].desc))) = true := by simp; exact Decidable.not_or_of_imp h22
              rw [h22b, Bool.true_and] at hK2
              refine W_skip (W_reg (jh hX (by simp; (try (simp (disch := omega) only [wrap_i64]; (try simp))); rfl)) ?_)
              refine round_end (k + 1) [1, 5, 6, 7] (by simp [h1, h4, h14, h20, hkf]; try (simp (disch := omega) only [wrap_i64])) ?_ ?_
              · exact ⟨by omega, hK2⟩
              · omega
          · try simp at h20
            rw [List.drop_eq_nil_of_le (by simp; omega)] at hK2
            simp only [List.all_nil] at hK2
            refine W_exit (W_reg (jh hX (by simp; (try (simp (disch := omega) only [wrap_i64]; (try simp))); rfl)) ?_)
            refine round_endT (i + 1) [1, 5] 1 (by simp [hX]) (by simp) (by simp [h1, h4, h14, h20]; try (simp (disch := omega) only [wrap_i64])) ?_ ?_
            · exact ⟨by omega, by rw [List.take_succ_eq_append_getElem h14, ← hI2, h17b, ← hK2]; simp⟩
            · omega
      · try simp at h14
        rw [List.drop_eq_nil_of_le h14] at hI2
        simp only [mthsR] at hI2
        rw [← hI2]
        refine W_exit (jq [2] ?_)
        refine W_ret (je (by simp [h1, h4, h14]; rfl) ?_)
        simp
end Go.Proofs
namespace Go.Proofs
open Go Go.Ev


theorem cb_spec_TypeClass : Callable Tryz.prog 201 := ⟨_, Tryz.func201, by kernel_rfl, by kernel_rfl⟩
theorem ct_spec_TypeClass {t : Str} (ht : t.length ≤ 1099511627776) : Ct Tryz.prog 201 [.str t] [] (.str (typeClass t)) [] := by
  refine Ct_bodyS tok Tryz.func201 rfl 24 (by kernel_rfl) (by kernel_rfl) fun X hX => ?_
  refine jq [0] ?_
  refine W_seq (W_rseqK [0, 10] (jt 4 (k:=(jm 4 6 [0, 10] (p:=fun b1_4 => by (try simp at b1_4); exact (jh hX (by simp [-atD_lt, -atL_lt]; rfl))) (q:=fun b1_4 => by (try simp at b1_4); exact (js hX 1 (by simp [-atD_lt, -atL_lt]; rfl) (Runs.call [] rfl (by simp) rfl (by simp [-atD_lt, -atL_lt]; rfl) (by simp; rfl) (by apply ct_spec_TypeRight <;> first | assumption | omega | (simp at *; omega) | simp_all) cb_spec_TypeRight (by simp) (by simp) (by simp [-atD_lt, -atL_lt]; rfl) (jh hX (by simp [-atD_lt, -atL_lt]; rfl))))) (k:=jf)))) ?_)
  refine jd (fun h1 => ?_) (fun h1 => ?_)
  · try simp at h1
    have hx : typeClass t = [] := by
      rw [typeClass, if_neg]
      rintro e
      have := (len_of_typeRight e).2
      rcases h1 with h1 | h1
      · omega
      · rw [h1] at e; cases e
    refine jq [2] ?_
    refine W_ret (je (by simp [h1]; rfl) ?_)
    rw [hx]
  · try simp at h1
    have hlt := (len_of_typeRight h1.2).1
    have hlt1 : 1 ≤ t.length := hlt
    have hlong := typeRight_long h1.2
    refine W_skip (W_seq (W_rseqK [0, 13] (jh hX (by simp [h1, hlt, hlt1]; rfl)) ?_))
    refine' W_condS3 [0] (by simp; rfl) (by rfl) (fun h3 => ?a1_1) (fun h3 => ?a0_1) ?ak_1
    case a1_1 =>
      try simp at h3
      refine W_reg (jh hX (by simp [h1, hlt, hlt1]; rfl)) ?_
      exact ⟨rfl, Eq.trans (by (try simp); rfl) (by rfl)⟩
    case a0_1 =>
      try simp at h3
      refine W_skip ?_
      exact ⟨rfl, Eq.trans (by (try simp); rfl) (by rfl)⟩
    case ak_1 =>
      refine W_le (Le.of_eq (by simp; rfl)) ?_
      generalize hu : (bif _ then _ else t) = u
      have hu2 : u = if isAt t 0 91 then t.drop 1 else t := by rw [← hu, isAt_lt hlt]; simp [cond_eq_ite]
      have hx : typeClass t = tClass u := by rw [typeClass, if_pos h1.2, hu2]; split <;> rfl
      rw [hx]
      clear hu hx
      have hu0 : 0 < u.length := by
        rw [hu2]
        split
        · rename_i hb
          have := hlong.1 hb
          simp; omega
        · exact hlt
      have hul : u.length ≤ t.length := by rw [hu2]; split <;> simp
      have hu3 : isAt u 0 73 = false → 2 < u.length := by
        intro hb
        rw [hu2] at hb ⊢
        split at hb
        · rename_i hc
          rw [isAt_drop] at hb
          have := hlong.2.1 hc hb
          rw [if_pos hc]; simp; omega
        · rename_i hc
          rw [if_neg hc]
          exact hlong.2.2 (by simpa using hc) hb
      have hat := isAt_lt (n := 73) hu0
      refine W_seq (W_rseqK [0, 18] (jh hX (by simp [h1, hlt, hlt1, hu0]; rfl)) ?_)
      refine jd (fun h5 => ?_) (fun h5 => ?_)
      · try simp at h5
        refine jq [2] ?_
        refine W_ret (je (by simp [h1, hlt, hlt1, hu0]; rfl) ?_)
        rw [tClass, if_pos (by rw [hat]; simpa using h5)]
      · try simp at h5
        have hat2 : isAt u 0 73 = false := by rw [hat]; simpa using h5
        have hu4 := hu3 hat2
        have hs1 : 0 ≤ (u.length : Int) - 1 := by omega
        have hs2 : ((u.length : Int) - 1).toNat = u.length - 1 := by omega
        have hs3 : u.length - 1 ≤ u.length := by omega
        have hs4 : 1 ≤ u.length - 1 := by omega
        have hs5 : 1 ≤ u.length := hu0
        refine W_skip (W_rseqK [2] (jh hX (by simp [h1, hlt, hlt1, hu0, hs1, hs2, hs3, hs4, hs5]; (try (simp (disch := omega) only [wrap_i64]; (try simp [h1, hlt, hlt1, hu0, hs1, hs2, hs3, hs4, hs5]))); rfl)) ?_)
        refine W_ret (je (by simp [h1, hlt, hlt1, hu0, hs1, hs2, hs3, hs4, hs5]; rfl) ?_)
        rw [tClass, if_neg (by simp [hat2])]
        simp [seg]
end Go.Proofs
namespace Go.Proofs
open Go Go.Ev


theorem cb_spec_l05Type : Callable Tryz.prog 214 := ⟨_, Tryz.func214, by kernel_rfl, by kernel_rfl⟩
theorem ct_spec_l05Type {l : List Cls} {t : Str} (hl : l.length ≤ 1099511627776) (ht : t.length ≤ 1099511627776) : Ct Tryz.prog 214 [.lst false 6 (l.map eC), .str t] [] (.bool (typeK l t)) [] := by
  refine Ct_bodyS tok Tryz.func214 rfl 15 (by kernel_rfl) (by kernel_rfl) fun X hX => ?_
  refine jq [0, 1] ?_
  refine W_rseqK [0, 5] (jt 1 (k:=(jc [] (c:=(by apply ct_spec_TypeClass <;> first | assumption | omega | (simp at *; omega) | simp_all)) (a:=cb_spec_TypeClass) (k:=jr)))) ?_
  refine W_rseqK [4] (jt 3 (k:=(jm 4 10 [14] (p:=fun b2_3 => by (try simp at b2_3); exact (jh hX (by simp [-atD_lt, -atL_lt]; rfl))) (q:=fun b2_3 => by (try simp at b2_3); exact (js hX 2 (by simp [-atD_lt, -atL_lt]; rfl) (Runs.call [] rfl (by simp) rfl (by simp [-atD_lt, -atL_lt]; rfl) (by simp; rfl) (by apply ct_spec_l05Known <;> first | assumption | omega | (simp at *; omega) | simp_all) cb_spec_l05Known (by simp) (by simp) (by simp [-atD_lt, -atL_lt]; rfl) (jh hX (by simp [-atD_lt, -atL_lt]; rfl))))) (k:=jr)))) ?_
  refine W_ret (je0 ?_)
  (try simp_all [typeK])
end Go.Proofs
namespace Go.Proofs
open Go Go.Ev


theorem cb_spec_l05Desc : Callable Tryz.prog 215 := ⟨_, Tryz.func215, by kernel_rfl, by kernel_rfl⟩
theorem ct_spec_l05Desc {l : List Cls} {t : Str} (hl : l.length ≤ 1099511627776) (ht : t.length ≤ 1099511627776) : Ct Tryz.prog 215 [.lst false 6 (l.map eC), .str t] [] (.bool (descK l t)) [] := by
  have hpl := descRead_le t
  have hps := descRead_parts t
  refine Ct_bodyS tok Tryz.func215 rfl 29 (by kernel_rfl) (by kernel_rfl) fun X hX => ?_
  refine jq [0, 1] ?_
  refine W_rseqK [0, 5] (jt 1 (k:=(jF (c:=(by apply ct_spec_DescRead <;> first | assumption | omega | exact Nat.le_trans (hps.2 _ (List.getElem_mem _)) ht)) (a:=cb_spec_DescRead) (k:=jr)))) ?_
  refine W_seq (jq [0, 5, 6] ?_)
  refine W_block (W_loopU (α := Nat) [0, 5, 6] (fun i => [(6, .int .i64 i)]) (fun i => []) (fun i => i ≤ (descRead t).params.length ∧ ((descRead t).params.drop i).all (typeK l) = (descRead t).params.all (typeK l)) (fun i => (descRead t).params.length - i) (0) (fun i => by simp; rfl) (by simp) ?_ ?_)
  · simp
  rintro i ⟨hi, hI⟩
  refine W_seq (jq [0, 5, 6, 14] ?_)
  refine jd (fun h3 => ?_) (fun h3 => ?_)
  · try simp at h3
    rw [all_drop h3] at hI
    refine W_skip (W_seq (W_block (W_rseqK [0, 5, 6, 24] (js hX 6 (by simp [h3]; rfl) (jc [] (c:=(by apply ct_spec_l05Type <;> first | assumption | omega | exact Nat.le_trans (hps.2 _ (List.getElem_mem _)) ht)) (a:=cb_spec_l05Type) (k:=jr))) ?_)))
    refine jd (fun h5 => ?_) (fun h5 => ?_)
    · try simp at h5
      refine jq [4] ?_
      refine W_ret (je (by simp [h3]; rfl) ?_)
      simp [descK, ← hI, h5]
    · try simp at h5
      rw [h5, Bool.true_and] at hI
      refine W_skip (W_reg (jh hX (by simp; (try (simp (disch := omega) only [wrap_i64]; (try simp))); rfl)) ?_)
      refine round_end (i + 1) [0, 5, 6] (by simp [h3]; try (simp (disch := omega) only [wrap_i64])) ?_ ?_
      · exact ⟨by omega, hI⟩
      · omega
  · try simp at h3
    rw [List.drop_eq_nil_of_le h3] at hI
    refine W_exit (W_rseqK [4] (js hX 3 (by simp [h3]; rfl) (jc [] (c:=(by apply ct_spec_l05Type <;> first | assumption | omega | exact Nat.le_trans (hps.2 _ (List.getElem_mem _)) ht)) (a:=cb_spec_l05Type) (k:=jr))) ?_)
    refine W_ret (je (by simp [h3]; rfl) ?_)
    simp [descK, ← hI]
end Go.Proofs
namespace Go.Proofs
open Go Go.Ev


theorem cb_spec_l05Types : Callable Tryz.prog 163 := ⟨_, Tryz.func163, by kernel_rfl, by kernel_rfl⟩
theorem ct_spec_l05Types {l : List Cls} {x : Cls} (hl : l.length ≤ 1099511627776) (h : sizeC x ≤ 1099511627776) : Ct Tryz.prog 163 [.lst false 6 (l.map eC), eC x] [] (.bool (clsK l x)) [] := by
  simp only [sizeC] at h
  refine Ct_bodyS tok Tryz.func163 rfl 39 (by kernel_rfl) (by kernel_rfl) fun X hX => ?_
  refine jq [0, 3] ?_
  refine W_seq (jq [0, 3, 5] ?_)
  refine W_block (W_loopU (α := Nat) [0, 3, 5] (fun i => [(5, .int .i64 i)]) (fun i => []) (fun i => i ≤ x.fields.length ∧ (x.fields.drop i).all (fun f => typeK l f.type) = x.fields.all (fun f => typeK l f.type)) (fun i => x.fields.length - i) (0) (fun i => by simp; rfl) (by simp) ?_ ?_)
  · simp
  rintro i ⟨hi, hI⟩
  refine W_seq (jq [0, 3, 5, 11] ?_)
  refine jd (fun h2 => ?_) (fun h2 => ?_)
  · try simp at h2
    rw [all_drop h2] at hI
    refine W_skip (W_seq (W_block (W_rseqK [0, 3, 5, 22] (js hX 7 (by simp [h2]; rfl) (jc [] (c:=(by apply ct_spec_l05Type <;> first | assumption | omega | (have := mem_sum (f := sizeF) (List.getElem_mem h2); simp only [sizeF] at *; omega) | (have := mem_sum (f := sizeM) (List.getElem_mem h7); simp only [sizeM] at *; omega))) (a:=cb_spec_l05Type) (k:=jr))) ?_)))
    refine jd (fun h4 => ?_) (fun h4 => ?_)
    · try simp at h4
      refine jq [4] ?_
      refine W_ret (je (by simp [h2]; rfl) ?_)
      simp [clsK, ← hI, h4]
    · try simp at h4
      rw [h4, Bool.true_and] at hI
      refine W_skip (W_reg (jh hX (by simp; (try (simp (disch := omega) only [wrap_i64]; (try simp))); rfl)) ?_)
      refine round_end (i + 1) [0, 3, 5] (by simp [h2]; try (simp (disch := omega) only [wrap_i64])) ?_ ?_
      · exact ⟨by omega, hI⟩
      · omega
  · try simp at h2
    rw [List.drop_eq_nil_of_le h2] at hI
    refine W_exit (W_seq (jq [0, 3, 6] ?_))
    refine W_block (W_loopU (α := Nat) [0, 3, 6] (fun i => [(6, .int .i64 i)]) (fun i => []) (fun i => i ≤ x.methods.length ∧ (x.methods.drop i).all (fun m => descK l m.desc) = x.methods.all (fun m => descK l m.desc)) (fun i => x.methods.length - i) (0) (fun i => by simp; rfl) (by simp) ?_ ?_)
    · simp
    rintro i ⟨hi2, hI2⟩
    refine W_seq (W_rseqK [0, 3, 6, 27] (jh hX (by simp [h2]; rfl)) ?_)
    refine jd (fun h7 => ?_) (fun h7 => ?_)
    · try simp at h7
      rw [all_drop h7] at hI2
      refine W_skip (W_seq (W_block (W_rseqK [0, 3, 6, 38] (js hX 7 (by simp [h2, h7]; rfl) (jc [] (c:=(by apply ct_spec_l05Desc <;> first | assumption | omega | (have := mem_sum (f := sizeF) (List.getElem_mem h2); simp only [sizeF] at *; omega) | (have := mem_sum (f := sizeM) (List.getElem_mem h7); simp only [sizeM] at *; omega))) (a:=cb_spec_l05Desc) (k:=jr))) ?_)))
      refine jd (fun h9 => ?_) (fun h9 => ?_)
      · try simp at h9
        refine jq [4] ?_
        refine W_ret (je (by simp [h2, h7]; rfl) ?_)
        simp [clsK, ← hI2, h9]
      · try simp at h9
        rw [h9, Bool.true_and] at hI2
        refine W_skip (W_reg (jh hX (by simp; (try (simp (disch := omega) only [wrap_i64]; (try simp))); rfl)) ?_)
        refine round_end (i + 1) [0, 3, 6] (by simp [h2, h7]; try (simp (disch := omega) only [wrap_i64])) ?_ ?_
        · exact ⟨by omega, hI2⟩
        · omega
    · try simp at h7
      rw [List.drop_eq_nil_of_le h7] at hI2
      refine W_exit (jq [4] ?_)
      refine W_ret (je (by simp [h2, h7]; rfl) ?_)
      simp [clsK, ← hI, ← hI2]
end Go.Proofs
namespace Go.Proofs
open Go Go.Ev


theorem cb_spec_l05Method : Callable Tryz.prog 122 := ⟨_, Tryz.func122, by kernel_rfl, by kernel_rfl⟩
theorem ct_spec_l05Method {x : Cls} {n d : Str} (h : sizeC x ≤ 1099511627776) : Ct Tryz.prog 122 [eC x, .str n, .str d] [] (.int .i64 (mthFrom n d x.methods 0)) [] := by
  simp only [sizeC] at h
  refine Ct_bodyS tok Tryz.func122 rfl 34 (by kernel_rfl) (by kernel_rfl) fun X hX => ?_
  refine jq [1, 2, 3] ?_
  refine W_seq (jq [1, 2, 3, 7] ?_)
  refine W_block (W_loopU (α := Nat) [1, 2, 3, 7] (fun i => [(7, .int .i64 i)]) (fun i => []) (fun i => i ≤ x.methods.length ∧ mthFrom n d (x.methods.drop i) i = mthFrom n d x.methods 0) (fun i => x.methods.length - i) (0) (fun i => by simp; rfl) (by simp) ?_ ?_)
  · simp
  rintro i ⟨hi, hI⟩
  refine W_seq (jq [1, 2, 3, 7, 12] ?_)
  refine jd (fun h2 => ?_) (fun h2 => ?_)
  · try simp at h2
    rw [List.drop_eq_getElem_cons h2] at hI
    simp only [mthFrom] at hI
    refine W_skip (W_seq (W_block (W_rseqK [1, 2, 3, 7, 32] (js hX 9 (by simp [h2]; rfl) (jm 9 23 [1, 2, 3, 7, 32] (p:=fun b4_9 => by (try simp at b4_9); exact (jh hX (by simp [-atD_lt, -atL_lt, h2]; rfl))) (q:=fun b4_9 => by (try simp at b4_9); exact (jh hX (by simp [-atD_lt, -atL_lt]; rfl))) (k:=jf))) ?_)))
    refine jd (fun h4 => ?_) (fun h4 => ?_)
    · try simp at h4
      refine jq [6] ?_
      refine W_ret (je (by simp [h2]; rfl) ?_)
      simp only [atL_lt h2] at h4
      rw [← hI, if_pos h4]
    · try simp at h4
      simp only [atL_lt h2] at h4
      have h4c : ¬ (x.methods[i].name = n ∧ x.methods[i].desc = d) := fun e => h4 e.1 e.2
      refine W_skip (W_reg (jh hX (by simp; (try (simp (disch := omega) only [wrap_i64]; (try simp))); rfl)) ?_)
      refine round_end (i + 1) [1, 2, 3, 7] (by simp [h2]; try (simp (disch := omega) only [wrap_i64])) ?_ ?_
      · exact ⟨by omega, by rw [← hI, if_neg h4c]⟩
      · omega
  · try simp at h2
    refine W_exit (jq [6] ?_)
    refine W_ret (je (by simp [h2]; rfl) ?_)
    simp [← hI, List.drop_eq_nil_of_le h2, mthFrom]
end Go.Proofs
