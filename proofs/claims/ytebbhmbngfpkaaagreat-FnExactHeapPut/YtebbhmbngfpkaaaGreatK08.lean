/- Part 9 of what the proofs lean on: what the functions of the program and of the reference compute. Conditions: none. -/
import Derived.Test.YtebbhmbngfpkaaaGreatK07
set_option linter.all false
set_option linter.unusedVariables false
set_option linter.unusedSimpArgs false
set_option maxHeartbeats 2000000
set_option maxRecDepth 100000
namespace Go.Proofs
open Go Go.Ev


theorem cb_spec_l02Type : Callable Tryz.prog 101 := ⟨_, Tryz.func101, by kernel_rfl, by kernel_rfl⟩
theorem ct_spec_l02Type_t {t : Str} {p : Nat} (ht : t.length ≤ 1099511627776) (hp : p ≤ t.length) : Ct Tryz.prog 101 [.str t, .int .i64 p, .bool true] [] (.tup [.int .i64 (tyP1 t p).1, .bool (tyP1 t p).2]) [] := by
  refine Ct_bodyS tok Tryz.func101 rfl 85 (by kernel_rfl) (by kernel_rfl) fun X hX => ?_
  refine jq [0, 1, 2] ?_
  refine W_seq (jq [0, 1, 2, 13] ?_)
  refine jd (fun h1 => ?_) (fun h1 => ?_)
  · try simp at h1
    refine jq [6, 7] ?_
    refine W_ret (je (by simp [h1]; rfl) ?_)
    simp_all [tyP, tyP1, nmP, isAt_lt, isAt_ge]
  · try simp at h1
    refine W_skip (W_seq (W_block (W_rseqK [0, 1, 2, 15] (jh hX (by simp [h1]; rfl)) ?_)))
    refine jd (fun h3 => ?_) (fun h3 => ?_)
    · try simp at h3
      refine W_rseqK [6, 7] (jh hX (by simp; (try (simp (disch := omega) only [wrap_i64]; (try simp))); rfl)) ?_
      refine W_ret (je (by simp [h1]; rfl) ?_)
      simp_all [tyP, tyP1, nmP, isAt_lt, isAt_ge]
    · try simp at h3
      refine W_rseqK [0, 1, 22] (js hX 5 (by simp [h1]; rfl) (jm 3 27 [0, 1, 30] (p:=fun b5_5 => by (try simp at b5_5); exact (jh hX (by simp [-atD_lt, -atL_lt]; rfl))) (q:=fun b5_5 => by (try simp at b5_5); exact (jh hX (by simp [-atD_lt, -atL_lt]; rfl))) (k:=jr))) ?_
      refine jd (fun h5 => ?_) (fun h5 => ?_)
      · try simp at h5
        --done
      · try simp at h5
        refine W_rseqK [0, 1, 37] (jh hX (by simp [h1]; rfl)) ?_
        refine jd (fun h7 => ?_) (fun h7 => ?_)
        · try simp at h7
          refine W_rseqK [0, 8] (jh hX (by simp; (try (simp (disch := omega) only [wrap_i64]; (try simp))); rfl)) ?_
          refine jq [0, 8, 9] ?_
          refine W_seq (W_block (W_loopU (α := Nat) [0, 8, 9] (fun i => [(9, .int .i64 i)]) (fun i => []) (fun i => p + 1 ≤ i ∧ i ≤ t.length ∧ i - (p + 1) ≤ 20 ∧ i + nameRun (20 - (i - (p + 1))) (decide (i = p + 1)) (t.drop i) = p + 1 + nameRun 20 true (t.drop (p + 1))) (fun i => t.length - i) (p + 1) (fun i => by simp; rfl) (by simp) ?_ ?_))
          · simp; omega
          rintro i ⟨h0i, hi, hn, hI⟩
          refine W_seq (W_rseqK [0, 8, 9, 63] (js hX 5 (by simp [h1]; rfl) (jm 5 49 [0, 8, 9, 54] (p:=fun b10_5 => by (try simp at b10_5); exact (jh hX (by simp [-atD_lt, -atL_lt]; (try (simp (disch := omega) only [wrap_i64]; (try simp [-atD_lt, -atL_lt]))); rfl))) (q:=fun b10_5 => by (try simp at b10_5); exact (jh hX (by simp [-atD_lt, -atL_lt]; rfl))) (k:=(jt 1 (k:=(jm 8 55 [0, 8, 9, 63] (p:=fun b10_11 => by (try simp at b10_11); exact (js hX 6 (by simp [-atD_lt, -atL_lt, h1, b10_11]; rfl) (Runs.call [] rfl (by simp) rfl (by simp [-atD_lt, -atL_lt]; rfl) (by simp; rfl) (by apply ct_spec_l01NameByte <;> first | assumption | omega | (simp at *; omega) | simp_all) cb_spec_l01NameByte (by simp) (by simp) (by simp [-atD_lt, -atL_lt]; rfl) (jh hX (by simp [-atD_lt, -atL_lt]; rfl))))) (q:=fun b10_11 => by (try simp at b10_11); exact (jh hX (by simp [-atD_lt, -atL_lt]; rfl))) (k:=jf))))))) ?_)
          have hge : t.length ≤ i → nameRun (20 - (i - (p + 1))) (decide (i = p + 1)) (t.drop i) = 0 := fun h => by rw [List.drop_eq_nil_of_le h]; simp [nameRun]
          have hg2 : i - (p + 1) = 20 → nameRun (20 - (i - (p + 1))) (decide (i = p + 1)) (t.drop i) = 0 := fun h => by rw [h]; simp [nameRun]
          have hg3 := fun h1 h2 => @drop_nameRun t i (p + 1) h1 h2 h0i
          refine jd (fun h10 => ?_) (fun h10 => ?_)
          · try simp at h10
            have ⟨⟨h10a, h10b⟩, h10c⟩ := h10
            rw [atD_lt h10a] at h10c
            rw [hg3 h10a (by omega), if_pos h10c] at hI
            refine W_skip (W_block (W_reg (jh hX (by simp; (try (simp (disch := omega) only [wrap_i64]; (try simp))); rfl)) ?_))
            refine round_end (i + 1) [0, 8, 9] (by simp [h1, h10]; try (simp (disch := omega) only [wrap_i64])) ?_ ?_
            · exact ⟨by omega, by omega, by omega, by omega⟩
            · omega
          · try simp at h10
            have hI2 : i = p + 1 + nameRun 20 true (t.drop (p + 1)) := by
              rcases Nat.lt_or_ge i t.length with hl | hl
              · by_cases hk : i - (p + 1) = 20
                · have := hg2 hk; omega
                · rw [hg3 hl (by omega)] at hI
                  have : nameByte t[i] (decide (i = p + 1)) = false := by
                    rw [← atD_lt hl]; exact h10 hl (by omega)
                  rw [this] at hI; simpa using hI
              · have := hge hl; omega
            have hnm : nmP t (p + 1) = if (isAt t i 59 && !decide (i = p + 1)) then (i + 1, true) else (i, false) := by simp only [nmP, ← hI2]
            have hty : tyP1 t p = nmP t (p + 1) := by simp [tyP1, isAt_lt h1, h3, h7]
            clear hI hI2 hg2 hg3 hge
            refine W_exit (W_seq (W_rseqK [9, 80] (js hX 5 (by simp [h1, h10]; rfl) (jm 5 70 [8, 9, 75] (p:=fun b12_5 => by (try simp at b12_5); exact (jh hX (by simp [-atD_lt, -atL_lt]; rfl))) (q:=fun b12_5 => by (try simp at b12_5); (have hlt : i < t.length := by omega); exact (jh hX (by simp [-atD_lt, -atL_lt, h1, h10, hlt]; rfl))) (k:=(jt 1 (k:=(jm 4 76 [9, 80] (p:=fun b12_11 => by (try simp at b12_11); exact (jh hX (by simp [-atD_lt, -atL_lt]; rfl))) (q:=fun b12_11 => by (try simp at b12_11); exact (jh hX (by simp [-atD_lt, -atL_lt]; rfl))) (k:=jf))))))) ?_))
            refine jd (fun h12 => ?_) (fun h12 => ?_)
            · try simp at h12
              refine jq [6, 7] ?_
              refine W_ret (je (by simp [h1, h10]; rfl) ?_)
              rw [hty, hnm]
              have : (isAt t i 59 && !decide (i = p + 1)) = false := by grind [isAt_lt, isAt_ge, atD_lt]
              simp [this]
            · try simp at h12
              refine W_skip (W_rseqK [6, 7] (jh hX (by simp; (try (simp (disch := omega) only [wrap_i64]; (try simp))); rfl)) ?_)
              refine W_ret (je (by simp [h1, h10]; rfl) ?_)
              rw [hty, hnm]
              have : (isAt t i 59 && !decide (i = p + 1)) = true := by grind [isAt_lt, isAt_ge, atD_lt]
              simp [this]
        · try simp at h7
          refine W_skip (jq [6, 7] ?_)
          refine W_ret (je (by simp [h1]; rfl) ?_)
          simp_all [tyP, tyP1, nmP, isAt_lt, isAt_ge]
theorem ct_spec_l02Type {t : Str} {p : Nat} (ht : t.length ≤ 1099511627776) (hp : p ≤ t.length) : Ct Tryz.prog 101 [.str t, .int .i64 p, .bool false] [] (.tup [.int .i64 (tyP t p).1, .bool (tyP t p).2]) [] := by
  refine Ct_bodyS tok Tryz.func101 rfl 85 (by kernel_rfl) (by kernel_rfl) fun X hX => ?_
  refine jq [0, 1, 2] ?_
  refine W_seq (jq [0, 1, 2, 13] ?_)
  refine jd (fun h1 => ?_) (fun h1 => ?_)
  · try simp at h1
    refine jq [6, 7] ?_
    refine W_ret (je (by simp [h1]; rfl) ?_)
    simp_all [tyP, tyP1, nmP, isAt_lt, isAt_ge]
  · try simp at h1
    refine W_skip (W_seq (W_block (W_rseqK [0, 1, 2, 15] (jh hX (by simp [h1]; rfl)) ?_)))
    refine jd (fun h3 => ?_) (fun h3 => ?_)
    · try simp at h3
      refine W_rseqK [6, 7] (jh hX (by simp; (try (simp (disch := omega) only [wrap_i64]; (try simp))); rfl)) ?_
      refine W_ret (je (by simp [h1]; rfl) ?_)
      simp_all [tyP, tyP1, nmP, isAt_lt, isAt_ge]
    · try simp at h3
      refine W_rseqK [0, 1, 22] (js hX 5 (by simp [h1]; rfl) (jm 3 27 [0, 1, 30] (p:=fun b5_5 => by (try simp at b5_5); exact (jh hX (by simp [-atD_lt, -atL_lt]; rfl))) (q:=fun b5_5 => by (try simp at b5_5); exact (jh hX (by simp [-atD_lt, -atL_lt]; rfl))) (k:=jr))) ?_
      refine jd (fun h5 => ?_) (fun h5 => ?_)
      · try simp at h5
        refine W_rseqK [6, 7] (js hX 3 (by simp; (try (simp (disch := omega) only [wrap_i64]; (try simp))); rfl) (jc [] (c:=(by apply ct_spec_l02Type_t <;> first | assumption | omega | (simp at *; omega) | simp_all)) (a:=cb_spec_l02Type) (k:=jr))) ?_
        refine W_ret (je (by simp [h1]; rfl) ?_)
        simp_all [tyP, tyP1, nmP, isAt_lt, isAt_ge]
      · try simp at h5
        refine W_rseqK [0, 1, 37] (jh hX (by simp [h1]; rfl)) ?_
        refine jd (fun h7 => ?_) (fun h7 => ?_)
        · try simp at h7
          refine W_rseqK [0, 8] (jh hX (by simp; (try (simp (disch := omega) only [wrap_i64]; (try simp))); rfl)) ?_
          refine jq [0, 8, 9] ?_
          refine W_seq (W_block (W_loopU (α := Nat) [0, 8, 9] (fun i => [(9, .int .i64 i)]) (fun i => []) (fun i => p + 1 ≤ i ∧ i ≤ t.length ∧ i - (p + 1) ≤ 20 ∧ i + nameRun (20 - (i - (p + 1))) (decide (i = p + 1)) (t.drop i) = p + 1 + nameRun 20 true (t.drop (p + 1))) (fun i => t.length - i) (p + 1) (fun i => by simp; rfl) (by simp) ?_ ?_))
          · simp; omega
          rintro i ⟨h0i, hi, hn, hI⟩
          refine W_seq (W_rseqK [0, 8, 9, 63] (js hX 5 (by simp [h1]; rfl) (jm 5 49 [0, 8, 9, 54] (p:=fun b10_5 => by (try simp at b10_5); exact (jh hX (by simp [-atD_lt, -atL_lt]; (try (simp (disch := omega) only [wrap_i64]; (try simp [-atD_lt, -atL_lt]))); rfl))) (q:=fun b10_5 => by (try simp at b10_5); exact (jh hX (by simp [-atD_lt, -atL_lt]; rfl))) (k:=(jt 1 (k:=(jm 8 55 [0, 8, 9, 63] (p:=fun b10_11 => by (try simp at b10_11); exact (js hX 6 (by simp [-atD_lt, -atL_lt, h1, b10_11]; rfl) (Runs.call [] rfl (by simp) rfl (by simp [-atD_lt, -atL_lt]; rfl) (by simp; rfl) (by apply ct_spec_l01NameByte <;> first | assumption | omega | (simp at *; omega) | simp_all) cb_spec_l01NameByte (by simp) (by simp) (by simp [-atD_lt, -atL_lt]; rfl) (jh hX (by simp [-atD_lt, -atL_lt]; rfl))))) (q:=fun b10_11 => by (try simp at b10_11); exact (jh hX (by simp [-atD_lt, -atL_lt]; rfl))) (k:=jf))))))) ?_)
          have hge : t.length ≤ i → nameRun (20 - (i - (p + 1))) (decide (i = p + 1)) (t.drop i) = 0 := fun h => by rw [List.drop_eq_nil_of_le h]; simp [nameRun]
          have hg2 : i - (p + 1) = 20 → nameRun (20 - (i - (p + 1))) (decide (i = p + 1)) (t.drop i) = 0 := fun h => by rw [h]; simp [nameRun]
          have hg3 := fun h1 h2 => @drop_nameRun t i (p + 1) h1 h2 h0i
          refine jd (fun h10 => ?_) (fun h10 => ?_)
          · try simp at h10
            have ⟨⟨h10a, h10b⟩, h10c⟩ := h10
            rw [atD_lt h10a] at h10c
            rw [hg3 h10a (by omega), if_pos h10c] at hI
            refine W_skip (W_block (W_reg (jh hX (by simp; (try (simp (disch := omega) only [wrap_i64]; (try simp))); rfl)) ?_))
            refine round_end (i + 1) [0, 8, 9] (by simp [h1, h10]; try (simp (disch := omega) only [wrap_i64])) ?_ ?_
            · exact ⟨by omega, by omega, by omega, by omega⟩
            · omega
          · try simp at h10
            have hI2 : i = p + 1 + nameRun 20 true (t.drop (p + 1)) := by
              rcases Nat.lt_or_ge i t.length with hl | hl
              · by_cases hk : i - (p + 1) = 20
                · have := hg2 hk; omega
                · rw [hg3 hl (by omega)] at hI
                  have : nameByte t[i] (decide (i = p + 1)) = false := by
                    rw [← atD_lt hl]; exact h10 hl (by omega)
                  rw [this] at hI; simpa using hI
              · have := hge hl; omega
            have hnm : nmP t (p + 1) = if (isAt t i 59 && !decide (i = p + 1)) then (i + 1, true) else (i, false) := by simp only [nmP, ← hI2]
            have hty : tyP t p = nmP t (p + 1) := by simp_all [tyP, tyP1, isAt_lt h1]
            clear hI hI2 hg2 hg3 hge
            refine W_exit (W_seq (W_rseqK [9, 80] (js hX 5 (by simp [h1, h10]; rfl) (jm 5 70 [8, 9, 75] (p:=fun b12_5 => by (try simp at b12_5); exact (jh hX (by simp [-atD_lt, -atL_lt]; rfl))) (q:=fun b12_5 => by (try simp at b12_5); (have hlt : i < t.length := by omega); exact (jh hX (by simp [-atD_lt, -atL_lt, h1, h10, hlt]; rfl))) (k:=(jt 1 (k:=(jm 4 76 [9, 80] (p:=fun b12_11 => by (try simp at b12_11); exact (jh hX (by simp [-atD_lt, -atL_lt]; rfl))) (q:=fun b12_11 => by (try simp at b12_11); exact (jh hX (by simp [-atD_lt, -atL_lt]; rfl))) (k:=jf))))))) ?_))
            refine jd (fun h12 => ?_) (fun h12 => ?_)
            · try simp at h12
              refine jq [6, 7] ?_
              refine W_ret (je (by simp [h1, h10]; rfl) ?_)
              rw [hty, hnm]
              have : (isAt t i 59 && !decide (i = p + 1)) = false := by grind [isAt_lt, isAt_ge, atD_lt]
              simp [this]
            · try simp at h12
              refine W_skip (W_rseqK [6, 7] (jh hX (by simp; (try (simp (disch := omega) only [wrap_i64]; (try simp))); rfl)) ?_)
              refine W_ret (je (by simp [h1, h10]; rfl) ?_)
              rw [hty, hnm]
              have : (isAt t i 59 && !decide (i = p + 1)) = true := by grind [isAt_lt, isAt_ge, atD_lt]
              simp [this]
        · try simp at h7
          refine W_skip (jq [6, 7] ?_)
          refine W_ret (je (by simp [h1]; rfl) ?_)
          simp_all [tyP, tyP1, nmP, isAt_lt, isAt_ge]
end Go.Proofs
namespace Go.Proofs
open Go Go.Ev


theorem cb_spec_TypeRight : Callable Tryz.prog 55 := ⟨_, Tryz.func55, by kernel_rfl, by kernel_rfl⟩
theorem ct_spec_TypeRight {t : Str} (ht : t.length ≤ 1099511627776) : Ct Tryz.prog 55 [.str t] [] (.bool (typeRight t)) [] := by
  refine Ct_bodyS tok Tryz.func55 rfl 20 (by kernel_rfl) (by kernel_rfl) fun X hX => ?_
  refine jq [0] ?_
  refine W_seq (jq [0, 7] ?_)
  refine jd (fun h1 => ?_) (fun h1 => ?_)
  · try simp at h1
    refine jq [2] ?_
    refine W_ret (je (by simp [h1]; rfl) ?_)
    (try simp_all [typeRight]) <;> grind
  · try simp at h1
    refine W_skip (W_rseqK [0, 3, 4] (jt 1 (k:=(jc [] (c:=(by apply ct_spec_l02Type <;> first | assumption | omega | (simp at *; omega) | simp_all)) (a:=cb_spec_l02Type) (k:=jr)))) ?_)
    refine W_rseqK [2] (jt 2 (k:=(jm 5 14 [19] (p:=fun b4_2 => by (try simp at b4_2); exact (jh hX (by simp [-atD_lt, -atL_lt, h1]; rfl))) (q:=fun b4_2 => by (try simp at b4_2); exact (jh hX (by simp [-atD_lt, -atL_lt]; rfl))) (k:=jr)))) ?_
    refine W_ret (je (by simp [h1]; rfl) ?_)
    (try simp_all [typeRight]) <;> grind
end Go.Proofs
namespace Go.Proofs
open Go Go.Ev


theorem cb_spec_NameRight : Callable Tryz.prog 150 := ⟨_, Tryz.func150, by kernel_rfl, by kernel_rfl⟩
theorem ct_spec_NameRight {t : Str} (ht : t.length ≤ 1099511627776) : Ct Tryz.prog 150 [.str t] [] (.bool (nameRight t)) [] := by
  refine Ct_bodyS tok Tryz.func150 rfl 25 (by kernel_rfl) (by kernel_rfl) fun X hX => ?_
  refine jq [0] ?_
  refine W_seq (W_rseqK [0, 11] (jt 4 (k:=(jm 4 7 [0, 11] (p:=fun b1_4 => by (try simp at b1_4); exact (jh hX (by simp [-atD_lt, -atL_lt]; rfl))) (q:=fun b1_4 => by (try simp at b1_4); exact (jh hX (by simp [-atD_lt, -atL_lt, b1_4]; rfl))) (k:=jf)))) ?_)
  refine jd (fun h1 => ?_) (fun h1 => ?_)
  · try simp at h1
    refine jq [2] ?_
    refine W_ret (je (by simp [h1]; rfl) ?_)
    grind [nameRight]
  · try simp at h1
    refine W_skip (W_seq (jq [0, 3] ?_))
    refine W_block (W_loopU (α := Nat) [0, 3] (fun i => [(3, .int .i64 i)]) (fun i => []) (fun i => i ≤ t.length ∧ nameFrom (decide (i = 0)) (t.drop i) = nameFrom true t) (fun i => t.length - i) (0) (fun i => by simp; rfl) (by simp) ?_ ?_)
    · simp
    rintro i ⟨hi, hI⟩
    refine W_seq (W_rseqK [0, 3, 15] (jh hX (by simp [h1]; rfl)) ?_)
    refine jd (fun h4 => ?_) (fun h4 => ?_)
    · try simp at h4
      rw [List.drop_eq_getElem_cons h4] at hI
      simp only [nameFrom] at hI
      refine W_skip (W_seq (W_block (W_rseqK [0, 3, 24] (js hX 5 (by simp [h1, h4]; rfl) (jc [] (c:=(by apply ct_spec_l01NameByte <;> first | assumption | omega | (simp at *; omega) | simp_all)) (a:=cb_spec_l01NameByte) (k:=jr))) ?_)))
      refine jd (fun h6 => ?_) (fun h6 => ?_)
      · try simp at h6
        refine jq [2] ?_
        refine W_ret (je (by simp [h1, h4]; rfl) ?_)
        grind [nameRight]
      · try simp at h6
        refine W_skip (W_reg (jh hX (by simp; (try (simp (disch := omega) only [wrap_i64]; (try simp))); rfl)) ?_)
        refine round_end (i + 1) [0, 3] (by simp [h1, h4]; try (simp (disch := omega) only [wrap_i64])) ?_ ?_
        · exact ⟨by omega, by simp_all⟩
        · omega
    · try simp at h4
      rw [List.drop_eq_nil_of_le h4] at hI
      simp only [nameFrom] at hI
      refine W_exit (jq [2] ?_)
      refine W_ret (je (by simp [h1, h4]; rfl) ?_)
      grind [nameRight]
end Go.Proofs
namespace Go.Proofs
open Go Go.Ev


theorem cb_spec_l02Wrong : Callable Tryz.prog 220 := ⟨_, Tryz.func220, by kernel_rfl, by kernel_rfl⟩
theorem ct_spec_l02Wrong {n : Int} : Ct Tryz.prog 220 [.int .i64 n] [] (.agg [.raw (.slice none 0 0), .str [], .int .i64 n, .int .i64 3]) [] := by
  refine Ct_bodyS tok Tryz.func220 rfl 5 (by kernel_rfl) (by kernel_rfl) fun X hX => ?_
  refine jq [0, 2] ?_
  refine jq [2] ?_
  refine W_ret (je0 ?_)
  rfl
end Go.Proofs
namespace Go.Proofs
open Go Go.Ev


theorem cb_spec_DescRead : Callable Tryz.prog 192 := ⟨_, Tryz.func192, by kernel_rfl, by kernel_rfl⟩
theorem ct_spec_DescRead {t : Str} (ht : t.length ≤ 1099511627776) : Ct Tryz.prog 192 [.str t] [] (eDO (descRead t)) [] := by
  refine Ct_bodyS tok Tryz.func192 rfl 104 (by kernel_rfl) (by kernel_rfl) fun X hX => ?_
  refine jq [0, 2] ?_
  refine W_seq (jq [0, 2, 11] ?_)
  refine jd (fun h1 => ?_) (fun h1 => ?_)
  · try simp at h1
    refine W_rseqK [2] (jh hX (by simp [h1]; rfl)) ?_
    refine W_ret (W_retR (by simp [h1]; rfl) ?_ rfl)
    rw [show descRead t = ⟨[], [], 0, 2⟩ from by unfold descRead; rw [if_pos (by omega)]]
    exact wk_err _ _ _
  · try simp at h1
    have h1c : descRead t = dRead t := by unfold descRead; rw [if_neg (by omega)]
    rw [h1c]
    refine W_skip (W_seq (W_rseqK [0, 2, 20] (js hX 4 (by simp [h1]; rfl) (jm 4 16 [0, 2, 20] (p:=fun b3_4 => by (try simp at b3_4); exact (jh hX (by simp [-atD_lt, -atL_lt]; rfl))) (q:=fun b3_4 => by (try simp at b3_4); (have hlt : 0 < t.length := List.length_pos_iff.2 b3_4); exact (jh hX (by simp [-atD_lt, -atL_lt, h1, hlt]; rfl))) (k:=jf))) ?_))
    refine jd (fun h3 => ?_) (fun h3 => ?_)
    · try simp at h3
      refine W_rseqK [2] (jc [] (c:=(by apply ct_spec_l02Wrong <;> first | assumption | omega)) (a:=cb_spec_l02Wrong) (k:=(jh hX (by simp [h1]; rfl)))) ?_
      refine W_ret (W_retR (by simp [h1]; rfl) ?_ rfl)
      rw [show dRead t = dErr 0 from by unfold dRead; rw [if_neg]; rcases h3 with rfl | h3; simp [isAt]; simp only [isAt]; split <;> simp_all [atD]]
      exact wk_err _ _ _
    · try simp at h3
      have h3c : 0 < t.length := List.length_pos_iff.2 h3.1
      have h3b : isAt t 0 40 = true := by rw [isAt_lt h3c, ← atD_lt h3c]; simpa using h3.2
      refine W_skip (W_rseqK [0, 2, 3] (jh hX (by simp [h1]; rfl)) ?_)
      refine jq [0, 2, 3, 4] ?_
      refine W_seq (W_block (W_le (Le.nilC 1 0 0 1 (by simp; rfl)) ?_))
      refine W_loopU (α := List Str × Nat) [0, 2, 3, 4] (fun a => [(4, .int .i64 a.2)]) (fun a => [(1, some (2, [.agg [.arr 2 0 a.1.length, .str []]])), (2, some (1, a.1.map V.str))]) (fun a => a.2 ≤ t.length ∧ a.1.length ≤ 8 ∧ dParams t (8 - a.1.length) a.2 a.1 = dParams t 8 1 []) (fun a => 8 - a.1.length) (([], 1)) (fun a => by simp; rfl) (by simp) ?_ ?_
      · exact ⟨by simp; omega, by simp, rfl⟩
      rintro ⟨ps, p⟩ ⟨hp, hn, hI⟩
      simp only at hp hn hI
      refine W_seq (W_rseqK [0, 2, 3, 4, 32] (js hX 5 (by simp [h1]; rfl) (jm 5 27 [0, 2, 3, 4, 32] (p:=fun b7_5 => by (try simp at b7_5); exact (jh hX (by simp [-atD_lt, -atL_lt, h1, b7_5]; rfl))) (q:=fun b7_5 => by (try simp at b7_5); exact (jh hX (by simp [-atD_lt, -atL_lt]; rfl))) (k:=jf))) ?_)
      refine jd (fun h7 => ?_) (fun h7 => ?_)
      · try simp at h7
        have h7a := h7.1
        have h7b : isAt t p 41 = false := by rw [isAt_lt h7a, ← atD_lt h7a]; simpa using h7.2
        refine W_skip (W_block (W_seq (W_rseqK [0, 2, 3, 4, 36] (jh hX (by simp [h1, h7]; rfl)) ?_)))
        refine jd (fun h8 => ?_) (fun h8 => ?_)
        · try simp at h8
          have h8b : 8 - ps.length = 0 := by omega
          rw [h8b, dParams, if_neg (by simp [h7b])] at hI
          refine W_rseqK [2] (jt 1 (k:=(jc [] (c:=(by apply ct_spec_l02Wrong <;> first | assumption | omega)) (a:=cb_spec_l02Wrong) (k:=(jh hX (by simp [h1, h7]; rfl)))))) ?_
          refine W_ret (W_retR (by simp [h1, h7]; rfl) ?_ rfl)
          rw [dRead_err h3b hI.symm]
          exact wk_err _ _ _
        · try simp at h8
          have h8b : 8 - ps.length = (8 - (ps.length + 1)) + 1 := by omega
          rw [h8b, dParams, if_neg (by simp [h7b])] at hI
          obtain ⟨hge, hle, hgt, _⟩ := tyP_le hp
          have w1 : (ps.length + 1) * 16 ≤ 140737488355328 := by omega
          have w2 : ps.length ≤ 1099511627775 := by omega
          refine W_skip (W_rseqK [0, 2, 3, 4, 5, 6] (jt 2 (k:=(jc [] (c:=(by apply ct_spec_l02Type <;> first | assumption | omega)) (a:=cb_spec_l02Type) (k:=jr)))) ?_)
          refine W_seq (jq [0, 2, 3, 4, 5, 46] ?_)
          refine jd (fun h11 => ?_) (fun h11 => ?_)
          · try simp at h11
            rw [if_neg (by simp [h11])] at hI
            refine W_rseqK [2] (jt 1 (k:=(jc [] (c:=(by apply ct_spec_l02Wrong <;> first | assumption | omega)) (a:=cb_spec_l02Wrong) (k:=(jh hX (by simp [h1, h7, w1, w2]; rfl)))))) ?_
            refine W_ret (W_retR (by simp [h1, h7, w1, w2]; rfl) ?_ rfl)
            rw [dRead_err h3b hI.symm]
            exact wk_err _ _ _
          · try simp at h11
            rw [if_pos h11] at hI
            have hI3 : dParams t (8 - (ps ++ [seg t p (tyP t p).1]).length) (tyP t p).1 (ps ++ [seg t p (tyP t p).1]) = dParams t 8 1 [] := by simpa using hI
            refine W_skip (jL 7 [0, 1, 2, 3, 4, 5] [6] [0, 2, 3, 5] ([1]) hX (by simp [h1, h7, w1, w2, hge, hle]; rfl) (jH (p:=fun X hX => jr) (k:=.nil)) (jh hX (by simp [h1, h7, w1, w2, hge, hle]; rfl)) ?_)
            refine W_reg jr ?_
            refine round_endT ((ps ++ [seg t p (tyP t p).1], (tyP t p).1)) [0, 2, 3, 4] 3 (by simp [hX]) (by simp) (by simp [seg, h11]; try (simp (disch := omega) only [wrap_i64])) ?_ ?_
            · exact ⟨hle, by simp; omega, hI3⟩
            · simp; omega
      · try simp at h7
        have h7b : p < t.length → isAt t p 41 = true := fun h => by rw [isAt_lt h, ← atD_lt h]; simpa using h7 h
        refine W_exit (W_seq (W_rseqK [0, 2, 3, 4, 62] (jh hX (by simp [h1, h7]; rfl)) ?_))
        refine jd (fun h15 => ?_) (fun h15 => ?_)
        · try simp at h15
          refine W_rseqK [2] (jt 1 (k:=(jc [] (c:=(by apply ct_spec_l02Wrong <;> first | assumption | omega)) (a:=cb_spec_l02Wrong) (k:=(jh hX (by simp [h1, h7]; rfl)))))) ?_
          refine W_ret (W_retR (by simp [h1, h7]; rfl) ?_ rfl)
          have hpl : p = t.length := h15
          rw [show dRead t = dErr p from dRead_err h3b (by rw [← hI]; cases 8 - ps.length <;> simp [dParams, isAt_ge (show t.length ≤ p from by omega), tyP, tyP1]), hpl]
          exact wk_err _ _ _
        · try simp at h15
          have h7d := h7b (by omega)
          have hd : dRead t = dTail t ps p := dRead_ok h3b (by rw [← hI]; cases 8 - ps.length <;> simp [dParams, h7d])
          rw [hd]
          have w0 : p + 1 ≤ t.length := by omega
          have wp : ps.length ≤ ps.length := Nat.le_refl _
          refine W_skip (W_rseqK [0, 2, 3, 4] (jh hX (by simp; (try (simp (disch := omega) only [wrap_i64]; (try simp))); rfl)) ?_)
          refine W_seq (W_rseqK [0, 2, 3, 4, 76] (js hX 5 (by simp [h1, h7, w0]; rfl) (jm 5 71 [0, 2, 3, 4, 76] (p:=fun b18_5 => by (try simp at b18_5); exact (jh hX (by simp [-atD_lt, -atL_lt, h1, h7, w0, b18_5]; rfl))) (q:=fun b18_5 => by (try simp at b18_5); exact (jh hX (by simp [-atD_lt, -atL_lt]; rfl))) (k:=jf))) ?_)
          refine jd (fun h18 => ?_) (fun h18 => ?_)
          · try simp at h18
            have h18b : isAt t (p + 1) 86 = true := by rw [isAt_lt h18.1, ← atD_lt h18.1]; simpa using h18.2
            refine W_rseqK [0, 2, 3, 4] (jh hX (by simp [h1, h7, w0, h18]; rfl)) ?_
            refine W_reg (jh hX (by simp; (try (simp (disch := omega) only [wrap_i64]; (try simp))); rfl)) ?_
            refine W_seq (W_rseqK [2, 3, 4, 99] (jh hX (by simp [h1, h7, w0, h18]; rfl)) ?_)
            refine jd (fun h26 => ?_) (fun h26 => ?_)
            · try simp at h26
              refine W_rseqK [2] (jt 1 (k:=(jc [] (c:=(by apply ct_spec_l02Wrong <;> first | assumption | omega)) (a:=cb_spec_l02Wrong) (k:=(jh hX (by simp [h1, h7, w0, h18, h26]; rfl)))))) ?_
              refine W_ret (W_retR (by simp [h1, h7, w0, h18, h26]; rfl) ?_ rfl)
              first
                | (rw [show dTail t ps p = dErr (p + 2) from by simp only [dTail, h18b, if_true]; rw [if_pos (by omega)], show ((p : Int) + 1 + 1) = ((p + 2 : Nat) : Int) from by omega]; exact wk_err _ _ _)
                | (rw [show dTail t ps p = dErr (tyP t (p + 1)).1 from by simp only [dTail, h18b, h22, if_true]; simp; omega]; exact wk_err _ _ _)
            · try simp at h26
              refine W_skip (W_rseqK [2] (jh hX (by simp [h1, h7, w0, h18, h26]; rfl)) ?_)
              refine W_ret (W_retR (by simp [h1, h7, w0, h18, h26]; rfl) ?_ rfl)
              first
                | (rw [show dTail t ps p = ⟨ps, [86], 0, 0⟩ from by simp only [dTail, h18b, if_true]; rw [if_neg (by omega)]]; exact Wk.refl _)
                | (rw [show dTail t ps p = ⟨ps, seg t (p + 1) (tyP t (p + 1)).1, 0, 0⟩ from by simp only [dTail, h18b, h22]; simp; omega]; exact Wk.refl _)
          · try simp at h18
            have h18b : isAt t (p + 1) 86 = false := by
              rcases Nat.lt_or_ge (p + 1) t.length with h | h
              · rw [isAt_lt h, ← atD_lt h]; simpa using h18 h
              · exact isAt_ge h
            obtain ⟨hge, hle, hgt, _⟩ := tyP_le w0
            refine W_rseqK [0, 2, 3, 4, 7, 8] (jt 2 (k:=(jc [] (c:=(by apply ct_spec_l02Type <;> first | assumption | omega)) (a:=cb_spec_l02Type) (k:=jr)))) ?_
            refine W_seq (jq [0, 2, 3, 4, 7, 87] ?_)
            refine jd (fun h22 => ?_) (fun h22 => ?_)
            · try simp at h22
              refine W_rseqK [2] (jt 1 (k:=(jc [] (c:=(by apply ct_spec_l02Wrong <;> first | assumption | omega)) (a:=cb_spec_l02Wrong) (k:=(jh hX (by simp [h1, h7, w0, h18, hge, hle]; rfl)))))) ?_
              refine W_ret (W_retR (by simp [h1, h7, w0, h18, hge, hle]; rfl) ?_ rfl)
              rw [show dTail t ps p = dErr (tyP t (p + 1)).1 from by simp [dTail, h18b, h22]]
              exact wk_err _ _ _
            · try simp at h22
              refine W_skip (W_rseqK [0, 2, 3, 7] (jh hX (by simp [h1, h7, w0, h18, hge, hle]; rfl)) ?_)
              refine W_reg jr ?_
              refine W_seq (W_rseqK [2, 3, 4, 99] (jh hX (by simp [h1, h7, w0, h18, hge, hle]; rfl)) ?_)
              refine jd (fun h26 => ?_) (fun h26 => ?_)
              · try simp at h26
                refine W_rseqK [2] (jt 1 (k:=(jc [] (c:=(by apply ct_spec_l02Wrong <;> first | assumption | omega)) (a:=cb_spec_l02Wrong) (k:=(jh hX (by simp [h1, h7, w0, h18, hge, hle, h26]; rfl)))))) ?_
                refine W_ret (W_retR (by simp [h1, h7, w0, h18, hge, hle, h26]; rfl) ?_ rfl)
                first
                  | (rw [show dTail t ps p = dErr (p + 2) from by simp only [dTail, h18b, if_true]; rw [if_pos (by omega)], show ((p : Int) + 1 + 1) = ((p + 2 : Nat) : Int) from by omega]; exact wk_err _ _ _)
                  | (rw [show dTail t ps p = dErr (tyP t (p + 1)).1 from by simp only [dTail, h18b, h22, if_true]; simp; omega]; exact wk_err _ _ _)
              · try simp at h26
                refine W_skip (W_rseqK [2] (jh hX (by simp [h1, h7, w0, h18, hge, hle, h26]; rfl)) ?_)
                refine W_ret (W_retR (by simp [h1, h7, w0, h18, hge, hle, h26]; rfl) ?_ rfl)
                first
                  | (rw [show dTail t ps p = ⟨ps, [86], 0, 0⟩ from by simp only [dTail, h18b, if_true]; rw [if_neg (by omega)]]; exact Wk.refl _)
                  | (rw [show dTail t ps p = ⟨ps, seg t (p + 1) (tyP t (p + 1)).1, 0, 0⟩ from by simp only [dTail, h18b, h22]; simp; omega]; exact Wk.refl _)
end Go.Proofs
namespace Go.Proofs
open Go Go.Ev


theorem cb_spec_l01Int : Callable Tryz.prog 105 := ⟨_, Tryz.func105, by kernel_rfl, by kernel_rfl⟩
theorem ct_spec_l01Int {n : Int} : Ct Tryz.prog 105 [.int .i64 n] [] (.bool (decide (-2147483648 ≤ n ∧ n ≤ 2147483647))) [] := by
  refine Ct_bodyS tok Tryz.func105 rfl 9 (by kernel_rfl) (by kernel_rfl) fun X hX => ?_
  refine jq [0] ?_
  refine W_rseqK [2] (jt 3 (k:=(jm 3 5 [8] (p:=fun b1_3 => by (try simp at b1_3); exact (jh hX (by simp [-atD_lt, -atL_lt]; rfl))) (q:=fun b1_3 => by (try simp at b1_3); exact (jh hX (by simp [-atD_lt, -atL_lt]; rfl))) (k:=jr)))) ?_
  refine W_ret (je0 ?_)
  (try simp_all) <;> grind
end Go.Proofs
namespace Go.Proofs
open Go Go.Ev


theorem cb_spec_l03Ops : Callable Tryz.prog 222 := ⟨_, Tryz.func222, by kernel_rfl, by kernel_rfl⟩
theorem ct_spec_l03Ops  : Ct Tryz.prog 222 [] [] (.lst true 1 (opsL.map V.str)) [] := by
  refine Ct_bodyS tok Tryz.func222 rfl 2 (by kernel_rfl) (by kernel_rfl) fun X hX => ?_
  refine jq [] ?_
  refine jq [0] ?_
  refine W_ret (je0 ?_)
  rfl
end Go.Proofs
namespace Go.Proofs
open Go Go.Ev


theorem cb_spec_l01Split : Callable Tryz.prog 223 := ⟨_, Tryz.func223, by kernel_rfl, by kernel_rfl⟩
theorem ct_spec_l01Split {t : Str} {c : UInt8} (ht : t.length ≤ 1048576) : Ct Tryz.prog 223 [.str t, .int .u8 c.toNat] [] (.lst true 1 ((splitL c t).map V.str)) [] := by
  refine Ct_bodyS tok Tryz.func223 rfl 35 (by kernel_rfl) (by kernel_rfl) fun X hX => ?_
  refine jq [0, 1] ?_
  refine jq [0, 1, 5] ?_
  refine jq [0, 1, 5, 6] ?_
  refine W_seq (jq [0, 1, 5, 6, 7] ?_)
  refine W_block (W_loopU (α := List Str × Nat × Nat) [0, 1, 5, 6, 7] (fun a => [(5, .arr 0 0 a.1.length), (6, .int .i64 a.2.1), (7, .int .i64 a.2.2)]) (fun a => [(0, some (1, a.1.map V.str))]) (fun a => a.2.1 ≤ a.2.2 ∧ a.2.2 ≤ t.length ∧ a.1.length ≤ a.2.2 ∧ (∀ x ∈ (t.drop a.2.1).take (a.2.2 - a.2.1), x ≠ c) ∧ a.1 ++ splitL c (t.drop a.2.1) = splitL c t) (fun a => t.length - a.2.2) (([], 0, 0)) (fun a => by simp; rfl) (by simp) ?_ ?_)
  · simp
  rintro ⟨ps, f, i⟩ ⟨hf, hi, hp, hn, hI⟩
  simp only at hf hi hp hn hI
  have w1 : (ps.length + 1) * 16 ≤ 140737488355328 := by omega
  have w2 : ps.length ≤ 1099511627775 := by omega
  refine W_seq (W_rseqK [0, 1, 5, 6, 7, 12] (jh hX (by simp [w1, w2, hf, hi]; rfl)) ?_)
  refine jd (fun h4 => ?_) (fun h4 => ?_)
  · try simp at h4
    have hdi : i - f < (t.drop f).length := by simp; omega
    have hde : (t.drop f)[i - f] = t[i] := by simp [Nat.add_sub_cancel' hf]
    refine W_skip (W_seq (W_block (W_rseqK [0, 1, 5, 6, 7, 19] (jh hX (by simp [w1, w2, hf, hi, h4]; rfl)) ?_)))
    refine jd (fun h6 => ?_) (fun h6 => ?_)
    · try simp at h6
      have hs := splitL_hit hdi hn (by rw [hde]; exact UInt8.toNat_inj.1 h6)
      rw [List.drop_drop, show f + (i - f + 1) = i + 1 from by omega] at hs
      have hI2 : (ps ++ [seg t f i]) ++ splitL c (t.drop (i + 1)) = splitL c t := by rw [← hI, hs, seg, List.drop_take]; simp
      refine W_rseqK [0, 1, 5, 7] (jh hX (by simp [w1, w2, hf, hi, h4]; rfl)) ?_
      refine W_reg (jh hX (by simp; (try (simp (disch := omega) only [wrap_i64]; (try simp))); rfl)) ?_
      refine W_reg (jh hX (by simp; (try (simp (disch := omega) only [wrap_i64]; (try simp))); rfl)) ?_
      refine round_endT (if t[i].toNat = c.toNat then (ps ++ [seg t f i], i + 1, i + 1) else (ps, f, i + 1)) [0, 1, 5, 6, 7] 1 (by simp [hX]) (by simp) (by simp [h4, h6, seg]; try (simp (disch := omega) only [wrap_i64])) ?_ ?_
      · first
        | (rw [if_pos h6]; exact ⟨Nat.le_refl _, h4, by simp; omega, by simp, hI2⟩)
        | (rw [if_neg h6]; exact ⟨by simp; omega, h4, by simp; omega, hn2, hI⟩)
      · first | (rw [if_pos h6]; simp; omega) | (rw [if_neg h6]; simp; omega)
    · try simp at h6
      have h6c : t[i] ≠ c := fun e => h6 (by rw [e])
      have hn2 : ∀ x ∈ (t.drop f).take (i + 1 - f), x ≠ c := by
        rw [show i + 1 - f = (i - f) + 1 from by omega, List.take_succ_eq_append_getElem hdi, hde]
        intro x hx
        rcases List.mem_append.1 hx with hx | hx
        · exact hn x hx
        · simp at hx; rw [hx]; exact h6c
      refine W_skip (W_reg (jh hX (by simp; (try (simp (disch := omega) only [wrap_i64]; (try simp))); rfl)) ?_)
      refine round_endT (if t[i].toNat = c.toNat then (ps ++ [seg t f i], i + 1, i + 1) else (ps, f, i + 1)) [0, 1, 5, 6, 7] 1 (by simp [hX]) (by simp) (by simp [h4, h6, seg]; try (simp (disch := omega) only [wrap_i64])) ?_ ?_
      · first
        | (rw [if_pos h6]; exact ⟨Nat.le_refl _, h4, by simp; omega, by simp, hI2⟩)
        | (rw [if_neg h6]; exact ⟨by simp; omega, h4, by simp; omega, hn2, hI⟩)
      · first | (rw [if_pos h6]; simp; omega) | (rw [if_neg h6]; simp; omega)
  · try simp at h4
    have hfl : f ≤ t.length := by omega
    refine W_exit (W_rseqK [4] (jh hX (by simp [w1, w2, hf, hi, h4, hfl]; rfl)) ?_)
    refine W_ret (W_retR (by simp [w1, w2, hf, hi, h4, hfl]; rfl) ?_ rfl)
    have hil : i = t.length := by omega
    subst hil
    rw [splitL_no (by rw [List.take_of_length_le (by simp)] at hn; exact hn)] at hI
    rw [← hI]
    simp
    exact Wk.refl _
end Go.Proofs
namespace Go.Proofs
open Go Go.Ev


theorem cb_spec_OpForm : Callable Tryz.prog 194 := ⟨_, Tryz.func194, by kernel_rfl, by kernel_rfl⟩
theorem ct_spec_OpForm {op : Int} : Ct Tryz.prog 194 [.int .i64 op] [] (.str (opForm op)) [] := by
  have hol : opsL.length = 45 := rfl
  refine Ct_bodyS tok Tryz.func194 rfl 25 (by kernel_rfl) (by kernel_rfl) fun X hX => ?_
  refine jq [0] ?_
  refine W_rseqK [0, 3] (jF (c:=(by apply ct_spec_l03Ops <;> first | assumption | omega | (simp at *; omega) | simp_all)) (a:=cb_spec_l03Ops) (k:=jr)) ?_
  refine W_seq (W_rseqK [0, 3, 13] (jt 3 (k:=(jm 5 8 [0, 3, 13] (p:=fun b2_3 => by (try simp at b2_3); exact (jh hX (by simp [-atD_lt, -atL_lt]; rfl))) (q:=fun b2_3 => by (try simp at b2_3); exact (jh hX (by simp [-atD_lt, -atL_lt, b2_3]; rfl))) (k:=jf)))) ?_)
  refine jd (fun h2 => ?_) (fun h2 => ?_)
  · try simp at h2
    have hx : opForm op = [33] := by simp only [opForm]; rw [if_pos (by simp [hol] at h2; omega)]
    refine jq [2] ?_
    refine W_ret (je (by simp [h2]; rfl) ?_)
    simp_all [formOf]
  · try simp at h2
    simp only [hol] at h2
    obtain ⟨k, rfl⟩ : ∃ k : Nat, op = (k : Int) := ⟨op.toNat, by omega⟩
    have hk : k < opsL.length := by rw [hol]; omega
    have hf := formOf_ops ⟨k, by omega⟩ (by simp; omega)
    have hl : opsL[k].length ≤ 1048576 := Nat.le_trans (ops_short ⟨k, by omega⟩) (by decide)
    have hof : opForm k = formL.getD (k - 1) [] := by simp only [opForm]; rw [if_neg (by omega)]; congr 1; omega
    have hge : opsL.getD k [] = opsL[k] := by simp [hk]
    simp only [hge] at hf
    rw [hof, ← hf]
    clear hf hof hge
    refine W_skip (W_rseqK [4] (js hX 4 (by simp [h2, hk]; rfl) (jF (c:=(by apply (ct_spec_l01Split (c := 32)) <;> first | assumption | omega | (simp at *; omega) | simp_all)) (a:=cb_spec_l01Split) (k:=jr))) ?_)
    refine W_seq (W_rseqK [4, 21] (jh hX (by simp [h2, hk]; rfl)) ?_)
    refine jd (fun h5 => ?_) (fun h5 => ?_)
    · try simp at h5
      skip
      refine W_rseqK [2] (jh hX (by simp [h2, hk, h5]; rfl)) ?_
      refine W_ret (je (by simp [h2, hk, h5]; rfl) ?_)
      simp_all [formOf]
    · try simp at h5
      refine W_skip (jq [2] ?_)
      refine W_ret (je (by simp [h2, hk]; rfl) ?_)
      simp_all [formOf]
end Go.Proofs
namespace Go.Proofs
open Go Go.Ev


theorem cb_spec_l03Empty : Callable Tryz.prog 221 := ⟨_, Tryz.func221, by kernel_rfl, by kernel_rfl⟩
theorem ct_spec_l03Empty {x : Ins} : Ct Tryz.prog 221 [eI x] [] (.bool (decide (x.cls = [] ∧ x.name = [] ∧ x.desc = []))) [] := by
  refine Ct_bodyS tok Tryz.func221 rfl 16 (by kernel_rfl) (by kernel_rfl) fun X hX => ?_
  refine jq [1] ?_
  refine W_rseqK [2] (jt 4 (k:=(jm 4 6 [1, 10] (p:=fun b1_4 => by (try simp at b1_4); exact (jh hX (by simp [-atD_lt, -atL_lt]; rfl))) (q:=fun b1_4 => by (try simp at b1_4); exact (jh hX (by simp [-atD_lt, -atL_lt]; rfl))) (k:=(jt 1 (k:=(jm 4 11 [15] (p:=fun b1_9 => by (try simp at b1_9); exact (jh hX (by simp [-atD_lt, -atL_lt]; rfl))) (q:=fun b1_9 => by (try simp at b1_9); exact (jh hX (by simp [-atD_lt, -atL_lt]; rfl))) (k:=jr)))))))) ?_
  refine W_ret (je0 ?_)
  (try simp_all) <;> grind
end Go.Proofs
namespace Go.Proofs
open Go Go.Ev


theorem cb_spec_InsRight : Callable Tryz.prog 193 := ⟨_, Tryz.func193, by kernel_rfl, by kernel_rfl⟩
theorem ct_spec_InsRight {x : Ins} (h : sizeI x ≤ 1099511627776) : Ct Tryz.prog 193 [eI x] [] (.bool (insRight x)) [] := by
  simp only [sizeI] at h
  refine Ct_bodyS tok Tryz.func193 rfl 145 (by kernel_rfl) (by kernel_rfl) fun X hX => ?_
  refine jq [1] ?_
  refine W_seq (W_rseqK [1, 5] (jt 2 (k:=(jc [] (c:=(by apply ct_spec_OpForm <;> first | assumption | omega | (simp at *; omega) | simp_all)) (a:=cb_spec_OpForm) (k:=jf)))) ?_)
  refine W_block (jq [1, 5, 6] ?_)
  refine jd (fun h2 => ?_) (fun h2 => ?_)
  · try simp at h2
    refine W_rseqK [2] (jt 4 (k:=(jm 3 11 [14] (p:=fun b3_4 => by (try simp at b3_4); exact (js hX 1 (by simp [-atD_lt, -atL_lt]; rfl) (Runs.call [] rfl (by simp) rfl (by simp [-atD_lt, -atL_lt]; rfl) (by simp; rfl) (by apply ct_spec_l03Empty <;> first | assumption | omega | (simp at *; omega) | simp_all) cb_spec_l03Empty (by simp) (by simp) (by simp [-atD_lt, -atL_lt]; rfl) (jh hX (by simp [-atD_lt, -atL_lt]; rfl))))) (q:=fun b3_4 => by (try simp at b3_4); exact (jh hX (by simp [-atD_lt, -atL_lt]; rfl))) (k:=jr)))) ?_
    refine W_ret (je0 ?_)
    (try simp_all [insRight, insEmpty, isInt, init]) <;> grind
  · try simp at h2
    refine jq [1, 5, 15] ?_
    refine jd (fun h4 => ?_) (fun h4 => ?_)
    · try simp at h4
      refine W_rseqK [2] (jt 2 (k:=(jc [] (c:=(by apply ct_spec_l01Int <;> first | assumption | omega | (simp at *; omega) | simp_all)) (a:=cb_spec_l01Int) (k:=(jt 1 (k:=(jm 3 20 [23] (p:=fun b5_4 => by (try simp at b5_4); exact (js hX 1 (by simp [-atD_lt, -atL_lt]; rfl) (Runs.call [] rfl (by simp) rfl (by simp [-atD_lt, -atL_lt]; rfl) (by simp; rfl) (by apply ct_spec_l03Empty <;> first | assumption | omega | (simp at *; omega) | simp_all) cb_spec_l03Empty (by simp) (by simp) (by simp [-atD_lt, -atL_lt]; rfl) (jh hX (by simp [-atD_lt, -atL_lt]; rfl))))) (q:=fun b5_4 => by (try simp at b5_4); exact (jh hX (by simp [-atD_lt, -atL_lt]; rfl))) (k:=jr)))))))) ?_
      refine W_ret (je0 ?_)
      (try simp_all [insRight, insEmpty, isInt, init]) <;> grind
    · try simp at h4
      refine jq [1, 5, 24] ?_
      refine jd (fun h6 => ?_) (fun h6 => ?_)
      · try simp at h6
        refine W_rseqK [2] (jt 4 (k:=(jm 4 29 [1, 33] (p:=fun b7_4 => by (try simp at b7_4); exact (jh hX (by simp [-atD_lt, -atL_lt, b7_4]; rfl))) (q:=fun b7_4 => by (try simp at b7_4); exact (jh hX (by simp [-atD_lt, -atL_lt]; rfl))) (k:=(jt 1 (k:=(jm 3 34 [37] (p:=fun b7_9 => by (try simp at b7_9); exact (js hX 1 (by simp [-atD_lt, -atL_lt, b7_9]; rfl) (Runs.call [] rfl (by simp) rfl (by simp [-atD_lt, -atL_lt]; rfl) (by simp; rfl) (by apply ct_spec_l03Empty <;> first | assumption | omega | (simp at *; omega) | simp_all) cb_spec_l03Empty (by simp) (by simp) (by simp [-atD_lt, -atL_lt]; rfl) (jh hX (by simp [-atD_lt, -atL_lt]; rfl))))) (q:=fun b7_9 => by (try simp at b7_9); exact (jh hX (by simp [-atD_lt, -atL_lt]; rfl))) (k:=jr)))))))) ?_
        refine W_ret (je0 ?_)
        (try simp_all [insRight, insEmpty, isInt, init]) <;> grind
      · try simp at h6
        refine jq [1, 5, 38] ?_
        refine jd (fun h8 => ?_) (fun h8 => ?_)
        · try simp at h8
          refine W_rseqK [2] (jt 4 (k:=(jm 4 43 [1, 47] (p:=fun b9_4 => by (try simp at b9_4); exact (jh hX (by simp [-atD_lt, -atL_lt, b9_4]; rfl))) (q:=fun b9_4 => by (try simp at b9_4); exact (jh hX (by simp [-atD_lt, -atL_lt]; rfl))) (k:=(jt 1 (k:=(jm 3 48 [51] (p:=fun b9_9 => by (try simp at b9_9); exact (js hX 1 (by simp [-atD_lt, -atL_lt, b9_9]; rfl) (Runs.call [] rfl (by simp) rfl (by simp [-atD_lt, -atL_lt]; rfl) (by simp; rfl) (by apply ct_spec_l03Empty <;> first | assumption | omega | (simp at *; omega) | simp_all) cb_spec_l03Empty (by simp) (by simp) (by simp [-atD_lt, -atL_lt]; rfl) (jh hX (by simp [-atD_lt, -atL_lt]; rfl))))) (q:=fun b9_9 => by (try simp at b9_9); exact (jh hX (by simp [-atD_lt, -atL_lt]; rfl))) (k:=jr)))))))) ?_
          refine W_ret (je0 ?_)
          (try simp_all [insRight, insEmpty, isInt, init]) <;> grind
        · try simp at h8
          refine jq [1, 5, 52] ?_
          refine jd (fun h10 => ?_) (fun h10 => ?_)
          · try simp at h10
            refine W_rseqK [2] (jt 4 (k:=(jm 4 57 [1, 61] (p:=fun b11_4 => by (try simp at b11_4); exact (js hX 2 (by simp [-atD_lt, -atL_lt]; rfl) (Runs.call [] rfl (by simp) rfl (by simp [-atD_lt, -atL_lt]; rfl) (by simp; rfl) (by apply ct_spec_NameRight <;> first | assumption | omega | (simp at *; omega) | simp_all) cb_spec_NameRight (by simp) (by simp) (by simp [-atD_lt, -atL_lt]; rfl) (jh hX (by simp [-atD_lt, -atL_lt]; rfl))))) (q:=fun b11_4 => by (try simp at b11_4); exact (jh hX (by simp [-atD_lt, -atL_lt]; rfl))) (k:=(jt 1 (k:=(jm 4 62 [1, 66] (p:=fun b11_9 => by (try simp at b11_9); exact (jh hX (by simp [-atD_lt, -atL_lt]; rfl))) (q:=fun b11_9 => by (try simp at b11_9); exact (jh hX (by simp [-atD_lt, -atL_lt]; rfl))) (k:=(jt 1 (k:=(jm 4 67 [71] (p:=fun b11_14 => by (try simp at b11_14); exact (jh hX (by simp [-atD_lt, -atL_lt]; rfl))) (q:=fun b11_14 => by (try simp at b11_14); exact (jh hX (by simp [-atD_lt, -atL_lt]; rfl))) (k:=jr)))))))))))) ?_
            refine W_ret (je0 ?_)
            (try simp_all [insRight, insEmpty, isInt, init]) <;> grind
          · try simp at h10
            refine jq [1, 5, 72] ?_
            refine jd (fun h12 => ?_) (fun h12 => ?_)
            · try simp at h12
              refine W_rseqK [2] (jt 4 (k:=(jm 4 77 [1, 81] (p:=fun b13_4 => by (try simp at b13_4); exact (jh hX (by simp [-atD_lt, -atL_lt]; rfl))) (q:=fun b13_4 => by (try simp at b13_4); exact (jh hX (by simp [-atD_lt, -atL_lt]; rfl))) (k:=(jt 1 (k:=(jm 4 82 [1, 86] (p:=fun b13_9 => by (try simp at b13_9); exact (jh hX (by simp [-atD_lt, -atL_lt]; rfl))) (q:=fun b13_9 => by (try simp at b13_9); exact (jh hX (by simp [-atD_lt, -atL_lt]; rfl))) (k:=(jt 1 (k:=(jm 4 87 [1, 91] (p:=fun b13_14 => by (try simp at b13_14); exact (js hX 2 (by simp [-atD_lt, -atL_lt]; rfl) (Runs.call [] rfl (by simp) rfl (by simp [-atD_lt, -atL_lt]; rfl) (by simp; rfl) (by apply ct_spec_TypeRight <;> first | assumption | omega | (simp at *; omega) | simp_all) cb_spec_TypeRight (by simp) (by simp) (by simp [-atD_lt, -atL_lt]; rfl) (jh hX (by simp [-atD_lt, -atL_lt]; rfl))))) (q:=fun b13_14 => by (try simp at b13_14); exact (jh hX (by simp [-atD_lt, -atL_lt]; rfl))) (k:=(jt 1 (k:=(jm 5 92 [97] (p:=fun b13_19 => by (try simp at b13_19); (have hlt := (len_of_typeRight b13_19.2).1; have hat := isAt_lt (n := 91) hlt); exact (jh hX (by simp [-atD_lt, -atL_lt, hlt]; rfl))) (q:=fun b13_19 => by (try simp at b13_19); exact (jh hX (by simp [-atD_lt, -atL_lt]; rfl))) (k:=jr)))))))))))))))) ?_
              refine W_ret (je0 ?_)
              by_cases hd : typeRight x.desc = true
              · have hlt := (len_of_typeRight hd).1
                have hat := isAt_lt (n := 91) hlt
                have had := atD_lt hlt
                (try simp_all [insRight, insEmpty]) <;> grind
              · (try simp_all [insRight, insEmpty]) <;> grind
            · try simp at h12
              refine jq [1, 5, 98] ?_
              refine jd (fun h14 => ?_) (fun h14 => ?_)
              · try simp at h14
                refine W_rseqK [2] (jt 4 (k:=(jm 4 103 [1, 107] (p:=fun b15_4 => by (try simp at b15_4); exact (js hX 2 (by simp [-atD_lt, -atL_lt]; rfl) (Runs.call [] rfl (by simp) rfl (by simp [-atD_lt, -atL_lt]; rfl) (by simp; rfl) (by apply ct_spec_NameRight <;> first | assumption | omega | (simp at *; omega) | simp_all) cb_spec_NameRight (by simp) (by simp) (by simp [-atD_lt, -atL_lt]; rfl) (jh hX (by simp [-atD_lt, -atL_lt]; rfl))))) (q:=fun b15_4 => by (try simp at b15_4); exact (jh hX (by simp [-atD_lt, -atL_lt]; rfl))) (k:=(jt 1 (k:=(jm 4 108 [1, 112] (p:=fun b15_9 => by (try simp at b15_9); exact (js hX 2 (by simp [-atD_lt, -atL_lt]; rfl) (Runs.call [] rfl (by simp) rfl (by simp [-atD_lt, -atL_lt]; rfl) (by simp; rfl) (by apply ct_spec_NameRight <;> first | assumption | omega | (simp at *; omega) | simp_all) cb_spec_NameRight (by simp) (by simp) (by simp [-atD_lt, -atL_lt]; rfl) (jh hX (by simp [-atD_lt, -atL_lt]; rfl))))) (q:=fun b15_9 => by (try simp at b15_9); exact (jh hX (by simp [-atD_lt, -atL_lt]; rfl))) (k:=(jt 1 (k:=(jm 4 113 [117] (p:=fun b15_14 => by (try simp at b15_14); exact (js hX 2 (by simp [-atD_lt, -atL_lt]; rfl) (Runs.call [] rfl (by simp) rfl (by simp [-atD_lt, -atL_lt]; rfl) (by simp; rfl) (by apply ct_spec_TypeRight <;> first | assumption | omega | (simp at *; omega) | simp_all) cb_spec_TypeRight (by simp) (by simp) (by simp [-atD_lt, -atL_lt]; rfl) (jh hX (by simp [-atD_lt, -atL_lt]; rfl))))) (q:=fun b15_14 => by (try simp at b15_14); exact (jh hX (by simp [-atD_lt, -atL_lt]; rfl))) (k:=jr)))))))))))) ?_
                refine W_ret (je0 ?_)
                (try simp_all [insRight, insEmpty, isInt, init]) <;> grind
              · try simp at h14
                refine jq [1, 118] ?_
                refine jd (fun h16 => ?_) (fun h16 => ?_)
                · try simp at h16
                  refine W_rseqK [2] (jt 4 (k:=(jm 4 123 [1, 127] (p:=fun b17_4 => by (try simp at b17_4); exact (js hX 2 (by simp [-atD_lt, -atL_lt]; rfl) (Runs.call [] rfl (by simp) rfl (by simp [-atD_lt, -atL_lt]; rfl) (by simp; rfl) (by apply ct_spec_NameRight <;> first | assumption | omega | (simp at *; omega) | simp_all) cb_spec_NameRight (by simp) (by simp) (by simp [-atD_lt, -atL_lt]; rfl) (jh hX (by simp [-atD_lt, -atL_lt]; rfl))))) (q:=fun b17_4 => by (try simp at b17_4); exact (jh hX (by simp [-atD_lt, -atL_lt]; rfl))) (k:=(jt 1 (k:=(jm 9 128 [1, 137] (p:=fun b17_9 => by (try simp at b17_9); exact (js hX 2 (by simp [-atD_lt, -atL_lt]; rfl) (Runs.call [] rfl (by simp) rfl (by simp [-atD_lt, -atL_lt]; rfl) (by simp; rfl) (by apply ct_spec_NameRight <;> first | assumption | omega | (simp at *; omega) | simp_all) cb_spec_NameRight (by simp) (by simp) (by simp [-atD_lt, -atL_lt]; rfl) (js hX 1 (by simp [-atD_lt, -atL_lt]; rfl) (jm 4 132 [1, 128, 136] (p:=fun b17_13 => by (try simp at b17_13); exact (jh hX (by simp [-atD_lt, -atL_lt]; rfl))) (q:=fun b17_13 => by (try simp at b17_13); exact (jh hX (by simp [-atD_lt, -atL_lt]; rfl))) (k:=(jh hX (by simp [-atD_lt, -atL_lt]; rfl)))))))) (q:=fun b17_9 => by (try simp at b17_9); exact (jh hX (by simp [-atD_lt, -atL_lt]; rfl))) (k:=(jt 1 (k:=(jm 6 138 [144] (p:=fun b17_19 => by (try simp at b17_19); exact (js hX 2 (by simp [-atD_lt, -atL_lt]; rfl) (Runs.callF rfl (by simp) rfl (by simp [-atD_lt, -atL_lt]; rfl) (by apply ct_spec_DescRead <;> first | assumption | omega | (simp at *; omega) | simp_all) cb_spec_DescRead (by simp [-atD_lt, -atL_lt]; rfl) (jh hX (by simp [-atD_lt, -atL_lt]; rfl))))) (q:=fun b17_19 => by (try simp at b17_19); exact (jh hX (by simp [-atD_lt, -atL_lt]; rfl))) (k:=jr)))))))))))) ?_
                  refine W_ret (je0 ?_)
                  (try simp_all [insRight, insEmpty, isInt, init]) <;> grind
                · try simp at h16
                  refine W_skip (jq [2] ?_)
                  refine W_ret (je0 ?_)
                  (try simp_all [insRight, insEmpty, isInt, init]) <;> grind
end Go.Proofs
namespace Go.Proofs
open Go Go.Ev


theorem cb_spec_l03Handler : Callable Tryz.prog 195 := ⟨_, Tryz.func195, by kernel_rfl, by kernel_rfl⟩
theorem ct_spec_l03Handler {x : Hdl} {n : Int} (h : x.cls.length ≤ 1099511627776) : Ct Tryz.prog 195 [eH x, .int .i64 n] [] (.bool (hdlRight n x)) [] := by
  refine Ct_bodyS tok Tryz.func195 rfl 37 (by kernel_rfl) (by kernel_rfl) fun X hX => ?_
  refine jq [1, 2] ?_
  refine W_rseqK [4] (jt 4 (k:=(jm 6 8 [1, 2, 14] (p:=fun b1_4 => by (try simp at b1_4); exact (jh hX (by simp [-atD_lt, -atL_lt, b1_4]; rfl))) (q:=fun b1_4 => by (try simp at b1_4); exact (jh hX (by simp [-atD_lt, -atL_lt]; rfl))) (k:=(jt 1 (k:=(jm 5 15 [1, 2, 20] (p:=fun b1_11 => by (try simp at b1_11); exact (jh hX (by simp [-atD_lt, -atL_lt, b1_11]; rfl))) (q:=fun b1_11 => by (try simp at b1_11); exact (jh hX (by simp [-atD_lt, -atL_lt]; rfl))) (k:=(jt 1 (k:=(jm 4 21 [1, 2, 25] (p:=fun b1_17 => by (try simp at b1_17); exact (jh hX (by simp [-atD_lt, -atL_lt, b1_17]; rfl))) (q:=fun b1_17 => by (try simp at b1_17); exact (jh hX (by simp [-atD_lt, -atL_lt]; rfl))) (k:=(jt 1 (k:=(jm 5 26 [2, 31] (p:=fun b1_22 => by (try simp at b1_22); exact (jh hX (by simp [-atD_lt, -atL_lt, b1_22]; rfl))) (q:=fun b1_22 => by (try simp at b1_22); exact (jh hX (by simp [-atD_lt, -atL_lt]; rfl))) (k:=(jt 1 (k:=(jm 4 32 [36] (p:=fun b1_28 => by (try simp at b1_28); exact (js hX 2 (by simp [-atD_lt, -atL_lt, b1_28]; rfl) (Runs.call [] rfl (by simp) rfl (by simp [-atD_lt, -atL_lt]; rfl) (by simp; rfl) (by apply ct_spec_NameRight <;> first | assumption | omega | (simp at *; omega) | simp_all) cb_spec_NameRight (by simp) (by simp) (by simp [-atD_lt, -atL_lt]; rfl) (jh hX (by simp [-atD_lt, -atL_lt]; rfl))))) (q:=fun b1_28 => by (try simp at b1_28); exact (jh hX (by simp [-atD_lt, -atL_lt]; rfl))) (k:=jr)))))))))))))))))))) ?_
  refine W_ret (je0 ?_)
  (try simp_all [hdlRight]) <;> grind
end Go.Proofs
namespace Go.Proofs
open Go Go.Ev


theorem cb_spec_MethodRight : Callable Tryz.prog 151 := ⟨_, Tryz.func151, by kernel_rfl, by kernel_rfl⟩
theorem ct_spec_MethodRight {x : Mth} (h : sizeM x ≤ 1099511627776) : Ct Tryz.prog 151 [eM x] [] (.bool (mthRight x)) [] := by
  simp only [sizeM] at h
  refine Ct_bodyS tok Tryz.func151 rfl 180 (by kernel_rfl) (by kernel_rfl) fun X hX => ?_
  refine jq [1] ?_
  refine W_rseqK [1, 3] (jt 2 (k:=(jF (c:=(by apply ct_spec_DescRead <;> first | assumption | omega | (have := mem_sum (f := sizeI) (List.getElem_mem (l := x.code) (n := i) (by omega)); simp only [sizeI] at *; omega) | (have := mem_sum (f := sizeH) (List.getElem_mem (l := x.hdls) (n := i) (by omega)); simp only [sizeH] at *; omega))) (a:=cb_spec_DescRead) (k:=jr)))) ?_
  refine W_seq (W_rseqK [1, 3, 44] (jt 2 (k:=(jc [] (c:=(by apply ct_spec_NameRight <;> first | assumption | omega | (have := mem_sum (f := sizeI) (List.getElem_mem (l := x.code) (n := i) (by omega)); simp only [sizeI] at *; omega) | (have := mem_sum (f := sizeH) (List.getElem_mem (l := x.hdls) (n := i) (by omega)); simp only [sizeH] at *; omega))) (a:=cb_spec_NameRight) (k:=(jt 2 (k:=(jm 4 15 [1, 3, 19] (p:=fun b2_5 => by (try simp at b2_5); exact (jh hX (by simp [-atD_lt, -atL_lt]; rfl))) (q:=fun b2_5 => by (try simp at b2_5); exact (jh hX (by simp [-atD_lt, -atL_lt]; rfl))) (k:=(jt 1 (k:=(jm 4 20 [1, 3, 24] (p:=fun b2_10 => by (try simp at b2_10); exact (jh hX (by simp [-atD_lt, -atL_lt]; rfl))) (q:=fun b2_10 => by (try simp at b2_10); exact (jh hX (by simp [-atD_lt, -atL_lt]; rfl))) (k:=(jt 1 (k:=(jm 4 25 [1, 3, 29] (p:=fun b2_15 => by (try simp at b2_15); exact (jh hX (by simp [-atD_lt, -atL_lt]; rfl))) (q:=fun b2_15 => by (try simp at b2_15); exact (jh hX (by simp [-atD_lt, -atL_lt]; rfl))) (k:=(jt 1 (k:=(jm 4 30 [1, 3, 34] (p:=fun b2_20 => by (try simp at b2_20); exact (jh hX (by simp [-atD_lt, -atL_lt]; rfl))) (q:=fun b2_20 => by (try simp at b2_20); exact (jh hX (by simp [-atD_lt, -atL_lt, b2_20]; rfl))) (k:=(jt 1 (k:=(jm 4 35 [1, 3, 39] (p:=fun b2_25 => by (try simp at b2_25); exact (jh hX (by simp [-atD_lt, -atL_lt]; rfl))) (q:=fun b2_25 => by (try simp at b2_25); exact (jh hX (by simp [-atD_lt, -atL_lt, b2_25]; rfl))) (k:=(jt 1 (k:=(jm 4 40 [1, 3, 44] (p:=fun b2_30 => by (try simp at b2_30); exact (jh hX (by simp [-atD_lt, -atL_lt]; rfl))) (q:=fun b2_30 => by (try simp at b2_30); exact (jh hX (by simp [-atD_lt, -atL_lt, b2_30]; rfl))) (k:=jf)))))))))))))))))))))))))))) ?_)
  refine jd (fun h2 => ?_) (fun h2 => ?_)
  · try simp at h2
    have hh : mthHead x = false := by unfold mthHead init; grind
    refine jq [2] ?_
    refine W_ret (je (by simp [h2]; rfl) ?_)
    rw [mthRight_no hh]
  · try simp at h2
    have hh : mthHead x = true := by unfold mthHead init; grind
    refine W_skip (W_seq (W_rseqK [1, 3, 46] (jh hX (by simp [h2]; rfl)) ?_))
    refine jd (fun h4 => ?_) (fun h4 => ?_)
    · try simp at h4
      refine W_rseqK [2] (js hX 4 (by simp [h2]; rfl) (jm 4 50 [1, 54] (p:=fun b5_4 => by (try simp at b5_4); exact (jh hX (by simp [-atD_lt, -atL_lt, h2]; rfl))) (q:=fun b5_4 => by (try simp at b5_4); exact (jh hX (by simp [-atD_lt, -atL_lt]; rfl))) (k:=(jt 1 (k:=(jm 5 55 [1, 60] (p:=fun b5_9 => by (try simp at b5_9); exact (jh hX (by simp [-atD_lt, -atL_lt, h2]; rfl))) (q:=fun b5_9 => by (try simp at b5_9); exact (jh hX (by simp [-atD_lt, -atL_lt]; rfl))) (k:=(jt 1 (k:=(jm 5 61 [1, 66] (p:=fun b5_15 => by (try simp at b5_15); exact (jh hX (by simp [-atD_lt, -atL_lt, h2]; rfl))) (q:=fun b5_15 => by (try simp at b5_15); exact (jh hX (by simp [-atD_lt, -atL_lt]; rfl))) (k:=(jt 1 (k:=(jm 4 67 [1, 71] (p:=fun b5_21 => by (try simp at b5_21); exact (jh hX (by simp [-atD_lt, -atL_lt, h2]; rfl))) (q:=fun b5_21 => by (try simp at b5_21); exact (jh hX (by simp [-atD_lt, -atL_lt]; rfl))) (k:=(jt 1 (k:=(jm 4 72 [1, 76] (p:=fun b5_26 => by (try simp at b5_26); exact (jh hX (by simp [-atD_lt, -atL_lt, h2]; rfl))) (q:=fun b5_26 => by (try simp at b5_26); exact (jh hX (by simp [-atD_lt, -atL_lt]; rfl))) (k:=(jt 1 (k:=(jm 4 77 [81] (p:=fun b5_31 => by (try simp at b5_31); exact (jh hX (by simp [-atD_lt, -atL_lt, h2]; rfl))) (q:=fun b5_31 => by (try simp at b5_31); exact (jh hX (by simp [-atD_lt, -atL_lt]; rfl))) (k:=jr))))))))))))))))))))))) ?_
      refine W_ret (je (by simp [h2]; rfl) ?_)
      rw [mthRight_abs hh h4]
      simp [init]; grind
    · try simp at h4
      refine W_skip (W_rseqK [1, 3, 4] (jh hX (by simp [h2]; rfl)) ?_)
      refine W_rseqK [1, 3, 4, 5] (jh hX (by simp [h2]; rfl)) ?_
      refine W_seq (W_rseqK [1, 3, 4, 5, 91] (jh hX (by simp [h2]; rfl)) ?_)
      refine' W_condS3 [1, 3, 4, 5] (by simp; rfl) (by rfl) (fun h8 => ?a1_1) (fun h8 => ?a0_1) ?ak_1
      case a1_1 =>
        try simp at h8
        refine W_reg (jh hX (by simp; (try (simp (disch := omega) only [wrap_i64]; (try simp))); rfl)) ?_
        exact ⟨rfl, Eq.trans (by (try simp); rfl) (by rfl)⟩
      case a0_1 =>
        try simp at h8
        refine W_skip ?_
        exact ⟨rfl, Eq.trans (by (try simp); rfl) (by rfl)⟩
      case ak_1 =>
        refine W_le (Le.of_eq (by simp; rfl)) ?_
        have hpl := descRead_le x.desc
        have hw : IntKind.i64.wrap (((descRead x.desc).params.length : Int) + 1) = (descRead x.desc).params.length + 1 := wrap_i64 (by omega) (by omega)
        simp only [hw]
        refine W_seq (W_rseqK [1, 3, 4, 111] (jt 3 (k:=(jm 3 96 [1, 3, 4, 5, 99] (p:=fun b10_3 => by (try simp at b10_3); exact (jh hX (by simp [-atD_lt, -atL_lt]; rfl))) (q:=fun b10_3 => by (try simp at b10_3); exact (jh hX (by simp [-atD_lt, -atL_lt]; rfl))) (k:=(jt 1 (k:=(jm 5 100 [1, 3, 4, 105] (p:=fun b10_7 => by (try simp at b10_7); exact (jh hX (by simp [-atD_lt, -atL_lt]; rfl))) (q:=fun b10_7 => by (try simp at b10_7); exact (jh hX (by simp [-atD_lt, -atL_lt, h2, b10_7]; rfl))) (k:=(jt 1 (k:=(jm 5 106 [1, 3, 4, 111] (p:=fun b10_13 => by (try simp at b10_13); exact (jh hX (by simp [-atD_lt, -atL_lt]; rfl))) (q:=fun b10_13 => by (try simp at b10_13); exact (jh hX (by simp [-atD_lt, -atL_lt, h2, b10_13]; rfl))) (k:=jf)))))))))))) ?_)
        refine jd (fun h10 => ?_) (fun h10 => ?_)
        · try simp at h10
          rw [mthRight_out h4 (by unfold needs; grind)]
          refine jq [2] ?_
          refine W_ret (je (by simp [h2, h10]; rfl) ?_)
          rfl
        · try simp at h10
          rw [mthRight_in hh h4 (by unfold needs; grind)]
          refine W_skip (W_seq (jq [1, 3, 4, 6] ?_))
          refine W_block (W_loopU (α := Nat) [1, 3, 4, 6] (fun i => [(6, .int .i64 i)]) (fun i => []) (fun i => i ≤ x.code.length ∧ (x.code.drop i).all (codeOK x.code.length) = x.code.all (codeOK x.code.length)) (fun i => x.code.length - i) (0) (fun i => by simp; rfl) (by simp) ?_ ?_)
          · simp
          rintro i ⟨hi, hI⟩
          refine W_seq (W_rseqK [1, 3, 4, 6, 116] (jh hX (by simp [h2, h10]; rfl)) ?_)
          refine jd (fun h13 => ?_) (fun h13 => ?_)
          · try simp at h13
            rw [all_drop h13] at hI
            refine W_skip (W_seq (W_block (W_rseqK [1, 3, 4, 6, 145] (js hX 5 (by simp [h2, h10, h13]; rfl) (jc [] (c:=(by apply ct_spec_InsRight <;> first | assumption | omega | (have := mem_sum (f := sizeI) (List.getElem_mem (l := x.code) (n := i) (by omega)); simp only [sizeI] at *; omega) | (have := mem_sum (f := sizeH) (List.getElem_mem (l := x.hdls) (n := i) (by omega)); simp only [sizeH] at *; omega))) (a:=cb_spec_InsRight) (k:=(jt 2 (k:=(jm 19 126 [1, 3, 4, 6, 145] (p:=fun b15_8 => by (try simp at b15_8); exact (jh hX (by simp [-atD_lt, -atL_lt]; rfl))) (q:=fun b15_8 => by (try simp at b15_8); exact (js hX 6 (by simp [-atD_lt, -atL_lt, h2, h10, h13]; rfl) (Runs.call [] rfl (by simp) rfl (by simp [-atD_lt, -atL_lt]; rfl) (by simp; rfl) (by apply ct_spec_OpForm <;> first | assumption | omega | (have := mem_sum (f := sizeI) (List.getElem_mem (l := x.code) (n := i) (by omega)); simp only [sizeI] at *; omega) | (have := mem_sum (f := sizeH) (List.getElem_mem (l := x.hdls) (n := i) (by omega)); simp only [sizeH] at *; omega)) cb_spec_OpForm (by simp) (by simp) (by simp [-atD_lt, -atL_lt]; rfl) (js hX 2 (by simp [-atD_lt, -atL_lt]; rfl) (jm 9 135 [1, 3, 4, 6, 126, 144] (p:=fun b15_17 => by (try simp at b15_17); exact (jh hX (by simp [-atD_lt, -atL_lt, h2, h10, h13]; rfl))) (q:=fun b15_17 => by (try simp at b15_17); exact (jh hX (by simp [-atD_lt, -atL_lt]; rfl))) (k:=(jh hX (by simp [-atD_lt, -atL_lt]; rfl)))))))) (k:=jf))))))) ?_)))
            refine jd (fun h15 => ?_) (fun h15 => ?_)
            · try simp at h15
              refine jq [2] ?_
              refine W_ret (je (by simp [h2, h10, h13, h15]; rfl) ?_)
              simp only [atL_lt h13] at h15
              have : codeOK x.code.length x.code[i] = false := by unfold codeOK; grind
              simp [← hI, this]
            · try simp at h15
              simp only [atL_lt h13] at h15
              have h15b : codeOK x.code.length x.code[i] = true := by unfold codeOK; grind
              rw [h15b, Bool.true_and] at hI
              refine W_skip (W_reg (jh hX (by simp; (try (simp (disch := omega) only [wrap_i64]; (try simp))); rfl)) ?_)
              refine round_end (i + 1) [1, 3, 4, 6] (by simp [h2, h10, h13, h15]; try (simp (disch := omega) only [wrap_i64])) ?_ ?_
              · exact ⟨by omega, hI⟩
              · omega
          · try simp at h13
            rw [List.drop_eq_nil_of_le h13] at hI
            refine W_exit (W_seq (jq [1, 3, 4, 7] ?_))
            refine W_block (W_loopU (α := Nat) [1, 3, 4, 7] (fun i => [(7, .int .i64 i)]) (fun i => []) (fun i => i ≤ x.hdls.length ∧ (x.hdls.drop i).all (hdlRight x.code.length) = x.hdls.all (hdlRight x.code.length)) (fun i => x.hdls.length - i) (0) (fun i => by simp; rfl) (by simp) ?_ ?_)
            · simp
            rintro i ⟨hi2, hI2⟩
            refine W_seq (W_rseqK [1, 3, 4, 7, 150] (jh hX (by simp [h2, h10, h13]; rfl)) ?_)
            refine jd (fun h18 => ?_) (fun h18 => ?_)
            · try simp at h18
              rw [all_drop h18] at hI2
              refine W_skip (W_seq (W_block (W_rseqK [1, 3, 4, 7, 160] (js hX 6 (by simp [h2, h10, h13, h18]; rfl) (jc [] (c:=(by apply ct_spec_l03Handler <;> first | assumption | omega | (have := mem_sum (f := sizeI) (List.getElem_mem (l := x.code) (n := i) (by omega)); simp only [sizeI] at *; omega) | (have := mem_sum (f := sizeH) (List.getElem_mem (l := x.hdls) (n := i) (by omega)); simp only [sizeH] at *; omega))) (a:=cb_spec_l03Handler) (k:=jr))) ?_)))
              refine jd (fun h20 => ?_) (fun h20 => ?_)
              · try simp at h20
                refine jq [2] ?_
                refine W_ret (je (by simp [h2, h10, h13, h18]; rfl) ?_)
                simp [← hI2, h20]
              · try simp at h20
                rw [h20, Bool.true_and] at hI2
                refine W_skip (W_reg (jh hX (by simp; (try (simp (disch := omega) only [wrap_i64]; (try simp))); rfl)) ?_)
                refine round_end (i + 1) [1, 3, 4, 7] (by simp [h2, h10, h13, h18]; try (simp (disch := omega) only [wrap_i64])) ?_ ?_
                · exact ⟨by omega, hI2⟩
                · omega
            · try simp at h18
              rw [List.drop_eq_nil_of_le h18] at hI2
              refine W_exit (W_rseqK [2] (js hX 4 (by simp [h2, h10, h13, h18]; rfl) (jm 15 164 [179] (p:=fun b22_4 => by (try simp at b22_4); exact (jh hX (by simp [-atD_lt, -atL_lt]; rfl))) (q:=fun b22_4 => by (try simp at b22_4); exact (js hX 4 (by simp [-atD_lt, -atL_lt, h2, h10, h13, h18]; rfl) (jm 4 168 [3, 164, 172] (p:=fun b22_8 => by (try simp at b22_8); exact (jh hX (by simp [-atD_lt, -atL_lt, h2, h10, h13, h18]; rfl))) (q:=fun b22_8 => by (try simp at b22_8); exact (jh hX (by simp [-atD_lt, -atL_lt]; rfl))) (k:=(js hX 1 (by simp [-atD_lt, -atL_lt]; rfl) (jm 5 173 [164, 178] (p:=fun b22_13 => by (try simp at b22_13); exact (jh hX (by simp [-atD_lt, -atL_lt, h2, h10, h13, h18]; rfl))) (q:=fun b22_13 => by (try simp at b22_13); exact (jh hX (by simp [-atD_lt, -atL_lt]; rfl))) (k:=(jh hX (by simp [-atD_lt, -atL_lt]; rfl))))))))) (k:=jr))) ?_)
              refine W_ret (je (by simp [h2, h10, h13, h18]; rfl) ?_)
              simp [← hI, ← hI2, init]; grind
end Go.Proofs
namespace Go.Proofs
open Go Go.Ev


theorem cb_spec_ClassRight : Callable Tryz.prog 110 := ⟨_, Tryz.func110, by kernel_rfl, by kernel_rfl⟩
theorem ct_spec_ClassRight {x : Cls} (h : sizeC x ≤ 1099511627776) : Ct Tryz.prog 110 [eC x] [] (.bool (clsRight x)) [] := by
  simp only [sizeC] at h
  refine Ct_bodyS tok Tryz.func110 rfl 137 (by kernel_rfl) (by kernel_rfl) fun X hX => ?_
  refine jq [1] ?_
  refine W_seq (W_rseqK [1, 44] (jt 2 (k:=(jc [] (c:=(by apply ct_spec_NameRight <;> first | assumption | omega | (have := mem_sum (f := sizeF) (List.getElem_mem h4); simp only [sizeF] at *; (try simp only [atL_lt h4]); omega) | (have := mem_sum (f := sizeM) (List.getElem_mem h14); omega))) (a:=cb_spec_NameRight) (k:=(jt 2 (k:=(jm 5 12 [1, 17] (p:=fun b1_5 => by (try simp at b1_5); exact (jh hX (by simp [-atD_lt, -atL_lt]; rfl))) (q:=fun b1_5 => by (try simp at b1_5); exact (js hX 2 (by simp [-atD_lt, -atL_lt]; rfl) (Runs.call [] rfl (by simp) rfl (by simp [-atD_lt, -atL_lt]; rfl) (by simp; rfl) (by apply ct_spec_NameRight <;> first | assumption | omega | (have := mem_sum (f := sizeF) (List.getElem_mem h4); simp only [sizeF] at *; (try simp only [atL_lt h4]); omega) | (have := mem_sum (f := sizeM) (List.getElem_mem h14); omega)) cb_spec_NameRight (by simp) (by simp) (by simp [-atD_lt, -atL_lt]; rfl) (jh hX (by simp [-atD_lt, -atL_lt]; rfl))))) (k:=(jt 1 (k:=(jm 6 18 [1, 24] (p:=fun b1_11 => by (try simp at b1_11); exact (jh hX (by simp [-atD_lt, -atL_lt]; rfl))) (q:=fun b1_11 => by (try simp at b1_11); exact (jh hX (by simp [-atD_lt, -atL_lt]; rfl))) (k:=(jt 1 (k:=(jm 7 25 [1, 32] (p:=fun b1_18 => by (try simp at b1_18); exact (jh hX (by simp [-atD_lt, -atL_lt]; rfl))) (q:=fun b1_18 => by (try simp at b1_18); exact (js hX 3 (by simp [-atD_lt, -atL_lt]; rfl) (jm 3 28 [1, 25, 31] (p:=fun b1_21 => by (try simp at b1_21); exact (jh hX (by simp [-atD_lt, -atL_lt]; rfl))) (q:=fun b1_21 => by (try simp at b1_21); exact (jh hX (by simp [-atD_lt, -atL_lt]; rfl))) (k:=(jh hX (by simp [-atD_lt, -atL_lt]; rfl)))))) (k:=(jt 1 (k:=(jm 5 33 [1, 38] (p:=fun b1_26 => by (try simp at b1_26); exact (jh hX (by simp [-atD_lt, -atL_lt]; rfl))) (q:=fun b1_26 => by (try simp at b1_26); exact (jh hX (by simp [-atD_lt, -atL_lt]; rfl))) (k:=(jt 1 (k:=(jm 5 39 [1, 44] (p:=fun b1_32 => by (try simp at b1_32); exact (jh hX (by simp [-atD_lt, -atL_lt]; rfl))) (q:=fun b1_32 => by (try simp at b1_32); exact (jh hX (by simp [-atD_lt, -atL_lt, b1_32]; rfl))) (k:=jf)))))))))))))))))))))))) ?_)
  refine jd (fun h1 => ?_) (fun h1 => ?_)
  · try simp at h1
    have hh : clsHead x = false := by unfold clsHead; grind
    refine jq [2] ?_
    refine W_ret (je (by simp [h1]; rfl) ?_)
    simp [clsRight, hh]
  · try simp at h1
    have hh : clsHead x = true := by unfold clsHead; grind
    rw [show clsRight x = (fldsR [] x.fields && mthsR x.abstr [] x.methods) from by simp [clsRight, hh]]
    refine W_skip (W_seq (jq [1, 3] ?_))
    refine W_block (W_loopU (α := Nat) [1, 3] (fun i => [(3, .int .i64 i)]) (fun i => []) (fun i => i ≤ x.fields.length ∧ fldsR (x.fields.take i) (x.fields.drop i) = fldsR [] x.fields) (fun i => x.fields.length - i) (0) (fun i => by simp; rfl) (by simp) ?_ ?_)
    · simp
    rintro i ⟨hi, hI⟩
    refine W_seq (W_rseqK [1, 3, 49] (jh hX (by simp [h1]; rfl)) ?_)
    refine jd (fun h4 => ?_) (fun h4 => ?_)
    · try simp at h4
      rw [List.drop_eq_getElem_cons h4] at hI
      simp only [fldsR] at hI
      refine W_skip (W_seq (W_block (W_seq (W_rseqK [1, 3, 69] (js hX 6 (by simp [h1, h4]; rfl) (jc [] (c:=(by apply ct_spec_NameRight <;> first | assumption | omega | (have := mem_sum (f := sizeF) (List.getElem_mem h4); simp only [sizeF] at *; (try simp only [atL_lt h4]); omega) | (have := mem_sum (f := sizeM) (List.getElem_mem h14); omega))) (a:=cb_spec_NameRight) (k:=(jt 2 (k:=(jm 9 60 [1, 3, 69] (p:=fun b6_9 => by (try simp at b6_9); exact (jh hX (by simp [-atD_lt, -atL_lt]; rfl))) (q:=fun b6_9 => by (try simp at b6_9); exact (js hX 6 (by simp [-atD_lt, -atL_lt, h1, h4]; rfl) (Runs.call [] rfl (by simp) rfl (by simp [-atD_lt, -atL_lt]; rfl) (by simp; rfl) (by apply ct_spec_TypeRight <;> first | assumption | omega | (have := mem_sum (f := sizeF) (List.getElem_mem h4); simp only [sizeF] at *; (try simp only [atL_lt h4]); omega) | (have := mem_sum (f := sizeM) (List.getElem_mem h14); omega)) cb_spec_TypeRight (by simp) (by simp) (by simp [-atD_lt, -atL_lt]; rfl) (jh hX (by simp [-atD_lt, -atL_lt]; rfl))))) (k:=jf))))))) ?_))))
      refine jd (fun h6 => ?_) (fun h6 => ?_)
      · try simp at h6
        refine jq [2] ?_
        refine W_ret (je (by simp [h1, h4]; rfl) ?_)
        have h6b : (nameRight x.fields[i].name && typeRight x.fields[i].type) = false := by simp only [atL_lt h4] at h6; grind
        simp [← hI, h6b]
      · try simp at h6
        have h6b : (nameRight x.fields[i].name && typeRight x.fields[i].type) = true := by simp only [atL_lt h4] at h6; grind
        refine W_skip (jq [1, 3, 4] ?_)
        refine W_block (W_loopU (α := Nat) [1, 3, 4] (fun k => [(4, .int .i64 k)]) (fun k => []) (fun k => k ≤ i ∧ ((x.fields.take i).drop k).all (fun g => !decide (g.name = x.fields[i].name)) = (x.fields.take i).all (fun g => !decide (g.name = x.fields[i].name))) (fun k => i - k) (0) (fun k => by simp; rfl) (by simp) ?_ ?_)
        · simp
        rintro k ⟨hk, hK⟩
        refine W_seq (jq [1, 3, 4, 72] ?_)
        refine jd (fun h9 => ?_) (fun h9 => ?_)
        · try simp at h9
          have hkl : k < (x.fields.take i).length := by simp; omega
          have hkf : k < x.fields.length := by omega
          rw [all_drop hkl, List.getElem_take] at hK
          refine W_skip (W_seq (W_block (jD [1, 3, 4, 87] (jQ (by simp [h1, h4, h9, hkf]; rfl)) ?_)))
          refine jd (fun h11 => ?_) (fun h11 => ?_)
          · try simp at h11
            refine jq [2] ?_
            refine W_ret (je (by simp [h1, h4, h9, hkf]; rfl) ?_)
            simp [← hI, ← hK, h11]
          · try simp at h11
            simp only [h11, decide_false, Bool.not_false, Bool.true_and] at hK
            refine W_skip (W_reg (jh hX (by simp; (try (simp (disch := omega) only [wrap_i64]; (try simp))); rfl)) ?_)
            refine round_end (k + 1) [1, 3, 4] (by simp [h1, h4, h9, hkf]; try (simp (disch := omega) only [wrap_i64])) ?_ ?_
            · exact ⟨by omega, hK⟩
            · omega
        · try simp at h9
          rw [List.drop_eq_nil_of_le (by simp; omega)] at hK
          simp only [List.all_nil] at hK
          refine W_exit (W_reg (jh hX (by simp; (try (simp (disch := omega) only [wrap_i64]; (try simp))); rfl)) ?_)
          refine round_end (i + 1) [1, 3] (by simp [h1, h4, h9]; try (simp (disch := omega) only [wrap_i64])) ?_ ?_
          · exact ⟨by omega, by rw [List.take_succ_eq_append_getElem h4, ← hI, h6b, ← hK]; simp⟩
          · omega
    · try simp at h4
      rw [List.drop_eq_nil_of_le h4] at hI
      simp only [fldsR] at hI
      rw [← hI, Bool.true_and]
      refine W_exit (W_seq (jq [1, 5] ?_))
      refine W_block (W_loopU (α := Nat) [1, 5] (fun i => [(5, .int .i64 i)]) (fun i => []) (fun i => i ≤ x.methods.length ∧ mthsR x.abstr (x.methods.take i) (x.methods.drop i) = mthsR x.abstr [] x.methods) (fun i => x.methods.length - i) (0) (fun i => by simp; rfl) (by simp) ?_ ?_)
      · simp
      rintro i ⟨hi2, hI2⟩
      refine W_seq (W_rseqK [1, 5, 92] (jh hX (by simp [h1, h4]; rfl)) ?_)
      refine jd (fun h14 => ?_) (fun h14 => ?_)
      · try simp at h14
        rw [List.drop_eq_getElem_cons h14] at hI2
        simp only [mthsR] at hI2
        refine W_skip (W_seq (W_block (W_rseqK [1, 5, 6] (jh hX (by simp [h1, h4, h14]; rfl)) ?_)))
        refine W_seq (W_rseqK [1, 5, 6, 111] (js hX 1 (by simp [h1, h4, h14]; rfl) (jc [] (c:=(by apply ct_spec_MethodRight <;> first | assumption | omega | (have := mem_sum (f := sizeF) (List.getElem_mem h4); simp only [sizeF] at *; (try simp only [atL_lt h4]); omega) | (have := mem_sum (f := sizeM) (List.getElem_mem h14); omega))) (a:=cb_spec_MethodRight) (k:=(jt 2 (k:=(jm 8 103 [1, 5, 6, 111] (p:=fun b17_4 => by (try simp at b17_4); exact (jh hX (by simp [-atD_lt, -atL_lt]; rfl))) (q:=fun b17_4 => by (try simp at b17_4); exact (js hX 3 (by simp [-atD_lt, -atL_lt, h1, h4, h14]; rfl) (jm 4 106 [1, 5, 6, 103, 110] (p:=fun b17_7 => by (try simp at b17_7); exact (jh hX (by simp [-atD_lt, -atL_lt, h1, h4, h14]; rfl))) (q:=fun b17_7 => by (try simp at b17_7); exact (jh hX (by simp [-atD_lt, -atL_lt]; rfl))) (k:=(jh hX (by simp [-atD_lt, -atL_lt]; rfl)))))) (k:=jf))))))) ?_)
        refine jd (fun h17 => ?_) (fun h17 => ?_)
        · try simp at h17
          refine jq [2] ?_
          refine W_ret (je (by simp [h1, h4, h14]; rfl) ?_)
          have h17b : (mthRight x.methods[i] && !(x.methods[i].abstr && !x.abstr)) = false := by grind
          rw [← hI2, h17b, Bool.false_and, Bool.false_and]
        · try simp at h17
          have h17b : (mthRight x.methods[i] && !(x.methods[i].abstr && !x.abstr)) = true := by grind
          refine W_skip (jq [1, 5, 6, 7] ?_)
          refine W_block (W_loopU (α := Nat) [1, 5, 6, 7] (fun k => [(7, .int .i64 k)]) (fun k => []) (fun k => k ≤ i ∧ ((x.methods.take i).drop k).all (fun g => !(decide (g.name = x.methods[i].name) && decide (g.desc = x.methods[i].desc))) = (x.methods.take i).all (fun g => !(decide (g.name = x.methods[i].name) && decide (g.desc = x.methods[i].desc)))) (fun k => i - k) (0) (fun k => by simp; rfl) (by simp) ?_ ?_)
          · simp
          rintro k ⟨hk2, hK2⟩
          refine W_seq (jq [1, 5, 6, 7, 114] ?_)
          refine jd (fun h20 => ?_) (fun h20 => ?_)
          · try simp at h20
            have hkl : k < (x.methods.take i).length := by simp; omega
            have hkf : k < x.methods.length := by omega
            rw [all_drop hkl, List.getElem_take] at hK2
            refine W_skip (W_seq (W_block (jD [1, 5, 6, 7, 136] (jS 10 (by simp [h1, h4, h14, h20, hkf]; rfl) (jM 10 126 [1, 5, 6, 7, 136] (p:=fun b22_10 => by (try simp at b22_10); exact (jQ (by simp [-atD_lt, -atL_lt, h1, h4, h14, h20, hkf]; rfl))) (q:=fun b22_10 => by (try simp at b22_10); exact (jQ (by simp [-atD_lt, -atL_lt]; rfl))) (k:=(RunsQ.fin (by (try simp); rfl))))) ?_)))
            refine jd (fun h22 => ?_) (fun h22 => ?_)
            · try simp at h22
              refine jq [2] ?_
              refine W_ret (je (by simp [h1, h4, h14, h20, hkf]; rfl) ?_)
              simp only [atL_lt hkf] at h22
              rw [← hI2, ← hK2, decide_eq_true h22.1, decide_eq_true h22.2]
              simp
            · try simp at h22
              simp only [atL_lt hkf] at h22
              have h22b : (!(decide (x.methods[k].name = x.methods[i].name) && decide (x.methods[k].desc = x.methods[i].desc))) = true := by simp; exact Decidable.not_or_of_imp h22
              rw [h22b, Bool.true_and] at hK2
              refine W_skip (W_reg (jh hX (by simp; (try (simp (disch := omega) only [wrap_i64]; (try simp))); rfl)) ?_)
              refine round_end (k + 1) [1, 5, 6, 7] (by simp [h1, h4, h14, h20, hkf]; try (simp (disch := omega) only [wrap_i64])) ?_ ?_
              · exact ⟨by omega, hK2⟩
              · omega
          · try simp at h20
            rw [List.drop_eq_nil_of_le (by simp; omega)] at hK2
            simp only [List.all_nil] at hK2
            refine W_exit (W_reg (jh hX (by simp; (try (simp (disch := omega) only [wrap_i64]; (try simp))); rfl)) ?_)
            refine round_endT (i + 1) [1, 5] 1 (by simp [hX]) (by simp) (by simp [h1, h4, h14, h20]; try (simp (disch := omega) only [wrap_i64])) ?_ ?_
            · exact ⟨by omega, by rw [List.take_succ_eq_append_getElem h14, ← hI2, h17b, ← hK2]; simp⟩
            · omega
      · try simp at h14
        rw [List.drop_eq_nil_of_le h14] at hI2
        simp only [mthsR] at hI2
        rw [← hI2]
        refine W_exit (jq [2] ?_)
        refine W_ret (je (by simp [h1, h4, h14]; rfl) ?_)
        simp
end Go.Proofs
namespace Go.Proofs
open Go Go.Ev


theorem cb_spec_TypeClass : Callable Tryz.prog 102 := ⟨_, Tryz.func102, by kernel_rfl, by kernel_rfl⟩
theorem ct_spec_TypeClass {t : Str} (ht : t.length ≤ 1099511627776) : Ct Tryz.prog 102 [.str t] [] (.str (typeClass t)) [] := by
  refine Ct_bodyS tok Tryz.func102 rfl 24 (by kernel_rfl) (by kernel_rfl) fun X hX => ?_
  refine jq [0] ?_
  refine W_seq (W_rseqK [0, 10] (jt 4 (k:=(jm 4 6 [0, 10] (p:=fun b1_4 => by (try simp at b1_4); exact (jh hX (by simp [-atD_lt, -atL_lt]; rfl))) (q:=fun b1_4 => by (try simp at b1_4); exact (js hX 1 (by simp [-atD_lt, -atL_lt]; rfl) (Runs.call [] rfl (by simp) rfl (by simp [-atD_lt, -atL_lt]; rfl) (by simp; rfl) (by apply ct_spec_TypeRight <;> first | assumption | omega | (simp at *; omega) | simp_all) cb_spec_TypeRight (by simp) (by simp) (by simp [-atD_lt, -atL_lt]; rfl) (jh hX (by simp [-atD_lt, -atL_lt]; rfl))))) (k:=jf)))) ?_)
  refine jd (fun h1 => ?_) (fun h1 => ?_)
  · try simp at h1
    have hx : typeClass t = [] := by
      rw [typeClass, if_neg]
      rintro e
      have := (len_of_typeRight e).2
      rcases h1 with h1 | h1
      · omega
      · rw [h1] at e; cases e
    refine jq [2] ?_
    refine W_ret (je (by simp [h1]; rfl) ?_)
    rw [hx]
  · try simp at h1
    have hlt := (len_of_typeRight h1.2).1
    have hlt1 : 1 ≤ t.length := hlt
    have hlong := typeRight_long h1.2
    refine W_skip (W_seq (W_rseqK [0, 13] (jh hX (by simp [h1, hlt, hlt1]; rfl)) ?_))
    refine' W_condS3 [0] (by simp; rfl) (by rfl) (fun h3 => ?a1_1) (fun h3 => ?a0_1) ?ak_1
    case a1_1 =>
      try simp at h3
      refine W_reg (jh hX (by simp [h1, hlt, hlt1]; rfl)) ?_
      exact ⟨rfl, Eq.trans (by (try simp); rfl) (by rfl)⟩
    case a0_1 =>
      try simp at h3
      refine W_skip ?_
      exact ⟨rfl, Eq.trans (by (try simp); rfl) (by rfl)⟩
    case ak_1 =>
      refine W_le (Le.of_eq (by simp; rfl)) ?_
      generalize hu : (bif _ then _ else t) = u
      have hu2 : u = if isAt t 0 91 then t.drop 1 else t := by rw [← hu, isAt_lt hlt]; simp [cond_eq_ite]
      have hx : typeClass t = tClass u := by rw [typeClass, if_pos h1.2, hu2]; split <;> rfl
      rw [hx]
      clear hu hx
      have hu0 : 0 < u.length := by
        rw [hu2]
        split
        · rename_i hb
          have := hlong.1 hb
          simp; omega
        · exact hlt
      have hul : u.length ≤ t.length := by rw [hu2]; split <;> simp
      have hu3 : isAt u 0 73 = false → 2 < u.length := by
        intro hb
        rw [hu2] at hb ⊢
        split at hb
        · rename_i hc
          rw [isAt_drop] at hb
          have := hlong.2.1 hc hb
          rw [if_pos hc]; simp; omega
        · rename_i hc
          rw [if_neg hc]
          exact hlong.2.2 (by simpa using hc) hb
      have hat := isAt_lt (n := 73) hu0
      refine W_seq (W_rseqK [0, 18] (jh hX (by simp [h1, hlt, hlt1, hu0]; rfl)) ?_)
      refine jd (fun h5 => ?_) (fun h5 => ?_)
      · try simp at h5
        refine jq [2] ?_
        refine W_ret (je (by simp [h1, hlt, hlt1, hu0]; rfl) ?_)
        rw [tClass, if_pos (by rw [hat]; simpa using h5)]
      · try simp at h5
        have hat2 : isAt u 0 73 = false := by rw [hat]; simpa using h5
        have hu4 := hu3 hat2
        have hs1 : 0 ≤ (u.length : Int) - 1 := by omega
        have hs2 : ((u.length : Int) - 1).toNat = u.length - 1 := by omega
        have hs3 : u.length - 1 ≤ u.length := by omega
        have hs4 : 1 ≤ u.length - 1 := by omega
        have hs5 : 1 ≤ u.length := hu0
        refine W_skip (W_rseqK [2] (jh hX (by simp [h1, hlt, hlt1, hu0, hs1, hs2, hs3, hs4, hs5]; (try (simp (disch := omega) only [wrap_i64]; (try simp [h1, hlt, hlt1, hu0, hs1, hs2, hs3, hs4, hs5]))); rfl)) ?_)
        refine W_ret (je (by simp [h1, hlt, hlt1, hu0, hs1, hs2, hs3, hs4, hs5]; rfl) ?_)
        rw [tClass, if_neg (by simp [hat2])]
        simp [seg]
end Go.Proofs
namespace Go.Proofs
open Go Go.Ev


theorem cb_spec_l05Type : Callable Tryz.prog 56 := ⟨_, Tryz.func56, by kernel_rfl, by kernel_rfl⟩
theorem ct_spec_l05Type {l : List Cls} {t : Str} (hl : l.length ≤ 1099511627776) (ht : t.length ≤ 1099511627776) : Ct Tryz.prog 56 [.lst false 6 (l.map eC), .str t] [] (.bool (typeK l t)) [] := by
  refine Ct_bodyS tok Tryz.func56 rfl 15 (by kernel_rfl) (by kernel_rfl) fun X hX => ?_
  refine jq [0, 1] ?_
  refine W_rseqK [0, 5] (jt 1 (k:=(jc [] (c:=(by apply ct_spec_TypeClass <;> first | assumption | omega | (simp at *; omega) | simp_all)) (a:=cb_spec_TypeClass) (k:=jr)))) ?_
  refine W_rseqK [4] (jt 3 (k:=(jm 4 10 [14] (p:=fun b2_3 => by (try simp at b2_3); exact (jh hX (by simp [-atD_lt, -atL_lt]; rfl))) (q:=fun b2_3 => by (try simp at b2_3); exact (js hX 2 (by simp [-atD_lt, -atL_lt]; rfl) (Runs.call [] rfl (by simp) rfl (by simp [-atD_lt, -atL_lt]; rfl) (by simp; rfl) (by apply ct_spec_l05Known <;> first | assumption | omega | (simp at *; omega) | simp_all) cb_spec_l05Known (by simp) (by simp) (by simp [-atD_lt, -atL_lt]; rfl) (jh hX (by simp [-atD_lt, -atL_lt]; rfl))))) (k:=jr)))) ?_
  refine W_ret (je0 ?_)
  (try simp_all [typeK])
end Go.Proofs
namespace Go.Proofs
open Go Go.Ev


theorem cb_spec_l05Desc : Callable Tryz.prog 190 := ⟨_, Tryz.func190, by kernel_rfl, by kernel_rfl⟩
theorem ct_spec_l05Desc {l : List Cls} {t : Str} (hl : l.length ≤ 1099511627776) (ht : t.length ≤ 1099511627776) : Ct Tryz.prog 190 [.lst false 6 (l.map eC), .str t] [] (.bool (descK l t)) [] := by
  have hpl := descRead_le t
  have hps := descRead_parts t
  refine Ct_bodyS tok Tryz.func190 rfl 29 (by kernel_rfl) (by kernel_rfl) fun X hX => ?_
  refine jq [0, 1] ?_
  refine W_rseqK [0, 5] (jt 1 (k:=(jF (c:=(by apply ct_spec_DescRead <;> first | assumption | omega | exact Nat.le_trans (hps.2 _ (List.getElem_mem _)) ht)) (a:=cb_spec_DescRead) (k:=jr)))) ?_
  refine W_seq (jq [0, 5, 6] ?_)
  refine W_block (W_loopU (α := Nat) [0, 5, 6] (fun i => [(6, .int .i64 i)]) (fun i => []) (fun i => i ≤ (descRead t).params.length ∧ ((descRead t).params.drop i).all (typeK l) = (descRead t).params.all (typeK l)) (fun i => (descRead t).params.length - i) (0) (fun i => by simp; rfl) (by simp) ?_ ?_)
  · simp
  rintro i ⟨hi, hI⟩
  refine W_seq (jq [0, 5, 6, 14] ?_)
  refine jd (fun h3 => ?_) (fun h3 => ?_)
  · try simp at h3
    rw [all_drop h3] at hI
    refine W_skip (W_seq (W_block (W_rseqK [0, 5, 6, 24] (js hX 6 (by simp [h3]; rfl) (jc [] (c:=(by apply ct_spec_l05Type <;> first | assumption | omega | exact Nat.le_trans (hps.2 _ (List.getElem_mem _)) ht)) (a:=cb_spec_l05Type) (k:=jr))) ?_)))
    refine jd (fun h5 => ?_) (fun h5 => ?_)
    · try simp at h5
      refine jq [4] ?_
      refine W_ret (je (by simp [h3]; rfl) ?_)
      simp [descK, ← hI, h5]
    · try simp at h5
      rw [h5, Bool.true_and] at hI
      refine W_skip (W_reg (jh hX (by simp; (try (simp (disch := omega) only [wrap_i64]; (try simp))); rfl)) ?_)
      refine round_end (i + 1) [0, 5, 6] (by simp [h3]; try (simp (disch := omega) only [wrap_i64])) ?_ ?_
      · exact ⟨by omega, hI⟩
      · omega
  · try simp at h3
    rw [List.drop_eq_nil_of_le h3] at hI
    refine W_exit (W_rseqK [4] (js hX 3 (by simp [h3]; rfl) (jc [] (c:=(by apply ct_spec_l05Type <;> first | assumption | omega | exact Nat.le_trans (hps.2 _ (List.getElem_mem _)) ht)) (a:=cb_spec_l05Type) (k:=jr))) ?_)
    refine W_ret (je (by simp [h3]; rfl) ?_)
    simp [descK, ← hI]
end Go.Proofs
namespace Go.Proofs
open Go Go.Ev


theorem cb_spec_l05Types : Callable Tryz.prog 148 := ⟨_, Tryz.func148, by kernel_rfl, by kernel_rfl⟩
theorem ct_spec_l05Types {l : List Cls} {x : Cls} (hl : l.length ≤ 1099511627776) (h : sizeC x ≤ 1099511627776) : Ct Tryz.prog 148 [.lst false 6 (l.map eC), eC x] [] (.bool (clsK l x)) [] := by
  simp only [sizeC] at h
  refine Ct_bodyS tok Tryz.func148 rfl 39 (by kernel_rfl) (by kernel_rfl) fun X hX => ?_
  refine jq [0, 3] ?_
  refine W_seq (jq [0, 3, 5] ?_)
  refine W_block (W_loopU (α := Nat) [0, 3, 5] (fun i => [(5, .int .i64 i)]) (fun i => []) (fun i => i ≤ x.fields.length ∧ (x.fields.drop i).all (fun f => typeK l f.type) = x.fields.all (fun f => typeK l f.type)) (fun i => x.fields.length - i) (0) (fun i => by simp; rfl) (by simp) ?_ ?_)
  · simp
  rintro i ⟨hi, hI⟩
  refine W_seq (jq [0, 3, 5, 11] ?_)
  refine jd (fun h2 => ?_) (fun h2 => ?_)
  · try simp at h2
    rw [all_drop h2] at hI
    refine W_skip (W_seq (W_block (W_rseqK [0, 3, 5, 22] (js hX 7 (by simp [h2]; rfl) (jc [] (c:=(by apply ct_spec_l05Type <;> first | assumption | omega | (have := mem_sum (f := sizeF) (List.getElem_mem h2); simp only [sizeF] at *; omega) | (have := mem_sum (f := sizeM) (List.getElem_mem h7); simp only [sizeM] at *; omega))) (a:=cb_spec_l05Type) (k:=jr))) ?_)))
    refine jd (fun h4 => ?_) (fun h4 => ?_)
    · try simp at h4
      refine jq [4] ?_
      refine W_ret (je (by simp [h2]; rfl) ?_)
      simp [clsK, ← hI, h4]
    · try simp at h4
      rw [h4, Bool.true_and] at hI
      refine W_skip (W_reg (jh hX (by simp; (try (simp (disch := omega) only [wrap_i64]; (try simp))); rfl)) ?_)
      refine round_end (i + 1) [0, 3, 5] (by simp [h2]; try (simp (disch := omega) only [wrap_i64])) ?_ ?_
      · exact ⟨by omega, hI⟩
      · omega
  · try simp at h2
    rw [List.drop_eq_nil_of_le h2] at hI
    refine W_exit (W_seq (jq [0, 3, 6] ?_))
    refine W_block (W_loopU (α := Nat) [0, 3, 6] (fun i => [(6, .int .i64 i)]) (fun i => []) (fun i => i ≤ x.methods.length ∧ (x.methods.drop i).all (fun m => descK l m.desc) = x.methods.all (fun m => descK l m.desc)) (fun i => x.methods.length - i) (0) (fun i => by simp; rfl) (by simp) ?_ ?_)
    · simp
    rintro i ⟨hi2, hI2⟩
    refine W_seq (W_rseqK [0, 3, 6, 27] (jh hX (by simp [h2]; rfl)) ?_)
    refine jd (fun h7 => ?_) (fun h7 => ?_)
    · try simp at h7
      rw [all_drop h7] at hI2
      refine W_skip (W_seq (W_block (W_rseqK [0, 3, 6, 38] (js hX 7 (by simp [h2, h7]; rfl) (jc [] (c:=(by apply ct_spec_l05Desc <;> first | assumption | omega | (have := mem_sum (f := sizeF) (List.getElem_mem h2); simp only [sizeF] at *; omega) | (have := mem_sum (f := sizeM) (List.getElem_mem h7); simp only [sizeM] at *; omega))) (a:=cb_spec_l05Desc) (k:=jr))) ?_)))
      refine jd (fun h9 => ?_) (fun h9 => ?_)
      · try simp at h9
        refine jq [4] ?_
        refine W_ret (je (by simp [h2, h7]; rfl) ?_)
        simp [clsK, ← hI2, h9]
      · try simp at h9
        rw [h9, Bool.true_and] at hI2
        refine W_skip (W_reg (jh hX (by simp; (try (simp (disch := omega) only [wrap_i64]; (try simp))); rfl)) ?_)
        refine round_end (i + 1) [0, 3, 6] (by simp [h2, h7]; try (simp (disch := omega) only [wrap_i64])) ?_ ?_
        · exact ⟨by omega, hI2⟩
        · omega
    · try simp at h7
      rw [List.drop_eq_nil_of_le h7] at hI2
      refine W_exit (jq [4] ?_)
      refine W_ret (je (by simp [h2, h7]; rfl) ?_)
      simp [clsK, ← hI, ← hI2]
end Go.Proofs
namespace Go.Proofs
open Go Go.Ev


theorem cb_spec_l05Method : Callable Tryz.prog 191 := ⟨_, Tryz.func191, by kernel_rfl, by kernel_rfl⟩
theorem ct_spec_l05Method {x : Cls} {n d : Str} (h : sizeC x ≤ 1099511627776) : Ct Tryz.prog 191 [eC x, .str n, .str d] [] (.int .i64 (mthFrom n d x.methods 0)) [] := by
  simp only [sizeC] at h
  refine Ct_bodyS tok Tryz.func191 rfl 34 (by kernel_rfl) (by kernel_rfl) fun X hX => ?_
  refine jq [1, 2, 3] ?_
  refine W_seq (jq [1, 2, 3, 7] ?_)
  refine W_block (W_loopU (α := Nat) [1, 2, 3, 7] (fun i => [(7, .int .i64 i)]) (fun i => []) (fun i => i ≤ x.methods.length ∧ mthFrom n d (x.methods.drop i) i = mthFrom n d x.methods 0) (fun i => x.methods.length - i) (0) (fun i => by simp; rfl) (by simp) ?_ ?_)
  · simp
  rintro i ⟨hi, hI⟩
  refine W_seq (jq [1, 2, 3, 7, 12] ?_)
  refine jd (fun h2 => ?_) (fun h2 => ?_)
  · try simp at h2
    rw [List.drop_eq_getElem_cons h2] at hI
    simp only [mthFrom] at hI
    refine W_skip (W_seq (W_block (W_rseqK [1, 2, 3, 7, 32] (js hX 9 (by simp [h2]; rfl) (jm 9 23 [1, 2, 3, 7, 32] (p:=fun b4_9 => by (try simp at b4_9); exact (jh hX (by simp [-atD_lt, -atL_lt, h2]; rfl))) (q:=fun b4_9 => by (try simp at b4_9); exact (jh hX (by simp [-atD_lt, -atL_lt]; rfl))) (k:=jf))) ?_)))
    refine jd (fun h4 => ?_) (fun h4 => ?_)
    · try simp at h4
      refine jq [6] ?_
      refine W_ret (je (by simp [h2]; rfl) ?_)
      simp only [atL_lt h2] at h4
      rw [← hI, if_pos h4]
    · try simp at h4
      simp only [atL_lt h2] at h4
      have h4c : ¬ (x.methods[i].name = n ∧ x.methods[i].desc = d) := fun e => h4 e.1 e.2
      refine W_skip (W_reg (jh hX (by simp; (try (simp (disch := omega) only [wrap_i64]; (try simp))); rfl)) ?_)
      refine round_end (i + 1) [1, 2, 3, 7] (by simp [h2]; try (simp (disch := omega) only [wrap_i64])) ?_ ?_
      · exact ⟨by omega, by rw [← hI, if_neg h4c]⟩
      · omega
  · try simp at h2
    refine W_exit (jq [6] ?_)
    refine W_ret (je (by simp [h2]; rfl) ?_)
    simp [← hI, List.drop_eq_nil_of_le h2, mthFrom]
end Go.Proofs
namespace Go.Proofs
open Go Go.Ev


theorem cb_spec_l05Access : Callable Tryz.prog 149 := ⟨_, Tryz.func149, by kernel_rfl, by kernel_rfl⟩
theorem ct_spec_l05Access {l : List Cls} {i : Nat} (hl : sizeL l ≤ 1099511627776) (hi : i < l.length) (hu : findFrom l[i].name l 0 = i) (hEn : ∀ j : Nat, j < l.length → Ends l (l.length + 1) j) : Ct Tryz.prog 149 [.lst false 6 (l.map eC), eC l[i]] [] (.bool (accOK l i)) [] := by
  have hll : l.length ≤ 1099511627776 := by unfold sizeL at hl; omega
  have hsz : ∀ {k : Nat} (h : k < l.length), sizeC l[k] ≤ 1099511627776 := fun h => Nat.le_trans (sizeL_at h) hl
  have hE0 : Ends l l.length (nxt l i) := by obtain ⟨g, h1, h2⟩ := Ends_nat (hEn i hi); rw [show l.length = g from by omega]; exact h2
  refine Ct_bodyS tok Tryz.func149 rfl 112 (by kernel_rfl) (by kernel_rfl) fun X hX => ?_
  refine jq [0, 3] ?_
  refine W_seq (W_rseqK [0, 3, 5] (jt 3 (k:=(jc [] (c:=(by apply ct_spec_l05Find <;> first | assumption | omega | exact hsz (by assumption) | (rw [atL_lt (by assumption)]; exact hsz (by assumption)) | (have := hsz hp; simp only [sizeC] at this; omega) | (have := hsz hq; simp only [sizeC] at this; omega))) (a:=cb_spec_l05Find) (k:=jr)))) ?_)
  refine W_block (W_loopU (α := Nat × Int) [0, 3, 5] (fun a => [(5, .int .i64 a.2)]) (fun a => []) (fun a => Ends l a.1 a.2 ∧ (-1 ≤ a.2 ∧ a.2 < l.length) ∧ (∀ u ∈ ups l a.1 a.2, u ∈ ups l (l.length + 1) i) ∧ (ups l a.1 a.2).all (fun u => (atL l u).methods.all (okPair l l[i] i)) = accOK l i) (fun a => a.1) ((l.length, nxt l i)) (fun a => by simp; rfl) (by simp [nxt_nat, atL_lt hi]) ?_ ?_)
  · exact ⟨hE0, @nxt_ge l i, fun u h => by rw [ups_nat]; exact List.mem_cons_of_mem _ h, by simp only [accOK, atL_lt hi]⟩
  rintro ⟨f, up⟩ ⟨hE, hup, hS, hI⟩
  simp only at hE hup hS hI
  refine W_seq (jq [0, 3, 5, 15] ?_)
  refine jd (fun h2 => ?_) (fun h2 => ?_)
  · try simp at h2
    obtain ⟨p, rfl⟩ : ∃ k : Nat, up = k := ⟨up.toNat, by omega⟩
    have hp : p < l.length := by omega
    obtain ⟨f, rfl, hE2⟩ := Ends_nat hE
    rw [ups_nat] at hI
    simp only [List.all_cons, atL_lt hp] at hI
    have hml : l[p].methods.length ≤ 1099511627776 := by have := hsz hp; simp only [sizeC] at this; omega
    refine W_skip (W_seq (W_block (jq [0, 3, 5, 6] ?_)))
    refine W_block (W_loopU (α := Nat) [0, 3, 5, 6] (fun j => [(6, .int .i64 j)]) (fun j => []) (fun j => j ≤ l[p].methods.length ∧ (l[p].methods.drop j).all (okPair l l[i] i) = l[p].methods.all (okPair l l[i] i)) (fun j => l[p].methods.length - j) (0) (fun j => by simp; rfl) (by simp) ?_ ?_)
    · simp
    rintro j ⟨hj, hJ⟩
    refine W_seq (W_rseqK [0, 3, 5, 6, 30] (jh hX (by simp [h2, hp]; rfl)) ?_)
    refine jd (fun h5 => ?_) (fun h5 => ?_)
    · try simp at h5
      rw [all_drop h5] at hJ
      refine W_skip (W_seq (W_block (W_rseqK [0, 3, 5, 6, 7] (jh hX (by simp [h2, hp, h5]; rfl)) ?_)))
      refine W_seq (W_rseqK [0, 3, 5, 6, 7, 43] (jh hX (by simp [h2, hp, h5]; rfl)) ?_)
      refine jd (fun h8 => ?_) (fun h8 => ?_)
      · try simp at h8
        have hq8 : okPair l l[i] i l[p].methods[j] = true := by simp [okPair, h8, init]
        have hJ2 := hJ
        rw [hq8, Bool.true_and] at hJ2
        refine W_exit (W_reg (jh hX (by simp; (try (simp (disch := omega) only [wrap_i64]; (try simp))); rfl)) ?_)
        refine round_endT (j + 1) [0, 3, 5, 6] 1 (by simp [hX]) (by simp) (by simp; try (simp (disch := omega) only [wrap_i64])) ?_ ?_
        · exact ⟨by omega, hJ2⟩
        · omega
      · try simp at h8
        refine W_skip (W_rseqK [0, 3, 5, 6, 7, 8] (js hX 5 (by simp [h2, hp, h5]; rfl) (jc [] (c:=(by apply ct_spec_l05Method <;> first | assumption | omega | exact hsz (by assumption) | (rw [atL_lt (by assumption)]; exact hsz (by assumption)) | (have := hsz hp; simp only [sizeC] at this; omega) | (have := hsz hq; simp only [sizeC] at this; omega))) (a:=cb_spec_l05Method) (k:=jr))) ?_)
        refine W_seq (jD [0, 3, 5, 6, 7, 66] (jS 3 (by simp; rfl) (jM 14 52 [0, 3, 5, 6, 7, 66] (p:=fun b10_3 => by (try simp at b10_3); (have hk8 := mthFrom_lt b10_3); exact (jS 3 (by simp [-atD_lt, -atL_lt, h2, hp, h5, b10_3, hk8, hi]; rfl) (jM 10 55 [0, 3, 5, 6, 7, 52, 65] (p:=fun b10_6 => by (try simp at b10_6); exact (jQ (by simp [-atD_lt, -atL_lt]; rfl))) (q:=fun b10_6 => by (try simp at b10_6); exact (jQ (by simp [-atD_lt, -atL_lt, h2, hp, h5, b10_3, hk8, hi]; rfl))) (k:=(jQ (by simp [-atD_lt, -atL_lt]; rfl)))))) (q:=fun b10_3 => by (try simp at b10_3); exact (jQ (by simp [-atD_lt, -atL_lt]; rfl))) (k:=(RunsQ.fin (by (try simp); rfl))))) ?_)
        refine jd (fun h10 => ?_) (fun h10 => ?_)
        · try simp at h10
          have hq10 : okPair l l[i] i l[p].methods[j] = false := by simp only [okPair, decide_eq_false (show ¬ l[p].methods[j].name = init from h8)]; simp; grind
          refine jq [4] ?_
          refine W_ret (je (by simp [h2, hp, h5, h10]; rfl) ?_)
          rw [← hI, ← hJ, hq10]; simp
        · try simp at h10
          have hq10 : okPair l l[i] i l[p].methods[j] = !(l[p].methods[j].abstr && !l[i].abstr && near l l[p].methods[j].name l[p].methods[j].desc (l.length + 1) i) := by simp only [okPair, decide_eq_false (show ¬ l[p].methods[j].name = init from h8)]; simp; grind
          refine W_skip (W_rseqK [0, 3, 5, 6, 7, 73] (js hX 3 (by simp [h2, hp, h5, h10]; rfl) (jm 4 69 [0, 3, 5, 6, 7, 73] (p:=fun b12_3 => by (try simp at b12_3); exact (jh hX (by simp [-atD_lt, -atL_lt, h2, hp, h5, h10]; rfl))) (q:=fun b12_3 => by (try simp at b12_3); exact (jh hX (by simp [-atD_lt, -atL_lt]; rfl))) (k:=jf))) ?_)
          refine jd (fun h12 => ?_) (fun h12 => ?_)
          · try simp at h12
            refine W_rseqK [0, 3, 5, 6, 7, 9] (js hX 3 (by simp [h2, hp, h5, h10]; rfl) (jc [] (c:=(by apply ct_spec_l05Find <;> first | assumption | omega | exact hsz (by assumption) | (rw [atL_lt (by assumption)]; exact hsz (by assumption)) | (have := hsz hp; simp only [sizeC] at this; omega) | (have := hsz hq; simp only [sizeC] at this; omega))) (a:=cb_spec_l05Find) (k:=jr))) ?_
            refine W_seq (W_block (W_loopU (α := Nat × Int) [0, 3, 5, 6, 7, 9] (fun a => [(9, .int .i64 a.2)]) (fun a => []) (fun a => Ends l a.1 a.2 ∧ (0 ≤ a.2 ∧ a.2 < l.length) ∧ near l l[p].methods[j].name l[p].methods[j].desc a.1 a.2 = near l l[p].methods[j].name l[p].methods[j].desc (l.length + 1) i ∧ ∃ u ∈ ups l a.1 a.2, 0 ≤ mthFrom l[p].methods[j].name l[p].methods[j].desc (atL l u).methods 0) (fun a => a.1) ((l.length + 1, (i : Int))) (fun a => by simp; rfl) (by simp [hu]) ?_ ?_))
            · exact ⟨hEn i hi, by omega, rfl, p, hS p (by rw [ups_nat]; simp), by rw [atL_lt hp]; exact mthFrom_has h5⟩
            rintro ⟨g, q⟩ ⟨gE, gq, gN, gU⟩
            simp only at gE gq gN gU
            obtain ⟨q, rfl⟩ : ∃ k : Nat, q = k := ⟨q.toNat, by omega⟩
            have hq : q < l.length := by omega
            obtain ⟨g, rfl, gE2⟩ := Ends_nat gE
            rw [near_nat, atL_lt hq] at gN
            rw [ups_nat] at gU
            refine W_seq (jD [0, 3, 5, 6, 7, 9, 87] (jS 8 (by simp [h2, hp, h5, h10, hq]; rfl) (jC (c:=by apply ct_spec_l05Method <;> first | assumption | omega | exact hsz (by assumption) | (rw [atL_lt (by assumption)]; exact hsz (by assumption)) | (have := hsz hp; simp only [sizeC] at this; omega) | (have := hsz hq; simp only [sizeC] at this; omega)) (a:=cb_spec_l05Method) (k:=(jQ (by simp; rfl))))) ?_)
            refine jd (fun h14 => ?_) (fun h14 => ?_)
            · try simp at h14
              rw [if_neg (by (try simp only [atL_lt hq] at h14); omega)] at gN
              have gU2 : ∃ u ∈ ups l g (nxt l q), 0 ≤ mthFrom l[p].methods[j].name l[p].methods[j].desc (atL l u).methods 0 := by
                obtain ⟨u, h1, h2⟩ := gU
                rcases List.mem_cons.1 h1 with rfl | h1
                · rw [atL_lt hq] at h2; (try simp only [atL_lt hq] at h14); omega
                · exact ⟨u, h1, h2⟩
              have gP : 0 ≤ nxt l q := by
                obtain ⟨u, h1, _⟩ := gU2
                rcases Int.lt_or_le (nxt l q) 0 with h | h
                · cases g <;> simp [ups, h] at h1
                · exact h
              refine W_skip (W_block (W_reg (js hX 6 (by simp [h2, hp, h5, h10, hq, h14]; rfl) (jc [] (c:=(by apply ct_spec_l05Find <;> first | assumption | omega | exact hsz (by assumption) | (rw [atL_lt (by assumption)]; exact hsz (by assumption)) | (have := hsz hp; simp only [sizeC] at this; omega) | (have := hsz hq; simp only [sizeC] at this; omega))) (a:=cb_spec_l05Find) (k:=jr))) ?_))
              refine round_end ((g, nxt l q)) [0, 3, 5, 6, 7, 9] (by simp [nxt_nat, hq]) ?_ ?_
              · exact ⟨gE2, ⟨gP, (@nxt_ge l q).2⟩, gN, gU2⟩
              · simp
            · try simp at h14
              have h14b := mthFrom_lt h14
              rw [if_pos h14, atL_lt h14b] at gN
              refine W_exit (jD [0, 3, 5, 6, 111] (jS 13 (by simp [h2, hp, h5, h10, hq, h14, hq, h14b, h14]; rfl) (jC (c:=by apply ct_spec_l05Method <;> first | assumption | omega | exact hsz (by assumption) | (rw [atL_lt (by assumption)]; exact hsz (by assumption)) | (have := hsz hp; simp only [sizeC] at this; omega) | (have := hsz hq; simp only [sizeC] at this; omega)) (a:=cb_spec_l05Method) (k:=(jQ (by simp [h2, hp, h5, h10, hq, h14, hq, h14b, h14]; rfl))))) ?_)
              refine jd (fun h16 => ?_) (fun h16 => ?_)
              · try simp at h16
                have hq16 : okPair l l[i] i l[p].methods[j] = false := by rw [hq10, ← gN, h16]; grind
                refine jq [4] ?_
                refine W_ret (je (by simp [h2, hp, h5, h10, hq, h14, hq, h14b, h14]; rfl) ?_)
                rw [← hI, ← hJ, hq16]; simp
              · try simp at h16
                have hq16 : okPair l l[i] i l[p].methods[j] = true := by rw [hq10, ← gN, h16]; simp
                have hJ2 := hJ
                rw [hq16, Bool.true_and] at hJ2
                refine W_skip (W_reg (jh hX (by simp; (try (simp (disch := omega) only [wrap_i64]; (try simp))); rfl)) ?_)
                refine round_endT (j + 1) [0, 3, 5, 6] 1 (by simp [hX]) (by simp) (by simp; try (simp (disch := omega) only [wrap_i64])) ?_ ?_
                · exact ⟨by omega, hJ2⟩
                · omega
          · try simp at h12
            have hJ2 := hJ
            rw [hq10, show (l[p].methods[j].abstr && !l[i].abstr) = false from by grind] at hJ2
            simp only [Bool.false_and, Bool.not_false, Bool.true_and] at hJ2
            refine W_skip (W_reg (jh hX (by simp; (try (simp (disch := omega) only [wrap_i64]; (try simp))); rfl)) ?_)
            refine round_endT (j + 1) [0, 3, 5, 6] 1 (by simp [hX]) (by simp) (by simp; try (simp (disch := omega) only [wrap_i64])) ?_ ?_
            · exact ⟨by omega, hJ2⟩
            · omega
    · try simp at h5
      rw [List.drop_eq_nil_of_le h5] at hJ
      simp only [List.all_nil] at hJ
      rw [← hJ, Bool.true_and] at hI
      refine W_exit (W_reg (js hX 6 (by simp [h2, hp, h5]; rfl) (jc [] (c:=(by apply ct_spec_l05Find <;> first | assumption | omega | exact hsz (by assumption) | (rw [atL_lt (by assumption)]; exact hsz (by assumption)) | (have := hsz hp; simp only [sizeC] at this; omega) | (have := hsz hq; simp only [sizeC] at this; omega))) (a:=cb_spec_l05Find) (k:=jr))) ?_)
      refine round_end ((f, nxt l p)) [0, 3, 5] (by simp [nxt_nat, hp]) ?_ ?_
      · exact ⟨hE2, @nxt_ge l p, fun u h => hS u (by rw [ups_nat]; exact List.mem_cons_of_mem _ h), hI⟩
      · simp
  · try simp at h2
    have hnil : ups l f up = [] := by cases f <;> simp [ups, h2]
    rw [hnil] at hI
    refine W_exit (jq [4] ?_)
    refine W_ret (je (by simp [h2]; rfl) ?_)
    simp [← hI]
end Go.Proofs
namespace Go.Proofs
open Go Go.Ev


theorem cb_spec_WorldCheck : Callable Tryz.prog 109 := ⟨_, Tryz.func109, by kernel_rfl, by kernel_rfl⟩
theorem ct_spec_WorldCheck {l : List Cls} (hl : sizeL l ≤ 1099511627776) : Ct Tryz.prog 109 [.lst false 6 (l.map eC)] [] (.agg [.int .i64 (worldCheck l).1, .int .i64 (worldCheck l).2]) [] := by
  have hll : l.length ≤ 1099511627776 := by unfold sizeL at hl; omega
  have hsz : ∀ {k : Nat} (h : k < l.length), sizeC l[k] ≤ 1099511627776 := fun h => Nat.le_trans (sizeL_at h) hl
  refine Ct_bodyS tok Tryz.func109 rfl 162 (by kernel_rfl) (by kernel_rfl) fun X hX => ?_
  refine jq [0, 2] ?_
  refine W_seq (jq [0, 2, 13] ?_)
  refine jd (fun h1 => ?_) (fun h1 => ?_)
  · try simp at h1
    refine W_rseqK [2] (jh hX (by simp [h1]; rfl)) ?_
    refine W_ret (je (by simp [h1]; rfl) ?_)
    simp [worldCheck, h1]
  · try simp at h1
    refine W_skip (W_seq (W_rseqK [0, 2, 17] (jh hX (by simp [h1]; rfl)) ?_))
    refine jd (fun h3 => ?_) (fun h3 => ?_)
    · try simp at h3
      refine W_rseqK [2] (jh hX (by simp [h1, h3]; rfl)) ?_
      refine W_ret (je (by simp [h1, h3]; rfl) ?_)
      have h1b : ¬ 400 < l.length := by omega
      simp [worldCheck, h1b, h3]
    · try simp at h3
      rw [show worldCheck l = checkAll l from by unfold worldCheck; rw [if_neg (by omega), if_neg (by omega)]]
      refine W_skip (W_seq (jq [0, 2, 3] ?_))
      refine W_block (W_loopU (α := Nat) [0, 2, 3] (fun i => [(3, .int .i64 i)]) (fun i => []) (fun i => i ≤ l.length ∧ firstBad (pass1 l) (l.length - i) i = firstBad (pass1 l) l.length 0) (fun i => l.length - i) (0) (fun i => by simp; rfl) (by simp) ?_ ?_)
      · simp
      rintro i ⟨hi1, hI1⟩
      refine W_seq (W_rseqK [0, 2, 3, 22] (jh hX (by simp [h1, h3]; rfl)) ?_)
      refine jd (fun h6 => ?_) (fun h6 => ?_)
      · try simp at h6
        rw [show l.length - i = (l.length - (i + 1)) + 1 from by omega] at hI1
        simp only [firstBad] at hI1
        refine W_skip (W_seq (W_block (W_seq (W_rseqK [0, 2, 3, 30] (js hX 4 (by simp [h1, h3, h6]; rfl) (jc [] (c:=(by apply ct_spec_ClassRight <;> first | assumption | omega | exact hsz (by assumption) | (rw [atL_lt (by assumption)]; exact hsz (by assumption)) | (have := hsz h22; simp only [sizeC] at this; omega) | (have := hsz h13; simp only [sizeC] at this; omega) | (have := hsz h6; simp only [sizeC] at this; (try simp only [atL_lt h6]); omega)| (have := hsz h26; simp only [sizeC] at this; (try simp only [atL_lt h26]); omega) | (have := hsz h30q; simp only [sizeC] at this; omega))) (a:=cb_spec_ClassRight) (k:=jr))) ?_))))
        refine jd (fun h8 => ?_) (fun h8 => ?_)
        · try simp at h8
          refine W_rseqK [2] (jh hX (by simp [h1, h3, h6]; rfl)) ?_
          refine W_ret (je (by simp [h1, h3, h6]; rfl) ?_)
          have hp : pass1 l i = 1 := by simp [pass1, atL_lt h6, h8]
          rw [if_neg (by rw [hp]; simp), hp] at hI1
          simp [checkAll, ← hI1]
        · try simp at h8
          refine W_skip (W_rseqK [0, 2, 3, 50] (js hX 5 (by simp [h1, h3, h6]; rfl) (jc [] (c:=(by apply ct_spec_l05Built <;> first | assumption | omega | exact hsz (by assumption) | (rw [atL_lt (by assumption)]; exact hsz (by assumption)) | (have := hsz h22; simp only [sizeC] at this; omega) | (have := hsz h13; simp only [sizeC] at this; omega) | (have := hsz h6; simp only [sizeC] at this; (try simp only [atL_lt h6]); omega)| (have := hsz h26; simp only [sizeC] at this; (try simp only [atL_lt h26]); omega) | (have := hsz h30q; simp only [sizeC] at this; omega))) (a:=cb_spec_l05Built) (k:=(jt 2 (k:=(jm 10 40 [0, 2, 3, 50] (p:=fun b10_8 => by (try simp at b10_8); exact (jh hX (by simp [-atD_lt, -atL_lt]; rfl))) (q:=fun b10_8 => by (try simp at b10_8); exact (js hX 6 (by simp [-atD_lt, -atL_lt, h1, h3, h6, b10_8]; rfl) (Runs.call [] rfl (by simp) rfl (by simp [-atD_lt, -atL_lt]; rfl) (by simp; rfl) (by apply ct_spec_l05Find <;> first | assumption | omega | exact hsz (by assumption) | (rw [atL_lt (by assumption)]; exact hsz (by assumption)) | (have := hsz h22; simp only [sizeC] at this; omega) | (have := hsz h13; simp only [sizeC] at this; omega) | (have := hsz h6; simp only [sizeC] at this; (try simp only [atL_lt h6]); omega)| (have := hsz h26; simp only [sizeC] at this; (try simp only [atL_lt h26]); omega) | (have := hsz h30q; simp only [sizeC] at this; omega)) cb_spec_l05Find (by simp) (by simp) (by simp [-atD_lt, -atL_lt]; rfl) (jh hX (by simp [-atD_lt, -atL_lt]; rfl))))) (k:=jf))))))) ?_)
          refine jd (fun h10 => ?_) (fun h10 => ?_)
          · try simp at h10
            refine W_rseqK [2] (jh hX (by simp [h1, h3, h6, h10]; rfl)) ?_
            refine W_ret (je (by simp [h1, h3, h6, h10]; rfl) ?_)
            have hp : pass1 l i = 7 := by simp only [pass1, atL_lt h6, h8, if_true]; rw [if_pos (by simpa [atL_lt h6] using h10)]
            rw [if_neg (by rw [hp]; simp), hp] at hI1
            simp [checkAll, ← hI1]
          · try simp at h10
            have hp : pass1 l i = 0 := by simp only [pass1, atL_lt h6, h8, if_true]; rw [if_neg (by simp [atL_lt h6] at h10 ⊢; omega)]
            rw [if_pos hp] at hI1
            have hJ := hI1
            refine W_skip (W_reg (jh hX (by simp; (try (simp (disch := omega) only [wrap_i64]; (try simp))); rfl)) ?_)
            refine round_end (i + 1) [0, 2, 3] (by simp [h1, h3, h6, h10]; try (simp (disch := omega) only [wrap_i64])) ?_ ?_
            · exact ⟨by omega, hJ⟩
            · omega
      · try simp at h6
        rw [show l.length - i = 0 from by omega] at hI1
        simp only [firstBad] at hI1
        refine W_exit (W_seq (jq [0, 2, 4] ?_))
        refine W_block (W_loopU (α := Nat) [0, 2, 4] (fun i => [(4, .int .i64 i)]) (fun i => []) (fun i => i ≤ l.length ∧ firstBad (pass2 l) (l.length - i) i = firstBad (pass2 l) l.length 0) (fun i => l.length - i) (0) (fun i => by simp; rfl) (by simp) ?_ ?_)
        · simp
        rintro i ⟨hi2, hI2⟩
        refine W_seq (W_rseqK [0, 2, 4, 56] (jh hX (by simp [h1, h3, h6]; rfl)) ?_)
        refine jd (fun h13 => ?_) (fun h13 => ?_)
        · try simp at h13
          rw [show l.length - i = (l.length - (i + 1)) + 1 from by omega] at hI2
          simp only [firstBad] at hI2
          refine W_skip (W_seq (W_block (W_rseqK [0, 2, 4, 5] (js hX 6 (by simp [h1, h3, h6, h13]; rfl) (jc [] (c:=(by apply ct_spec_l05Find <;> first | assumption | omega | exact hsz (by assumption) | (rw [atL_lt (by assumption)]; exact hsz (by assumption)) | (have := hsz h22; simp only [sizeC] at this; omega) | (have := hsz h13; simp only [sizeC] at this; omega) | (have := hsz h6; simp only [sizeC] at this; (try simp only [atL_lt h6]); omega)| (have := hsz h26; simp only [sizeC] at this; (try simp only [atL_lt h26]); omega) | (have := hsz h30q; simp only [sizeC] at this; omega))) (a:=cb_spec_l05Find) (k:=jr))) ?_)))
          refine W_seq (W_rseqK [0, 2, 4, 5, 73] (js hX 6 (by simp [h1, h3, h6, h13]; rfl) (jc [] (c:=(by apply ct_spec_l05Known <;> first | assumption | omega | exact hsz (by assumption) | (rw [atL_lt (by assumption)]; exact hsz (by assumption)) | (have := hsz h22; simp only [sizeC] at this; omega) | (have := hsz h13; simp only [sizeC] at this; omega) | (have := hsz h6; simp only [sizeC] at this; (try simp only [atL_lt h6]); omega)| (have := hsz h26; simp only [sizeC] at this; (try simp only [atL_lt h26]); omega) | (have := hsz h30q; simp only [sizeC] at this; omega))) (a:=cb_spec_l05Known) (k:=jr))) ?_)
          refine jd (fun h16 => ?_) (fun h16 => ?_)
          · try simp at h16
            refine W_rseqK [2] (jh hX (by simp [h1, h3, h6, h13]; rfl)) ?_
            refine W_ret (je (by simp [h1, h3, h6, h13]; rfl) ?_)
            have hp : pass2 l i = 8 := by simp [pass2, atL_lt h13, h16]
            rw [if_neg (by rw [hp]; simp), hp] at hI2
            simp [checkAll, ← hI1, ← hI2]
          · try simp at h16
            refine W_skip (W_rseqK [0, 2, 4, 93] (js hX 5 (by simp [h1, h3, h6, h13]; rfl) (jc [] (c:=(by apply ct_spec_l05Built <;> first | assumption | omega | exact hsz (by assumption) | (rw [atL_lt (by assumption)]; exact hsz (by assumption)) | (have := hsz h22; simp only [sizeC] at this; omega) | (have := hsz h13; simp only [sizeC] at this; omega) | (have := hsz h6; simp only [sizeC] at this; (try simp only [atL_lt h6]); omega)| (have := hsz h26; simp only [sizeC] at this; (try simp only [atL_lt h26]); omega) | (have := hsz h30q; simp only [sizeC] at this; omega))) (a:=cb_spec_l05Built) (k:=(jt 2 (k:=(jm 10 83 [0, 2, 4, 93] (p:=fun b18_8 => by (try simp at b18_8); exact (jh hX (by simp [-atD_lt, -atL_lt]; rfl))) (q:=fun b18_8 => by (try simp at b18_8); exact (js hX 3 (by simp [-atD_lt, -atL_lt]; rfl) (jm 6 86 [0, 2, 4, 83, 92] (p:=fun b18_11 => by (try simp at b18_11); (have hfl := findFrom_lt (l := l) b18_11); exact (jh hX (by simp [-atD_lt, -atL_lt, h1, h3, h6, h13, b18_8, b18_11, hfl, b18_11]; rfl))) (q:=fun b18_11 => by (try simp at b18_11); exact (jh hX (by simp [-atD_lt, -atL_lt]; rfl))) (k:=(jh hX (by simp [-atD_lt, -atL_lt]; rfl)))))) (k:=jf))))))) ?_)
            refine jd (fun h18 => ?_) (fun h18 => ?_)
            · try simp at h18
              refine W_rseqK [2] (jh hX (by simp [h1, h3, h6, h13, h18]; rfl)) ?_
              refine W_ret (je (by simp [h1, h3, h6, h13, h18]; rfl) ?_)
              have hp : pass2 l i = 14 := by simp only [pass2, atL_lt h13, h16, if_true]; rw [if_pos (by simpa using h18)]
              rw [if_neg (by rw [hp]; simp), hp] at hI2
              simp [checkAll, ← hI1, ← hI2]
            · try simp at h18
              have hp : pass2 l i = 0 := by simp only [pass2, atL_lt h13, h16, if_true]; rw [if_neg (by simp at h18 ⊢; exact h18)]
              rw [if_pos hp] at hI2
              have hJ := hI2
              refine W_skip (W_reg (jh hX (by simp; (try (simp (disch := omega) only [wrap_i64]; (try simp))); rfl)) ?_)
              refine round_end (i + 1) [0, 2, 4] (by simp [h1, h3, h6, h13, h18]; try (simp (disch := omega) only [wrap_i64])) ?_ ?_
              · exact ⟨by omega, hJ⟩
              · omega
        · try simp at h13
          rw [show l.length - i = 0 from by omega] at hI2
          simp only [firstBad] at hI2
          refine W_exit (W_seq (jq [0, 2, 6] ?_))
          refine W_block (W_loopU (α := Nat) [0, 2, 6] (fun i => [(6, .int .i64 i)]) (fun i => []) (fun i => i ≤ l.length ∧ firstBad (pass3 l) (l.length - i) i = firstBad (pass3 l) l.length 0) (fun i => l.length - i) (0) (fun i => by simp; rfl) (by simp) ?_ ?_)
          · simp
          rintro i ⟨hi3, hI3⟩
          refine W_seq (W_rseqK [0, 2, 6, 99] (jh hX (by simp [h1, h3, h6, h13]; rfl)) ?_)
          refine jd (fun h21 => ?_) (fun h21 => ?_)
          · try simp at h21
            rw [show l.length - i = (l.length - (i + 1)) + 1 from by omega] at hI3
            simp only [firstBad] at hI3
            refine W_skip (W_seq (W_block (W_rseqK [0, 2, 6, 108] (js hX 5 (by simp [h1, h3, h6, h13, h21]; rfl) (jc [] (c:=(by apply ct_spec_l05Types <;> first | assumption | omega | exact hsz (by assumption) | (rw [atL_lt (by assumption)]; exact hsz (by assumption)) | (have := hsz h22; simp only [sizeC] at this; omega) | (have := hsz h13; simp only [sizeC] at this; omega) | (have := hsz h6; simp only [sizeC] at this; (try simp only [atL_lt h6]); omega)| (have := hsz h26; simp only [sizeC] at this; (try simp only [atL_lt h26]); omega) | (have := hsz h30q; simp only [sizeC] at this; omega))) (a:=cb_spec_l05Types) (k:=jr))) ?_)))
            refine jd (fun h23 => ?_) (fun h23 => ?_)
            · try simp at h23
              refine W_rseqK [2] (jh hX (by simp [h1, h3, h6, h13, h21]; rfl)) ?_
              refine W_ret (je (by simp [h1, h3, h6, h13, h21]; rfl) ?_)
              have hp : pass3 l i = 6 := by simp [pass3, atL_lt h21, h23]
              rw [if_neg (by rw [hp]; simp), hp] at hI3
              simp [checkAll, ← hI1, ← hI2, ← hI3]
            · try simp at h23
              have hp : pass3 l i = 0 := by simp [pass3, atL_lt h21, h23]
              rw [if_pos hp] at hI3
              have hJ := hI3
              refine W_skip (W_reg (jh hX (by simp; (try (simp (disch := omega) only [wrap_i64]; (try simp))); rfl)) ?_)
              refine round_end (i + 1) [0, 2, 6] (by simp [h1, h3, h6, h13, h21]; try (simp (disch := omega) only [wrap_i64])) ?_ ?_
              · exact ⟨by omega, hJ⟩
              · omega
          · try simp at h21
            rw [show l.length - i = 0 from by omega] at hI3
            simp only [firstBad] at hI3
            refine W_exit (W_seq (jq [0, 2, 7] ?_))
            refine W_block (W_loopU (α := Nat) [0, 2, 7] (fun i => [(7, .int .i64 i)]) (fun i => []) (fun i => i ≤ l.length ∧ firstBad (pass4 l) (l.length - i) i = firstBad (pass4 l) l.length 0) (fun i => l.length - i) (0) (fun i => by simp; rfl) (by simp) ?_ ?_)
            · simp
            rintro i ⟨hi4, hI4⟩
            refine W_seq (W_rseqK [0, 2, 7, 114] (jh hX (by simp [h1, h3, h6, h13, h21]; rfl)) ?_)
            refine jd (fun h26 => ?_) (fun h26 => ?_)
            · try simp at h26
              rw [show l.length - i = (l.length - (i + 1)) + 1 from by omega] at hI4
              simp only [firstBad] at hI4
              refine W_skip (W_seq (W_block (W_rseqK [0, 2, 7, 8] (js hX 6 (by simp [h1, h3, h6, h13, h21, h26]; rfl) (jc [] (c:=(by apply ct_spec_l05Find <;> first | assumption | omega | exact hsz (by assumption) | (rw [atL_lt (by assumption)]; exact hsz (by assumption)) | (have := hsz h22; simp only [sizeC] at this; omega) | (have := hsz h13; simp only [sizeC] at this; omega) | (have := hsz h6; simp only [sizeC] at this; (try simp only [atL_lt h6]); omega)| (have := hsz h26; simp only [sizeC] at this; (try simp only [atL_lt h26]); omega) | (have := hsz h30q; simp only [sizeC] at this; omega))) (a:=cb_spec_l05Find) (k:=jr))) ?_)))
              refine jq [0, 2, 7, 8, 9] ?_
              refine W_block (W_loopU (α := Nat × Int) [0, 2, 7, 8, 9] (fun a => [(8, .int .i64 a.2), (9, .int .i64 a.1)]) (fun a => []) (fun a => a.1 ≤ l.length + 1 ∧ (-1 ≤ a.2 ∧ a.2 < l.length) ∧ cycF l i (l.length + 1 - a.1) a.2 = cyc l i) (fun a => l.length + 1 - a.1) ((0, nxt l i)) (fun a => by simp; rfl) (by simp [nxt_nat, atL_lt h26]) ?_ ?_)
              · exact ⟨by simp, @nxt_ge l i, rfl⟩
              rintro ⟨s, up⟩ ⟨hs, hup, hC⟩
              simp only at hs hup hC
              refine W_seq (W_rseqK [0, 2, 7, 8, 9, 131] (js hX 5 (by simp [h1, h3, h6, h13, h21, h26]; rfl) (jm 3 128 [0, 2, 7, 8, 9, 131] (p:=fun b30_5 => by (try simp at b30_5); exact (jh hX (by simp [-atD_lt, -atL_lt]; rfl))) (q:=fun b30_5 => by (try simp at b30_5); exact (jh hX (by simp [-atD_lt, -atL_lt]; rfl))) (k:=jf))) ?_)
              refine jd (fun h30 => ?_) (fun h30 => ?_)
              · try simp at h30
                obtain ⟨p, rfl⟩ : ∃ k : Nat, up = k := ⟨up.toNat, by omega⟩
                have h30q : p < l.length := by omega
                rw [show l.length + 1 - s = (l.length + 1 - (s + 1)) + 1 from by omega] at hC
                simp only [cycF] at hC
                rw [if_neg (by omega)] at hC
                refine W_skip (W_seq (W_block (W_seq (jq [0, 2, 7, 8, 9, 136] ?_))))
                refine jd (fun h32 => ?_) (fun h32 => ?_)
                · try simp at h32
                  refine W_rseqK [2] (jh hX (by simp [h1, h3, h6, h13, h21, h26, h30, h30q]; rfl)) ?_
                  refine W_ret (je (by simp [h1, h3, h6, h13, h21, h26, h30, h30q]; rfl) ?_)
                  rw [if_pos (by simpa using h32)] at hC
                  have hp : pass4 l i = 9 := by simp [pass4, ← hC]
                  rw [if_neg (by rw [hp]; simp), hp] at hI4
                  simp [checkAll, ← hI1, ← hI2, ← hI3, ← hI4]
                · try simp at h32
                  rw [if_neg (by simpa using h32)] at hC
                  refine W_skip (W_reg (js hX 6 (by simp [h1, h3, h6, h13, h21, h26, h30, h30q]; rfl) (jc [] (c:=(by apply ct_spec_l05Find <;> first | assumption | omega | exact hsz (by assumption) | (rw [atL_lt (by assumption)]; exact hsz (by assumption)) | (have := hsz h22; simp only [sizeC] at this; omega) | (have := hsz h13; simp only [sizeC] at this; omega) | (have := hsz h6; simp only [sizeC] at this; (try simp only [atL_lt h6]); omega)| (have := hsz h26; simp only [sizeC] at this; (try simp only [atL_lt h26]); omega) | (have := hsz h30q; simp only [sizeC] at this; omega))) (a:=cb_spec_l05Find) (k:=jr))) ?_)
                  refine W_reg (jh hX (by simp; (try (simp (disch := omega) only [wrap_i64]; (try simp))); rfl)) ?_
                  refine round_end ((s + 1, nxt l p)) [0, 2, 7, 8, 9] (by simp [nxt_nat, h30q]; (try (simp (disch := omega) only [wrap_i64]))) ?_ ?_
                  · exact ⟨by omega, @nxt_ge l p, hC⟩
                  · simp; omega
              · try simp at h30
                have hcy : cyc l i = false := by
                  rw [← hC]
                  rcases Nat.lt_or_ge s (l.length + 1) with h | h
                  · rw [show l.length + 1 - s = (l.length - s) + 1 from by omega, cycF, if_pos (by omega)]
                  · rw [show l.length + 1 - s = 0 from by omega, cycF]
                have hp : pass4 l i = 0 := by simp [pass4, hcy]
                rw [if_pos hp] at hI4
                have hJ := hI4
                refine W_exit (W_reg (jh hX (by simp; (try (simp (disch := omega) only [wrap_i64]; (try simp))); rfl)) ?_)
                refine round_end (i + 1) [0, 2, 7] (by simp [h1, h3, h6, h13, h21, h26, h30]; try (simp (disch := omega) only [wrap_i64])) ?_ ?_
                · exact ⟨by omega, hJ⟩
                · omega
            · try simp at h26
              rw [show l.length - i = 0 from by omega] at hI4
              simp only [firstBad] at hI4
              have hu : ∀ {j : Nat} (h : j < l.length), findFrom l[j].name l 0 = j := fun h => uniq_of_pass1 h (firstBad_none hI1.symm _ (Nat.zero_le _) (by omega))
              have hEn : ∀ j : Nat, j < l.length → Ends l (l.length + 1) j := fun j h => ends_of_noCyc (fun k hk => by have := firstBad_none hI4.symm k (Nat.zero_le _) (by omega); simp only [pass4] at this; split at this <;> simp_all) h
              refine W_exit (W_seq (jq [0, 2, 10] ?_))
              refine W_block (W_loopU (α := Nat) [0, 2, 10] (fun i => [(10, .int .i64 i)]) (fun i => []) (fun i => i ≤ l.length ∧ firstBad (pass5 l) (l.length - i) i = firstBad (pass5 l) l.length 0) (fun i => l.length - i) (0) (fun i => by simp; rfl) (by simp) ?_ ?_)
              · simp
              rintro i ⟨hi5, hI5⟩
              refine W_seq (W_rseqK [0, 2, 10, 149] (jh hX (by simp [h1, h3, h6, h13, h21, h26]; rfl)) ?_)
              refine jd (fun h36 => ?_) (fun h36 => ?_)
              · try simp at h36
                rw [show l.length - i = (l.length - (i + 1)) + 1 from by omega] at hI5
                simp only [firstBad] at hI5
                have hu36 := hu h36
                refine W_skip (W_seq (W_block (W_rseqK [0, 2, 10, 158] (js hX 5 (by simp [h1, h3, h6, h13, h21, h26, h36]; rfl) (jc [] (c:=(by apply ct_spec_l05Access <;> first | assumption | omega | exact hsz (by assumption) | (rw [atL_lt (by assumption)]; exact hsz (by assumption)) | (have := hsz h22; simp only [sizeC] at this; omega) | (have := hsz h13; simp only [sizeC] at this; omega) | (have := hsz h6; simp only [sizeC] at this; (try simp only [atL_lt h6]); omega)| (have := hsz h26; simp only [sizeC] at this; (try simp only [atL_lt h26]); omega) | (have := hsz h30q; simp only [sizeC] at this; omega))) (a:=cb_spec_l05Access) (k:=jr))) ?_)))
                refine jd (fun h38 => ?_) (fun h38 => ?_)
                · try simp at h38
                  refine W_rseqK [2] (jh hX (by simp [h1, h3, h6, h13, h21, h26, h36]; rfl)) ?_
                  refine W_ret (je (by simp [h1, h3, h6, h13, h21, h26, h36]; rfl) ?_)
                  have hp : pass5 l i = 14 := by simp [pass5, h38]
                  rw [if_neg (by rw [hp]; simp), hp] at hI5
                  simp [checkAll, ← hI1, ← hI2, ← hI3, ← hI4, ← hI5]
                · try simp at h38
                  have hp : pass5 l i = 0 := by simp [pass5, h38]
                  rw [if_pos hp] at hI5
                  have hJ := hI5
                  refine W_skip (W_reg (jh hX (by simp; (try (simp (disch := omega) only [wrap_i64]; (try simp))); rfl)) ?_)
                  refine round_end (i + 1) [0, 2, 10] (by simp [h1, h3, h6, h13, h21, h26, h36]; try (simp (disch := omega) only [wrap_i64])) ?_ ?_
                  · exact ⟨by omega, hJ⟩
                  · omega
              · try simp at h36
                rw [show l.length - i = 0 from by omega] at hI5
                simp only [firstBad] at hI5
                refine W_exit (W_rseqK [2] (jh hX (by simp [h1, h3, h6, h13, h21, h26, h36]; rfl)) ?_)
                refine W_ret (je (by simp [h1, h3, h6, h13, h21, h26, h36]; rfl) ?_)
                simp [checkAll, ← hI1, ← hI2, ← hI3, ← hI4, ← hI5]
end Go.Proofs
namespace Go.Proofs
open Go Go.Ev


theorem cb_spec_l05Right : Callable Tryz.prog 66 := ⟨_, Tryz.func66, by kernel_rfl, by kernel_rfl⟩
theorem ct_spec_l05Right {l : List Cls} (hl : sizeL l ≤ 1099511627776) : Ct Tryz.prog 66 [.lst false 6 (l.map eC)] [] (.bool (rightW l)) [] := by
  refine Ct_bodyS tok Tryz.func66 rfl 7 (by kernel_rfl) (by kernel_rfl) fun X hX => ?_
  refine jq [0] ?_
  refine W_rseqK [2] (jt 1 (k:=(jc [] (c:=(by apply ct_spec_WorldCheck <;> first | assumption | omega | (simp at *; omega) | simp_all)) (a:=cb_spec_WorldCheck) (k:=jr)))) ?_
  refine W_ret (je0 ?_)
  simp [rightW]
end Go.Proofs
namespace Go.Proofs
open Go Go.Ev
section
variable {X : Ctx} {ops : Array Oper} {ls : List Oper} {st s s' s1 s2 s3 : St} {n0 : Nat} {L : List Nat} {Q : Exit → St → Prop}
theorem jI {id : Nat} {y : Code} (n : Nat) (l : List It) (ks L : List Nat) (hX : X.n0 = n0) (hH : StepsI Tryz.prog TT n0 ls.toArray L l st s2) (h2 : Runs Tryz.prog X ls.toArray (ls.drop n) s2 s3) (hk : W Tryz.prog X y (s3.keep ks) Q)
    (hB : itsB .any ls.toArray n l = true := by kernel_rfl) : W Tryz.prog X (.seq (.region id ls.toArray true) y) st Q := W_iseqK n l ks L hmo hB tok hX hH h2 hk
theorem jU (A : List Nat) (r : List It) (h : runTk TT n0 ops L A s = some s1) (k : StepsI Tryz.prog TT n0 ops L r s1 s2) : StepsI Tryz.prog TT n0 ops L (A.map It.pur ++ r) s s2 := .pur h rfl k
theorem jO (i : Nat) {o : Oper} {r : List It} (ho : ops[i]? = some o := by rfl) (hL : ∀ id ∈ L, id < s.ob.length := by simp) (p : ∀ X : Ctx, X.n0 = s.ob.length → Runs Tryz.prog X ops [o] ⟨s.tm, hid L s.ob⟩ s')
    (he : (⟨s'.tm, unh s.ob L s'.ob⟩ : St) = s1 := by (try simp); (try rfl)) (k : StepsI Tryz.prog TT n0 ops L r s1 s2) : StepsI Tryz.prog TT n0 ops L (.one i :: r) s s2 := .one ho hL p he k
end
end Go.Proofs
namespace Go.Proofs
open Go Go.Ev


theorem cb_spec_l10Val : Callable Tryz.prog 62 := ⟨_, Tryz.func62, by kernel_rfl, by kernel_rfl⟩
theorem ct_spec_l10Val {v : Vl} {m : Nat} : Ct Tryz.prog 62 [eVl v, .int .i64 m] [] (.bool (valR m v)) [] := by
  refine Ct_bodyS tok Tryz.func62 rfl 28 (by kernel_rfl) (by kernel_rfl) fun X hX => ?_
  refine jq [1, 2] ?_
  refine W_seq (jq [1, 2, 6] ?_)
  refine W_block (jq [1, 2, 6, 7] ?_)
  refine jd (fun h2 => ?_) (fun h2 => ?_)
  · try simp at h2
    refine W_rseqK [4] (jt 2 (k:=(jc [] (c:=(by apply ct_spec_l01Int <;> first | assumption | omega | (simp at *; omega) | simp_all)) (a:=cb_spec_l01Int) (k:=jr)))) ?_
    refine W_ret (je0 ?_)
    unfold valR isInt; simp_all
  · try simp at h2
    refine jq [1, 2, 6, 12] ?_
    refine jd (fun h4 => ?_) (fun h4 => ?_)
    · try simp at h4
      refine jq [4] ?_
      refine W_ret (je0 ?_)
      unfold valR isInt; simp_all
    · try simp at h4
      refine jq [1, 2, 17] ?_
      refine jd (fun h6 => ?_) (fun h6 => ?_)
      · try simp at h6
        refine W_rseqK [4] (jt 4 (k:=(jm 5 22 [27] (p:=fun b7_4 => by (try simp at b7_4); exact (jh hX (by simp [-atD_lt, -atL_lt, b7_4]; rfl))) (q:=fun b7_4 => by (try simp at b7_4); exact (jh hX (by simp [-atD_lt, -atL_lt]; rfl))) (k:=jr)))) ?_
        refine W_ret (je0 ?_)
        unfold valR isInt; simp_all
      · try simp at h6
        refine W_skip (jq [4] ?_)
        refine W_ret (je0 ?_)
        unfold valR isInt; simp_all
end Go.Proofs
namespace Go.Proofs
open Go Go.Ev


theorem cb_spec_l05Fields : Callable Tryz.prog 93 := ⟨_, Tryz.func93, by kernel_rfl, by kernel_rfl⟩
theorem ct_spec_l05Fields_r {l : List Cls} (hs : sizeL l ≤ 1048576) (hw : rightW l = true) {m : Nat} (ih : ∀ n : Str, rkU l (findFrom n l 0) < m → Ct Tryz.prog 93 [.lst false 6 (l.map eC), .str n] [] (.lst true 3 ((fldsI l n).map eF)) []) {n : Str} (hm : rkU l (findFrom n l 0) ≤ m) : Ct Tryz.prog 93 [.lst false 6 (l.map eC), .str n] [] (.lst true 3 ((fldsI l n).map eF)) [] := by
  have hll : l.length ≤ 1099511627776 := by unfold sizeL at hs; omega
  refine Ct_bodyS tok Tryz.func93 rfl 53 (by kernel_rfl) (by kernel_rfl) fun X hX => ?_
  refine jq [0, 1] ?_
  refine W_rseqK [0, 5] (jt 2 (k:=(jc [] (c:=(by apply ct_spec_l05Find <;> first | assumption | omega)) (a:=cb_spec_l05Find) (k:=jr)))) ?_
  refine W_seq (jq [0, 5, 12] ?_)
  refine jd (fun h2 => ?_) (fun h2 => ?_)
  · try simp at h2
    refine W_rseqK [4] (jh hX (by simp [h2]; rfl)) ?_
    refine W_ret (je (by simp [h2]; rfl) ?_)
    rw [flds_no hw h2]; rfl
  · try simp at h2
    obtain ⟨q, hqe⟩ : ∃ q : Nat, findFrom n l 0 = q := ⟨_, (Int.toNat_of_nonneg (by omega)).symm⟩
    obtain ⟨hq, hfe⟩ := flds_go hw hqe
    obtain ⟨_, hrk0⟩ := flds_rank hw hqe
    have hrk : rkU l (findFrom l[q].super l 0) < m := by omega
    have hsq : sizeC l[q] ≤ 1048576 := Nat.le_trans (sizeL_at hq) hs
    have hfq : l[q].fields.length ≤ 1048576 := by simp only [sizeC] at hsq; omega
    have hfl := flds_len (n := l[q].super) hw
    rw [hqe]
    refine W_skip (W_rseqK [0, 5, 6] (js hX 6 (by simp [h2, hq]; rfl) (jc [] (c:=(ih _ hrk)) (ha:=(by simp)) (hi:=(by simp)) (a:=cb_spec_l05Fields) (k:=(jh hX (by simp [h2, hq]; rfl))))) ?_)
    refine W_seq (W_rseqK [0, 5, 6, 7] (jh hX (by simp [h2, hq]; rfl)) ?_)
    refine W_block (W_loopU (α := List Fld × Nat) [0, 5, 6, 7] (fun p => [(6, .arr 0 0 p.1.length), (7, .int .i64 p.2)]) (fun p => [(0, some (3, p.1.map eF))]) (fun p => p.2 ≤ l[q].fields.length ∧ p.1 = fldsI l l[q].super ++ (l[q].fields.take p.2).filter (fun f => !f.static)) (fun p => l[q].fields.length - p.2) ((fldsI l l[q].super, 0)) (fun p => by simp; rfl) (by simp) ?_ ?_)
    · simp
    rintro ⟨o, i⟩ ⟨hi, hI⟩
    simp only at hi hI
    have ho : o.length ≤ 1100000000 := by
      rw [hI, List.length_append]
      have h1 := List.length_filter_le (fun f : Fld => !f.static) (l[q].fields.take i)
      rw [List.length_take] at h1
      omega
    have w1 : (o.length + 1) * 40 ≤ 140737488355328 := by omega
    have w2 : o.length ≤ 1099511627775 := by omega
    refine W_seq (W_rseqK [0, 5, 6, 7, 28] (jh hX (by simp [h2, hq, w1, w2]; rfl)) ?_)
    refine jd (fun h6 => ?_) (fun h6 => ?_)
    · try simp at h6
      refine W_skip (W_seq (W_block (W_rseqK [0, 5, 6, 7, 40] (jh hX (by simp [h2, hq, w1, w2, h6]; rfl)) ?_)))
      refine jd (fun h8 => ?_) (fun h8 => ?_)
      · try simp at h8
        refine W_reg (jh hX (by simp [h2, hq, w1, w2, h6]; rfl)) ?_
        refine W_reg (jh hX (by simp [h2, hq, w1, w2, h6]; (try (simp (disch := omega) only [wrap_i64]; (try simp [h2, hq, w1, w2, h6]))); rfl)) ?_
        refine round_endT (if l[q].fields[i].static = true then (o, i + 1) else (o ++ [l[q].fields[i]], i + 1)) [0, 5, 6, 7] 1 (by simp [hX]) (by simp) (by simp [h6, h8]; try (simp (disch := omega) only [wrap_i64])) ?_ ?_
        · (simp only [h8, Bool.false_eq_true, if_false, if_true]; refine ⟨by omega, ?_⟩; rw [filt_snoc h6, h8, hI]; simp)
        · (simp only [h8, Bool.false_eq_true, if_false, if_true]; omega)
      · try simp at h8
        refine W_skip (W_reg (jh hX (by simp [h2, hq, w1, w2, h6]; (try (simp (disch := omega) only [wrap_i64]; (try simp [h2, hq, w1, w2, h6]))); rfl)) ?_)
        refine round_endT (if l[q].fields[i].static = true then (o, i + 1) else (o ++ [l[q].fields[i]], i + 1)) [0, 5, 6, 7] 1 (by simp [hX]) (by simp) (by simp [h6, h8]; try (simp (disch := omega) only [wrap_i64])) ?_ ?_
        · (simp only [h8, Bool.false_eq_true, if_false, if_true]; refine ⟨by omega, ?_⟩; rw [filt_snoc h6, h8, hI]; simp)
        · (simp only [h8, Bool.false_eq_true, if_false, if_true]; omega)
    · try simp at h6
      have hil : i = l[q].fields.length := by omega
      subst hil
      rw [List.take_of_length_le (Nat.le_refl _)] at hI
      refine W_exit (W_rseqK [4] (jh hX (by simp [h2, hq, w1, w2, h6]; rfl)) ?_)
      refine W_ret (je (by simp [h2, hq, w1, w2, h6]; rfl) ?_)
      rw [hfe, hI]; rfl
theorem ct_spec_l05Fields {l : List Cls} (hs : sizeL l ≤ 1048576) (hw : rightW l = true) {n : Str} : Ct Tryz.prog 93 [.lst false 6 (l.map eC), .str n] [] (.lst true 3 ((fldsI l n).map eF)) [] := by
  have key : ∀ (m : Nat) (n : Str), rkU l (findFrom n l 0) ≤ m → Ct Tryz.prog 93 [.lst false 6 (l.map eC), .str n] [] (.lst true 3 ((fldsI l n).map eF)) [] := by
    intro m
    induction m with
    | zero => intro n hm; exact ct_spec_l05Fields_r hs hw (m := 0) (fun _ h => absurd h (by omega)) hm
    | succ m ih => intro n hm; exact ct_spec_l05Fields_r hs hw (m := m + 1) (fun n' h => ih n' (by omega)) hm
  exact key _ n (Nat.le_refl _)

end Go.Proofs
