/- Part 6 of what the proofs lean on: what the functions of the program and of the reference compute. Conditions: none. -/
import Derived.Test.YtkbchflhpnefiaaGreatK04
set_option linter.all false
set_option linter.unusedVariables false
set_option linter.unusedSimpArgs false
namespace Go.Proofs
open Go Go.Ev


theorem cb_laws_szMethodS : Callable Tryz.prog 72 := ⟨_, Tryz.func72, by kernel_rfl, by kernel_rfl⟩
set_option maxHeartbeats 2000000 in
set_option maxRecDepth 100000 in
theorem ct_laws_szMethodS {l : List Mth} {z : Int} (h : l.length < 4611686018427387904) (hb : ∀ y ∈ l, bigM y) (h0 : 0 ≤ z) (h1 : z ≤ 1099511627776) : Ct Tryz.prog 72 [.lst false 9 (l.map eM), .int .i64 z] [] (.int .i64 (sub z (l.length + (l.map sizeM).sum))) [] := by
  refine Ct_bodyS tok Tryz.func72 rfl 27 (by kernel_rfl) (by kernel_rfl) fun X hX => ?_
  refine W_rseqK [0, 1] (Runs.run tok hX (by simp; rfl)) ?_
  refine W_rseqK [0, 1] (Runs.run tok hX (by simp; (try (simp (disch := omega) only [wrap_i64]; (try simp))); rfl)) ?_
  refine W_seq ?_
  refine W_rseqK [0, 1, 11] (Runs.run tok hX (by simp; rfl)) ?_
  refine W_condS (by simp; rfl) (by rfl) (fun h2 => ?_) (fun h2 => ?_)
  · (try simp at h2)
    refine W_rseqK [4] (Runs.run tok hX (by simp; rfl)) ?_
    refine W_ret ?_
    refine W_retR (by simp [h2]; rfl) (.of_eq ?_) rfl
    grind [sub]
  · (try simp at h2)
    refine W_skip ?_
    refine W_seq ?_
    refine W_rseqK [0, 1, 5] (Runs.run tok hX (by simp; rfl)) ?_
    refine W_block ?_
    -- loop 0: live [0, 1, 5]
    refine W_loopU (α := Nat × Int) [0, 1, 5] (fun p => [(1, .int .i64 p.2), (5, .int .i64 p.1)]) (fun p => []) (fun p => p.1 ≤ l.length ∧ 0 ≤ p.2 ∧ p.2 ≤ 1099511627776 ∧ sub p.2 ((l.drop p.1).map sizeM).sum = sub z (l.length + (l.map sizeM).sum)) (fun p => l.length - p.1) ((0, z - l.length)) (fun p => by simp; rfl) (by simp) ?_ ?_
    · exact ⟨by simp, by simp; omega, by simp; omega, by simp [sub]; grind⟩
    rintro ⟨i, y⟩ ⟨hi, hy0, hy1, hI⟩
    simp only at hi hy0 hy1 hI
    refine W_seq ?_
    refine W_rseqK [0, 1, 5, 15] (Runs.run tok hX (by simp [h2]; rfl)) ?_
    refine W_condS (by simp; rfl) (by rfl) (fun h5 => ?_) (fun h5 => ?_)
    · (try simp at h5)
      rw [List.drop_eq_getElem_cons h5] at hI
      simp only [List.map_cons, List.sum_cons] at hI
      refine W_skip ?_
      refine W_seq ?_
      refine W_block ?_
      refine W_rseqK [0, 1, 5] (Runs.step 5 tok hX (by simp [h2, h5]; rfl) (Runs.call [] rfl (by simp) rfl (by simp [h2, h5]; rfl) (by simp; rfl) (by apply ct_laws_szMethod <;> first | assumption | omega | exact hb _ (List.getElem_mem _)) cb_laws_szMethod (by simp) (by simp) (by simp [h2, h5]; rfl) (Runs.run tok hX (by simp; rfl)))) ?_
      refine W_rseqK [0, 1, 5, 25] (Runs.run tok hX (by simp; rfl)) ?_
      refine W_condS (by simp; rfl) (by rfl) (fun h8 => ?_) (fun h8 => ?_)
      · (try simp at h8)
        refine W_rseqK [4] (Runs.run tok hX (by simp; rfl)) ?_
        refine W_ret ?_
        refine W_retR (by simp [h2, h5, h8]; rfl) (.of_eq ?_) rfl
        grind [sub]
      · (try simp at h8)
        refine W_skip ?_
        refine W_reg (Runs.run tok hX (by simp; (try (simp (disch := omega) only [wrap_i64]; (try simp))); rfl)) ?_
        refine round_end ((i + 1, sub y (sizeM l[i]))) [0, 1, 5] (by simp [h2, h5, h8]; try (simp (disch := omega) only [wrap_i64])) ?_ ?_
        · exact ⟨by simp; omega, by simp; grind [sub], by simp; grind [sub], by grind [sub]⟩
        · simp; omega
    · (try simp at h5)
      refine W_exit ?_
      refine W_rseqK [4] (Runs.run tok hX (by simp; rfl)) ?_
      refine W_ret ?_
      refine W_retR (by simp [h2, h5]; rfl) (.of_eq ?_) rfl
      grind [sub]
end Go.Proofs
namespace Go.Proofs
open Go Go.Ev


theorem cb_laws_szClass : Callable Tryz.prog 41 := ⟨_, Tryz.func41, by kernel_rfl, by kernel_rfl⟩
set_option maxHeartbeats 2000000 in
set_option maxRecDepth 100000 in
theorem ct_laws_szClass {x : Cls} {z : Int} (h : bigC x) (h0 : 0 ≤ z) (h1 : z ≤ 1099511627776) : Ct Tryz.prog 41 [eC x, .int .i64 z] [] (.int .i64 (sub z (sizeC x))) [] := by
  simp only [bigC] at h
  obtain ⟨g0, g1, g2, g3, g4, g5⟩ := h
  refine Ct_bodyS tok Tryz.func41 rfl 32 (by kernel_rfl) (by kernel_rfl) fun X hX => ?_
  refine W_rseqK [1, 2] (Runs.run tok hX (by simp; rfl)) ?_
  refine W_rseqK [1, 2] (Runs.run tok hX (by simp; (try (simp (disch := omega) only [wrap_i64]; (try simp))); rfl)) ?_
  refine W_seq ?_
  refine W_rseqK [1, 2, 11] (Runs.run tok hX (by simp; rfl)) ?_
  refine W_condS (by simp; rfl) (by rfl) (fun h2 => ?_) (fun h2 => ?_)
  · (try simp at h2)
    refine W_rseqK [4] (Runs.run tok hX (by simp; rfl)) ?_
    refine W_ret ?_
    refine W_retR (by simp [h2]; rfl) (.of_eq ?_) rfl
    grind [sub, sizeC]
  · (try simp at h2)
    refine W_skip ?_
    refine W_rseqK [1, 2] (Runs.run tok hX (by simp [h2]; (try (simp (disch := omega) only [wrap_i64]; (try simp [h2]))); rfl)) ?_
    refine W_seq ?_
    refine W_rseqK [1, 2, 18] (Runs.run tok hX (by simp; rfl)) ?_
    refine W_condS (by simp; rfl) (by rfl) (fun h5 => ?_) (fun h5 => ?_)
    · (try simp at h5)
      refine W_rseqK [4] (Runs.run tok hX (by simp; rfl)) ?_
      refine W_ret ?_
      refine W_retR (by simp [h2, h5]; rfl) (.of_eq ?_) rfl
      grind [sub, sizeC]
    · (try simp at h5)
      refine W_skip ?_
      refine W_rseqK [1, 2] (Runs.step 3 tok hX (by simp [h2, h5]; rfl) (Runs.call [] rfl (by simp) rfl (by simp [h2, h5]; rfl) (by simp; rfl) (by apply ct_laws_szFieldS <;> first | assumption | omega | grind [sub]) cb_laws_szFieldS (by simp) (by simp) (by simp [h2, h5]; rfl) (Runs.run tok hX (by simp; rfl)))) ?_
      refine W_seq ?_
      refine W_rseqK [1, 2, 24] (Runs.run tok hX (by simp; rfl)) ?_
      refine W_condS (by simp; rfl) (by rfl) (fun h8 => ?_) (fun h8 => ?_)
      · (try simp at h8)
        refine W_rseqK [4] (Runs.run tok hX (by simp; rfl)) ?_
        refine W_ret ?_
        refine W_retR (by simp [h2, h5, h8]; rfl) (.of_eq ?_) rfl
        grind [sub, sizeC]
      · (try simp at h8)
        refine W_skip ?_
        refine W_rseqK [1] (Runs.step 3 tok hX (by simp [h2, h5, h8]; rfl) (Runs.call [] rfl (by simp) rfl (by simp [h2, h5, h8]; rfl) (by simp; rfl) (by apply ct_laws_szMethodS <;> first | assumption | omega | grind [sub]) cb_laws_szMethodS (by simp) (by simp) (by simp [h2, h5, h8]; rfl) (Runs.run tok hX (by simp; rfl)))) ?_
        refine W_seq ?_
        refine W_rseqK [1, 30] (Runs.run tok hX (by simp; rfl)) ?_
        refine W_condS (by simp; rfl) (by rfl) (fun h11 => ?_) (fun h11 => ?_)
        · (try simp at h11)
          refine W_rseqK [4] (Runs.run tok hX (by simp; rfl)) ?_
          refine W_ret ?_
          refine W_retR (by simp [h2, h5, h8, h11]; rfl) (.of_eq ?_) rfl
          grind [sub, sizeC]
        · (try simp at h11)
          refine W_skip ?_
          refine W_rseqK [4] (Runs.run tok hX (by simp; rfl)) ?_
          refine W_ret ?_
          refine W_retR (by simp [h2, h5, h8, h11]; rfl) (.of_eq ?_) rfl
          grind [sub, sizeC]
end Go.Proofs
namespace Go.Proofs
open Go Go.Ev


theorem cb_laws_szClassS : Callable Tryz.prog 15 := ⟨_, Tryz.func15, by kernel_rfl, by kernel_rfl⟩
set_option maxHeartbeats 2000000 in
set_option maxRecDepth 100000 in
theorem ct_laws_szClassS {l : List Cls} {z : Int} (h : l.length < 4611686018427387904) (hb : ∀ y ∈ l, bigC y) (h0 : 0 ≤ z) (h1 : z ≤ 1099511627776) : Ct Tryz.prog 15 [.lst false 6 (l.map eC), .int .i64 z] [] (.int .i64 (sub z (l.length + (l.map sizeC).sum))) [] := by
  refine Ct_bodyS tok Tryz.func15 rfl 27 (by kernel_rfl) (by kernel_rfl) fun X hX => ?_
  refine W_rseqK [0, 1] (Runs.run tok hX (by simp; rfl)) ?_
  refine W_rseqK [0, 1] (Runs.run tok hX (by simp; (try (simp (disch := omega) only [wrap_i64]; (try simp))); rfl)) ?_
  refine W_seq ?_
  refine W_rseqK [0, 1, 11] (Runs.run tok hX (by simp; rfl)) ?_
  refine W_condS (by simp; rfl) (by rfl) (fun h2 => ?_) (fun h2 => ?_)
  · (try simp at h2)
    refine W_rseqK [4] (Runs.run tok hX (by simp; rfl)) ?_
    refine W_ret ?_
    refine W_retR (by simp [h2]; rfl) (.of_eq ?_) rfl
    grind [sub]
  · (try simp at h2)
    refine W_skip ?_
    refine W_seq ?_
    refine W_rseqK [0, 1, 5] (Runs.run tok hX (by simp; rfl)) ?_
    refine W_block ?_
    -- loop 0: live [0, 1, 5]
    refine W_loopU (α := Nat × Int) [0, 1, 5] (fun p => [(1, .int .i64 p.2), (5, .int .i64 p.1)]) (fun p => []) (fun p => p.1 ≤ l.length ∧ 0 ≤ p.2 ∧ p.2 ≤ 1099511627776 ∧ sub p.2 ((l.drop p.1).map sizeC).sum = sub z (l.length + (l.map sizeC).sum)) (fun p => l.length - p.1) ((0, z - l.length)) (fun p => by simp; rfl) (by simp) ?_ ?_
    · exact ⟨by simp, by simp; omega, by simp; omega, by simp [sub]; grind⟩
    rintro ⟨i, y⟩ ⟨hi, hy0, hy1, hI⟩
    simp only at hi hy0 hy1 hI
    refine W_seq ?_
    refine W_rseqK [0, 1, 5, 15] (Runs.run tok hX (by simp [h2]; rfl)) ?_
    refine W_condS (by simp; rfl) (by rfl) (fun h5 => ?_) (fun h5 => ?_)
    · (try simp at h5)
      rw [List.drop_eq_getElem_cons h5] at hI
      simp only [List.map_cons, List.sum_cons] at hI
      refine W_skip ?_
      refine W_seq ?_
      refine W_block ?_
      refine W_rseqK [0, 1, 5] (Runs.step 5 tok hX (by simp [h2, h5]; rfl) (Runs.call [] rfl (by simp) rfl (by simp [h2, h5]; rfl) (by simp; rfl) (by apply ct_laws_szClass <;> first | assumption | omega | exact hb _ (List.getElem_mem _)) cb_laws_szClass (by simp) (by simp) (by simp [h2, h5]; rfl) (Runs.run tok hX (by simp; rfl)))) ?_
      refine W_rseqK [0, 1, 5, 25] (Runs.run tok hX (by simp; rfl)) ?_
      refine W_condS (by simp; rfl) (by rfl) (fun h8 => ?_) (fun h8 => ?_)
      · (try simp at h8)
        refine W_rseqK [4] (Runs.run tok hX (by simp; rfl)) ?_
        refine W_ret ?_
        refine W_retR (by simp [h2, h5, h8]; rfl) (.of_eq ?_) rfl
        grind [sub]
      · (try simp at h8)
        refine W_skip ?_
        refine W_reg (Runs.run tok hX (by simp; (try (simp (disch := omega) only [wrap_i64]; (try simp))); rfl)) ?_
        refine round_end ((i + 1, sub y (sizeC l[i]))) [0, 1, 5] (by simp [h2, h5, h8]; try (simp (disch := omega) only [wrap_i64])) ?_ ?_
        · exact ⟨by simp; omega, by simp; grind [sub], by simp; grind [sub], by grind [sub]⟩
        · simp; omega
    · (try simp at h5)
      refine W_exit ?_
      refine W_rseqK [4] (Runs.run tok hX (by simp; rfl)) ?_
      refine W_ret ?_
      refine W_retR (by simp [h2, h5]; rfl) (.of_eq ?_) rfl
      grind [sub]
end Go.Proofs
namespace Go.Proofs
open Go Go.Ev


theorem cb_laws_toField : Callable Tryz.prog 104 := ⟨_, Tryz.func104, by kernel_rfl, by kernel_rfl⟩
set_option maxHeartbeats 2000000 in
set_option maxRecDepth 100000 in
theorem ct_laws_toField {x : Fld} : Ct Tryz.prog 104 [eF x] [] (eF x) [] := by
  refine Ct_bodyS tok Tryz.func104 rfl 14 (by kernel_rfl) (by kernel_rfl) fun X hX => ?_
  refine W_rseqK [1, 2] (Runs.run tok hX (by simp; rfl)) ?_
  refine W_rseqK [1, 2, 3] (Runs.run tok hX (by simp; rfl)) ?_
  refine W_rseqK [1, 2, 3] (Runs.run tok hX (by simp; rfl)) ?_
  refine W_rseqK [1, 2, 3] (Runs.run tok hX (by simp; rfl)) ?_
  refine W_rseqK [2, 3] (Runs.run tok hX (by simp; rfl)) ?_
  refine W_rseqK [2] (Runs.run tok hX (by simp; rfl)) ?_
  refine W_ret ?_
  refine W_retR (by simp; rfl) (.of_eq ?_) rfl
  simp
end Go.Proofs
namespace Go.Proofs
open Go Go.Ev


theorem cb_laws_toFieldS : Callable Tryz.prog 73 := ⟨_, Tryz.func73, by kernel_rfl, by kernel_rfl⟩
set_option maxHeartbeats 2000000 in
set_option maxRecDepth 100000 in
theorem ct_laws_toFieldS {l : List Fld} (q1 : l.length ≤ 1099511627776) : Ct Tryz.prog 73 [.lst false 3 (l.map eF)] [] (.lst true 3 (l.map eF)) [] := by
  have w1 : 40 * (l.length : Int) ≤ 281474976710656 := by omega
  have w2 : (l.length : Int) ≤ 9223372036854775807 := by omega
  refine Ct_bodyS tok Tryz.func73 rfl 23 (by kernel_rfl) (by kernel_rfl) fun X hX => ?_
  refine W_rseqK [0] (Runs.run tok hX (by simp [fillL_length, fillL_at, w1, w2]; rfl)) ?_
  refine W_rseqK [0, 3] (Runs.run tok hX (by simp [fillL_length, fillL_at, w1, w2]; rfl)) ?_
  refine W_seq ?_
  refine W_rseqK [0, 3, 4] (Runs.run tok hX (by simp [fillL_length, fillL_at, w1, w2]; rfl)) ?_
  refine W_block ?_
  -- loop 0: live [0, 3, 4]
  refine W_loopU (α := Nat) [0, 3, 4] (fun i => [(4, .int .i64 i)]) (fun i => [(0, some (3, fillL eF (.agg [.str [], .str [], .bool false]) l i))]) (fun i => i ≤ l.length) (fun i => l.length - i) (0) (fun i => by simp; rfl) (by simp [fillL_zero]) ?_ ?_
  · simp
  rintro i hi
  refine W_seq ?_
  refine W_rseqK [0, 3, 4, 11] (Runs.run tok hX (by simp [fillL_length, fillL_at, w1, w2]; rfl)) ?_
  refine W_condS (by simp; rfl) (by rfl) (fun h3 => ?_) (fun h3 => ?_)
  · (try simp at h3)
    refine W_skip ?_
    refine W_seq ?_
    refine W_block ?_
    refine W_reg (Runs.step 6 tok hX (by simp [h3, fillL_length, fillL_at, w1, w2]; rfl) (Runs.call [] rfl (by simp) rfl (by simp [h3, fillL_length, fillL_at, w1, w2]; rfl) (by simp; rfl) (by apply ct_laws_toField <;> first | assumption | omega | (simp at *; omega) | simp_all) cb_laws_toField (by simp) (by simp) (by simp [h3, fillL_length, fillL_at, w1, w2]; rfl) (Runs.run tok hX (by simp [h3, fillL_length, fillL_at, w1, w2]; rfl)))) ?_
    refine W_reg (Runs.run tok hX (by simp [fillL_length, fillL_at, w1, w2]; (try (simp (disch := omega) only [wrap_i64]; (try simp [fillL_length, fillL_at, w1, w2]))); rfl)) ?_
    refine round_end (i + 1) [0, 3, 4] (by simp [h3, fillL_length, fillL_at]; first | exact fillL_set h3 | (constructor <;> first | omega | exact fillL_set h3)) ?_ ?_
    · omega
    · omega
  · (try simp at h3)
    have hil : i = l.length := by omega
    subst hil
    rw [fillL_full]
    refine W_exit ?_
    refine W_rseqK [2] (Runs.run tok hX (by simp [fillL_length, fillL_at, w1, w2]; rfl)) ?_
    refine W_ret ?_
    refine W_retR (by simp [h3, fillL_length, fillL_at, w1, w2]; rfl) (.of_eq ?_) rfl
    simp
end Go.Proofs
namespace Go.Proofs
open Go Go.Ev


theorem cb_laws_toIns : Callable Tryz.prog 157 := ⟨_, Tryz.func157, by kernel_rfl, by kernel_rfl⟩
set_option maxHeartbeats 2000000 in
set_option maxRecDepth 100000 in
theorem ct_laws_toIns {x : Ins} : Ct Tryz.prog 157 [eI x] [] (eI x) [] := by
  refine Ct_bodyS tok Tryz.func157 rfl 20 (by kernel_rfl) (by kernel_rfl) fun X hX => ?_
  refine W_rseqK [1, 2] (Runs.run tok hX (by simp; rfl)) ?_
  refine W_rseqK [1, 2, 3] (Runs.run tok hX (by simp; rfl)) ?_
  refine W_rseqK [1, 2, 3] (Runs.run tok hX (by simp; rfl)) ?_
  refine W_rseqK [1, 2, 3] (Runs.run tok hX (by simp; rfl)) ?_
  refine W_rseqK [1, 2, 3] (Runs.run tok hX (by simp; rfl)) ?_
  refine W_rseqK [1, 2, 3] (Runs.run tok hX (by simp; rfl)) ?_
  refine W_rseqK [2, 3] (Runs.run tok hX (by simp; rfl)) ?_
  refine W_rseqK [2] (Runs.run tok hX (by simp; rfl)) ?_
  refine W_ret ?_
  refine W_retR (by simp; rfl) (.of_eq ?_) rfl
  simp
end Go.Proofs
namespace Go.Proofs
open Go Go.Ev


theorem cb_laws_toInsS : Callable Tryz.prog 131 := ⟨_, Tryz.func131, by kernel_rfl, by kernel_rfl⟩
set_option maxHeartbeats 2000000 in
set_option maxRecDepth 100000 in
theorem ct_laws_toInsS {l : List Ins} (q1 : l.length ≤ 1099511627776) : Ct Tryz.prog 131 [.lst false 5 (l.map eI)] [] (.lst true 5 (l.map eI)) [] := by
  have w1 : 64 * (l.length : Int) ≤ 281474976710656 := by omega
  have w2 : (l.length : Int) ≤ 9223372036854775807 := by omega
  refine Ct_bodyS tok Tryz.func131 rfl 23 (by kernel_rfl) (by kernel_rfl) fun X hX => ?_
  refine W_rseqK [0] (Runs.run tok hX (by simp [fillL_length, fillL_at, w1, w2]; rfl)) ?_
  refine W_rseqK [0, 3] (Runs.run tok hX (by simp [fillL_length, fillL_at, w1, w2]; rfl)) ?_
  refine W_seq ?_
  refine W_rseqK [0, 3, 4] (Runs.run tok hX (by simp [fillL_length, fillL_at, w1, w2]; rfl)) ?_
  refine W_block ?_
  -- loop 0: live [0, 3, 4]
  refine W_loopU (α := Nat) [0, 3, 4] (fun i => [(4, .int .i64 i)]) (fun i => [(0, some (5, fillL eI (.agg [.int .i64 0, .int .i64 0, .str [], .str [], .str []]) l i))]) (fun i => i ≤ l.length) (fun i => l.length - i) (0) (fun i => by simp; rfl) (by simp [fillL_zero]) ?_ ?_
  · simp
  rintro i hi
  refine W_seq ?_
  refine W_rseqK [0, 3, 4, 11] (Runs.run tok hX (by simp [fillL_length, fillL_at, w1, w2]; rfl)) ?_
  refine W_condS (by simp; rfl) (by rfl) (fun h3 => ?_) (fun h3 => ?_)
  · (try simp at h3)
    refine W_skip ?_
    refine W_seq ?_
    refine W_block ?_
    refine W_reg (Runs.step 6 tok hX (by simp [h3, fillL_length, fillL_at, w1, w2]; rfl) (Runs.call [] rfl (by simp) rfl (by simp [h3, fillL_length, fillL_at, w1, w2]; rfl) (by simp; rfl) (by apply ct_laws_toIns <;> first | assumption | omega | (simp at *; omega) | simp_all) cb_laws_toIns (by simp) (by simp) (by simp [h3, fillL_length, fillL_at, w1, w2]; rfl) (Runs.run tok hX (by simp [h3, fillL_length, fillL_at, w1, w2]; rfl)))) ?_
    refine W_reg (Runs.run tok hX (by simp [fillL_length, fillL_at, w1, w2]; (try (simp (disch := omega) only [wrap_i64]; (try simp [fillL_length, fillL_at, w1, w2]))); rfl)) ?_
    refine round_end (i + 1) [0, 3, 4] (by simp [h3, fillL_length, fillL_at]; first | exact fillL_set h3 | (constructor <;> first | omega | exact fillL_set h3)) ?_ ?_
    · omega
    · omega
  · (try simp at h3)
    have hil : i = l.length := by omega
    subst hil
    rw [fillL_full]
    refine W_exit ?_
    refine W_rseqK [2] (Runs.run tok hX (by simp [fillL_length, fillL_at, w1, w2]; rfl)) ?_
    refine W_ret ?_
    refine W_retR (by simp [h3, fillL_length, fillL_at, w1, w2]; rfl) (.of_eq ?_) rfl
    simp
end Go.Proofs
namespace Go.Proofs
open Go Go.Ev


theorem cb_laws_toHandler : Callable Tryz.prog 158 := ⟨_, Tryz.func158, by kernel_rfl, by kernel_rfl⟩
set_option maxHeartbeats 2000000 in
set_option maxRecDepth 100000 in
theorem ct_laws_toHandler {x : Hdl} : Ct Tryz.prog 158 [eH x] [] (eH x) [] := by
  refine Ct_bodyS tok Tryz.func158 rfl 17 (by kernel_rfl) (by kernel_rfl) fun X hX => ?_
  refine W_rseqK [1, 2] (Runs.run tok hX (by simp; rfl)) ?_
  refine W_rseqK [1, 2, 3] (Runs.run tok hX (by simp; rfl)) ?_
  refine W_rseqK [1, 2, 3] (Runs.run tok hX (by simp; rfl)) ?_
  refine W_rseqK [1, 2, 3] (Runs.run tok hX (by simp; rfl)) ?_
  refine W_rseqK [1, 2, 3] (Runs.run tok hX (by simp; rfl)) ?_
  refine W_rseqK [2, 3] (Runs.run tok hX (by simp; rfl)) ?_
  refine W_rseqK [2] (Runs.run tok hX (by simp; rfl)) ?_
  refine W_ret ?_
  refine W_retR (by simp; rfl) (.of_eq ?_) rfl
  simp
end Go.Proofs
namespace Go.Proofs
open Go Go.Ev


theorem cb_laws_toHandlerS : Callable Tryz.prog 132 := ⟨_, Tryz.func132, by kernel_rfl, by kernel_rfl⟩
set_option maxHeartbeats 2000000 in
set_option maxRecDepth 100000 in
theorem ct_laws_toHandlerS {l : List Hdl} (q1 : l.length ≤ 1099511627776) : Ct Tryz.prog 132 [.lst false 4 (l.map eH)] [] (.lst true 4 (l.map eH)) [] := by
  have w1 : 40 * (l.length : Int) ≤ 281474976710656 := by omega
  have w2 : (l.length : Int) ≤ 9223372036854775807 := by omega
  refine Ct_bodyS tok Tryz.func132 rfl 23 (by kernel_rfl) (by kernel_rfl) fun X hX => ?_
  refine W_rseqK [0] (Runs.run tok hX (by simp [fillL_length, fillL_at, w1, w2]; rfl)) ?_
  refine W_rseqK [0, 3] (Runs.run tok hX (by simp [fillL_length, fillL_at, w1, w2]; rfl)) ?_
  refine W_seq ?_
  refine W_rseqK [0, 3, 4] (Runs.run tok hX (by simp [fillL_length, fillL_at, w1, w2]; rfl)) ?_
  refine W_block ?_
  -- loop 0: live [0, 3, 4]
  refine W_loopU (α := Nat) [0, 3, 4] (fun i => [(4, .int .i64 i)]) (fun i => [(0, some (4, fillL eH (.agg [.int .i64 0, .int .i64 0, .int .i64 0, .str []]) l i))]) (fun i => i ≤ l.length) (fun i => l.length - i) (0) (fun i => by simp; rfl) (by simp [fillL_zero]) ?_ ?_
  · simp
  rintro i hi
  refine W_seq ?_
  refine W_rseqK [0, 3, 4, 11] (Runs.run tok hX (by simp [fillL_length, fillL_at, w1, w2]; rfl)) ?_
  refine W_condS (by simp; rfl) (by rfl) (fun h3 => ?_) (fun h3 => ?_)
  · (try simp at h3)
    refine W_skip ?_
    refine W_seq ?_
    refine W_block ?_
    refine W_reg (Runs.step 6 tok hX (by simp [h3, fillL_length, fillL_at, w1, w2]; rfl) (Runs.call [] rfl (by simp) rfl (by simp [h3, fillL_length, fillL_at, w1, w2]; rfl) (by simp; rfl) (by apply ct_laws_toHandler <;> first | assumption | omega | (simp at *; omega) | simp_all) cb_laws_toHandler (by simp) (by simp) (by simp [h3, fillL_length, fillL_at, w1, w2]; rfl) (Runs.run tok hX (by simp [h3, fillL_length, fillL_at, w1, w2]; rfl)))) ?_
    refine W_reg (Runs.run tok hX (by simp [fillL_length, fillL_at, w1, w2]; (try (simp (disch := omega) only [wrap_i64]; (try simp [fillL_length, fillL_at, w1, w2]))); rfl)) ?_
    refine round_end (i + 1) [0, 3, 4] (by simp [h3, fillL_length, fillL_at]; first | exact fillL_set h3 | (constructor <;> first | omega | exact fillL_set h3)) ?_ ?_
    · omega
    · omega
  · (try simp at h3)
    have hil : i = l.length := by omega
    subst hil
    rw [fillL_full]
    refine W_exit ?_
    refine W_rseqK [2] (Runs.run tok hX (by simp [fillL_length, fillL_at, w1, w2]; rfl)) ?_
    refine W_ret ?_
    refine W_retR (by simp [h3, fillL_length, fillL_at, w1, w2]; rfl) (.of_eq ?_) rfl
    simp
end Go.Proofs
namespace Go.Proofs
open Go Go.Ev


theorem cb_laws_toMethod : Callable Tryz.prog 105 := ⟨_, Tryz.func105, by kernel_rfl, by kernel_rfl⟩
set_option maxHeartbeats 2000000 in
set_option maxRecDepth 100000 in
theorem ct_laws_toMethod {x : Mth} (h : sizeM x ≤ 1099511627776) : Ct Tryz.prog 105 [eM x] [] (oM x) [] := by
  simp only [sizeM] at h
  refine Ct_bodyS tok Tryz.func105 rfl 34 (by kernel_rfl) (by kernel_rfl) fun X hX => ?_
  refine W_rseqK [1, 2] (Runs.run tok hX (by simp; rfl)) ?_
  refine W_rseqK [1, 2, 3] (Runs.run tok hX (by simp; rfl)) ?_
  refine W_rseqK [1, 2, 3] (Runs.run tok hX (by simp; rfl)) ?_
  refine W_rseqK [1, 2, 3] (Runs.run tok hX (by simp; rfl)) ?_
  refine W_rseqK [1, 2, 3] (Runs.run tok hX (by simp; rfl)) ?_
  refine W_rseqK [1, 2, 3] (Runs.run tok hX (by simp; rfl)) ?_
  refine W_rseqK [1, 2, 3] (Runs.run tok hX (by simp; rfl)) ?_
  refine W_rseqK [1, 2, 3] (Runs.run tok hX (by simp; rfl)) ?_
  refine W_rseqK [1, 2, 3] (Runs.run tok hX (by simp; rfl)) ?_
  refine W_rseqK [1, 2, 3] (Runs.step 2 tok hX (by simp; rfl) (Runs.call [] rfl (by simp) rfl (by simp; rfl) (by simp; rfl) (by apply ct_laws_toInsS <;> first | assumption | omega | exact fun y hy => Nat.le_trans (mem_sum hy) (by omega)) cb_laws_toInsS (by simp) (by simp) (by simp; rfl) (Runs.run tok hX (by simp; rfl)))) ?_
  refine W_rseqK [2, 3] (Runs.step 2 tok hX (by simp; rfl) (Runs.call [] rfl (by simp) rfl (by simp; rfl) (by simp; rfl) (by apply ct_laws_toHandlerS <;> first | assumption | omega | exact fun y hy => Nat.le_trans (mem_sum hy) (by omega)) cb_laws_toHandlerS (by simp) (by simp) (by simp; rfl) (Runs.run tok hX (by simp; rfl)))) ?_
  refine W_rseqK [2] (Runs.run tok hX (by simp; rfl)) ?_
  refine W_ret ?_
  refine W_retR (by simp; rfl) (.of_eq ?_) rfl
  simp [oM]
end Go.Proofs
namespace Go.Proofs
open Go Go.Ev


theorem cb_laws_toMethodS : Callable Tryz.prog 74 := ⟨_, Tryz.func74, by kernel_rfl, by kernel_rfl⟩
set_option maxHeartbeats 2000000 in
set_option maxRecDepth 100000 in
theorem ct_laws_toMethodS {l : List Mth} (q1 : l.length ≤ 1099511627776) (hb : ∀ y ∈ l, sizeM y ≤ 1099511627776) : Ct Tryz.prog 74 [.lst false 9 (l.map eM)] [] (.lst true 9 (l.map oM)) [] := by
  have w1 : 104 * (l.length : Int) ≤ 281474976710656 := by omega
  have w2 : (l.length : Int) ≤ 9223372036854775807 := by omega
  refine Ct_bodyS tok Tryz.func74 rfl 23 (by kernel_rfl) (by kernel_rfl) fun X hX => ?_
  refine W_rseqK [0] (Runs.run tok hX (by simp [fillL_length, fillL_at, w1, w2]; rfl)) ?_
  refine W_rseqK [0, 3] (Runs.run tok hX (by simp [fillL_length, fillL_at, w1, w2]; rfl)) ?_
  refine W_seq ?_
  refine W_rseqK [0, 3, 4] (Runs.run tok hX (by simp [fillL_length, fillL_at, w1, w2]; rfl)) ?_
  refine W_block ?_
  -- loop 0: live [0, 3, 4]
  refine W_loopU (α := Nat) [0, 3, 4] (fun i => [(4, .int .i64 i)]) (fun i => [(0, some (9, fillL oM (.agg [.str [], .str [], .bool false, .bool false, .bool false, .int .i64 0, .int .i64 0, .raw (.slice none 0 0), .raw (.slice none 0 0)]) l i))]) (fun i => i ≤ l.length) (fun i => l.length - i) (0) (fun i => by simp; rfl) (by simp [fillL_zero]) ?_ ?_
  · simp
  rintro i hi
  refine W_seq ?_
  refine W_rseqK [0, 3, 4, 11] (Runs.run tok hX (by simp [fillL_length, fillL_at, w1, w2]; rfl)) ?_
  refine W_condS (by simp; rfl) (by rfl) (fun h3 => ?_) (fun h3 => ?_)
  · (try simp at h3)
    refine W_skip ?_
    refine W_seq ?_
    refine W_block ?_
    refine W_reg (Runs.step 6 tok hX (by simp [h3, fillL_length, fillL_at, w1, w2]; rfl) (Runs.call [] rfl (by simp) rfl (by simp [h3, fillL_length, fillL_at, w1, w2]; rfl) (by simp; rfl) (by apply ct_laws_toMethod <;> first | assumption | omega | exact hb _ (List.getElem_mem _)) cb_laws_toMethod (by simp) (by simp) (by simp [h3, fillL_length, fillL_at, w1, w2]; rfl) (Runs.run tok hX (by simp [h3, fillL_length, fillL_at, w1, w2]; rfl)))) ?_
    refine W_reg (Runs.run tok hX (by simp [fillL_length, fillL_at, w1, w2]; (try (simp (disch := omega) only [wrap_i64]; (try simp [fillL_length, fillL_at, w1, w2]))); rfl)) ?_
    refine ⟨i + 1, Le.trans (Le.keep [0, 3, 4] _) (Le.trans (Le.absorb 0 i 7 (by simp [h3, fillL_length]; rfl)) (Le.trans (Le.absorb 0 i 8 (by simp [h3, fillL_length]; rfl)) (Le.trans (Le.trim 1 (by simp [hX]) _ (by simp)) (Le.of_eq (by simp [h3]; exact (congrArg (jkL _) (fillL_set h3)).trans (jkL_pure _ _ (pureL_fillL (fun x => by simp [V.pure, pureL]) (by simp [V.pure, pureL])))))))), ?_, ?_⟩
    · omega
    · omega
  · (try simp at h3)
    have hil : i = l.length := by omega
    subst hil
    rw [fillL_full]
    refine W_exit ?_
    refine W_rseqK [2] (Runs.run tok hX (by simp [fillL_length, fillL_at, w1, w2]; rfl)) ?_
    refine W_ret ?_
    refine W_retR (by simp [h3, fillL_length, fillL_at, w1, w2]; rfl) (.of_eq ?_) rfl
    simp
end Go.Proofs
namespace Go.Proofs
open Go Go.Ev


theorem cb_laws_toClass : Callable Tryz.prog 43 := ⟨_, Tryz.func43, by kernel_rfl, by kernel_rfl⟩
set_option maxHeartbeats 2000000 in
set_option maxRecDepth 100000 in
theorem ct_laws_toClass {x : Cls} (h : sizeC x ≤ 1099511627776) : Ct Tryz.prog 43 [eC x] [] (oC x) [] := by
  simp only [sizeC] at h
  refine Ct_bodyS tok Tryz.func43 rfl 25 (by kernel_rfl) (by kernel_rfl) fun X hX => ?_
  refine W_rseqK [1, 2] (Runs.run tok hX (by simp; rfl)) ?_
  refine W_rseqK [1, 2, 3] (Runs.run tok hX (by simp; rfl)) ?_
  refine W_rseqK [1, 2, 3] (Runs.run tok hX (by simp; rfl)) ?_
  refine W_rseqK [1, 2, 3] (Runs.run tok hX (by simp; rfl)) ?_
  refine W_rseqK [1, 2, 3] (Runs.run tok hX (by simp; rfl)) ?_
  refine W_rseqK [1, 2, 3] (Runs.run tok hX (by simp; rfl)) ?_
  refine W_rseqK [1, 2, 3] (Runs.step 2 tok hX (by simp; rfl) (Runs.call [] rfl (by simp) rfl (by simp; rfl) (by simp; rfl) (by apply ct_laws_toFieldS <;> first | assumption | omega | exact fun y hy => Nat.le_trans (mem_sum hy) (by omega)) cb_laws_toFieldS (by simp) (by simp) (by simp; rfl) (Runs.run tok hX (by simp; rfl)))) ?_
  refine W_rseqK [2, 3] (Runs.step 2 tok hX (by simp; rfl) (Runs.call [] rfl (by simp) rfl (by simp; rfl) (by simp; rfl) (by apply ct_laws_toMethodS <;> first | assumption | omega | exact fun y hy => Nat.le_trans (mem_sum hy) (by omega)) cb_laws_toMethodS (by simp) (by simp) (by simp; rfl) (Runs.run tok hX (by simp; rfl)))) ?_
  refine W_rseqK [2] (Runs.run tok hX (by simp; rfl)) ?_
  refine W_ret ?_
  refine W_retR (by simp; rfl) (.of_eq ?_) rfl
  simp [oC]
end Go.Proofs
namespace Go.Proofs
open Go Go.Ev


theorem cb_laws_toClassS : Callable Tryz.prog 17 := ⟨_, Tryz.func17, by kernel_rfl, by kernel_rfl⟩
set_option maxHeartbeats 2000000 in
set_option maxRecDepth 100000 in
theorem ct_laws_toClassS {l : List Cls} (q1 : l.length ≤ 1099511627776) (hb : ∀ y ∈ l, sizeC y ≤ 1099511627776) : Ct Tryz.prog 17 [.lst false 6 (l.map eC)] [] (.lst true 6 (l.map oC)) [] := by
  have w1 : 88 * (l.length : Int) ≤ 281474976710656 := by omega
  have w2 : (l.length : Int) ≤ 9223372036854775807 := by omega
  refine Ct_bodyS tok Tryz.func17 rfl 23 (by kernel_rfl) (by kernel_rfl) fun X hX => ?_
  refine W_rseqK [0] (Runs.run tok hX (by simp [fillL_length, fillL_at, w1, w2]; rfl)) ?_
  refine W_rseqK [0, 3] (Runs.run tok hX (by simp [fillL_length, fillL_at, w1, w2]; rfl)) ?_
  refine W_seq ?_
  refine W_rseqK [0, 3, 4] (Runs.run tok hX (by simp [fillL_length, fillL_at, w1, w2]; rfl)) ?_
  refine W_block ?_
  -- loop 0: live [0, 3, 4]
  refine W_loopU (α := Nat) [0, 3, 4] (fun i => [(4, .int .i64 i)]) (fun i => [(0, some (6, fillL oC (.agg [.str [], .str [], .bool false, .bool false, .raw (.slice none 0 0), .raw (.slice none 0 0)]) l i))]) (fun i => i ≤ l.length) (fun i => l.length - i) (0) (fun i => by simp; rfl) (by simp [fillL_zero]) ?_ ?_
  · simp
  rintro i hi
  refine W_seq ?_
  refine W_rseqK [0, 3, 4, 11] (Runs.run tok hX (by simp [fillL_length, fillL_at, w1, w2]; rfl)) ?_
  refine W_condS (by simp; rfl) (by rfl) (fun h3 => ?_) (fun h3 => ?_)
  · (try simp at h3)
    refine W_skip ?_
    refine W_seq ?_
    refine W_block ?_
    refine W_reg (Runs.step 6 tok hX (by simp [h3, fillL_length, fillL_at, w1, w2]; rfl) (Runs.call [] rfl (by simp) rfl (by simp [h3, fillL_length, fillL_at, w1, w2]; rfl) (by simp; rfl) (by apply ct_laws_toClass <;> first | assumption | omega | exact hb _ (List.getElem_mem _)) cb_laws_toClass (by simp) (by simp) (by simp [h3, fillL_length, fillL_at, w1, w2]; rfl) (Runs.run tok hX (by simp [h3, fillL_length, fillL_at, w1, w2]; rfl)))) ?_
    refine W_reg (Runs.run tok hX (by simp [fillL_length, fillL_at, w1, w2]; (try (simp (disch := omega) only [wrap_i64]; (try simp [fillL_length, fillL_at, w1, w2]))); rfl)) ?_
    refine ⟨i + 1, Le.trans (Le.keep [0, 3, 4] _) (Le.trans (Le.absorb 0 i 4 (by simp [h3, fillL_length]; rfl)) (Le.trans (Le.absorb 0 i 5 (by simp [h3, fillL_length]; rfl)) (Le.trans (Le.trim 1 (by simp [hX]) _ (by simp)) (Le.of_eq (by simp [h3]; exact (congrArg (jkL _) (fillL_set h3)).trans (jkL_pure _ _ (pureL_fillL (fun x => by simp [V.pure, pureL]) (by simp [V.pure, pureL])))))))), ?_, ?_⟩
    · omega
    · omega
  · (try simp at h3)
    have hil : i = l.length := by omega
    subst hil
    rw [fillL_full]
    refine W_exit ?_
    refine W_rseqK [2] (Runs.run tok hX (by simp [fillL_length, fillL_at, w1, w2]; rfl)) ?_
    refine W_ret ?_
    refine W_retR (by simp [h3, fillL_length, fillL_at, w1, w2]; rfl) (.of_eq ?_) rfl
    simp
end Go.Proofs
namespace Go.Proofs
open Go Go.Ev


theorem cb_laws_eqField : Callable Tryz.prog 107 := ⟨_, Tryz.func107, by kernel_rfl, by kernel_rfl⟩
set_option maxHeartbeats 2000000 in
set_option maxRecDepth 100000 in
theorem ct_laws_eqField {x y : Fld} : Ct Tryz.prog 107 [eF x, eF y] [] (.bool (decide (x = y))) [] := by
  refine Ct_bodyS tok Tryz.func107 rfl 20 (by kernel_rfl) (by kernel_rfl) fun X hX => ?_
  refine W_rseqK [2, 3] (Runs.run tok hX (by simp; rfl)) ?_
  refine W_seq ?_
  refine W_rseqK [2, 3, 9] (Runs.run tok hX (by simp; rfl)) ?_
  refine W_condS (by simp; rfl) (by rfl) (fun h1 => ?_) (fun h1 => ?_)
  · (try simp at h1)
    refine W_rseqK [4] (Runs.run tok hX (by simp; rfl)) ?_
    refine W_ret ?_
    refine W_retR (by simp; rfl) (.of_eq ?_) rfl
    (try simp at *) <;> cases x <;> cases y <;> simp_all
  · (try simp at h1)
    refine W_skip ?_
    refine W_seq ?_
    refine W_rseqK [2, 3, 14] (Runs.run tok hX (by simp; rfl)) ?_
    refine W_condS (by simp; rfl) (by rfl) (fun h3 => ?_) (fun h3 => ?_)
    · (try simp at h3)
      refine W_rseqK [4] (Runs.run tok hX (by simp; rfl)) ?_
      refine W_ret ?_
      refine W_retR (by simp; rfl) (.of_eq ?_) rfl
      (try simp at *) <;> cases x <;> cases y <;> simp_all
    · (try simp at h3)
      refine W_skip ?_
      refine W_seq ?_
      refine W_rseqK [19] (Runs.run tok hX (by simp; rfl)) ?_
      refine W_condS (by simp; rfl) (by rfl) (fun h5 => ?_) (fun h5 => ?_)
      · (try simp at h5)
        refine W_rseqK [4] (Runs.run tok hX (by simp; rfl)) ?_
        refine W_ret ?_
        refine W_retR (by simp; rfl) (.of_eq ?_) rfl
        (try simp at *) <;> cases x <;> cases y <;> simp_all
      · (try simp at h5)
        refine W_skip ?_
        refine W_rseqK [4] (Runs.run tok hX (by simp; rfl)) ?_
        refine W_ret ?_
        refine W_retR (by simp; rfl) (.of_eq ?_) rfl
        (try simp at *) <;> cases x <;> cases y <;> simp_all
end Go.Proofs
namespace Go.Proofs
open Go Go.Ev


theorem cb_laws_eqFieldS : Callable Tryz.prog 76 := ⟨_, Tryz.func76, by kernel_rfl, by kernel_rfl⟩
set_option maxHeartbeats 2000000 in
set_option maxRecDepth 100000 in
theorem ct_laws_eqFieldS {l1 l2 : List Fld} (q1 : l1.length < 4611686018427387904) (q2 : l2.length < 4611686018427387904) : Ct Tryz.prog 76 [.lst false 3 (l1.map eF), .lst false 3 (l2.map eF)] [] (.bool (decide (l1 = l2))) [] := by
  refine Ct_bodyS tok Tryz.func76 rfl 27 (by kernel_rfl) (by kernel_rfl) fun X hX => ?_
  refine W_rseqK [0, 1] (Runs.run tok hX (by simp; rfl)) ?_
  refine W_seq ?_
  refine W_rseqK [0, 1, 10] (Runs.run tok hX (by simp; rfl)) ?_
  refine W_condS (by simp; rfl) (by rfl) (fun h1 => ?_) (fun h1 => ?_)
  · (try simp at h1)
    replace h1 : ¬ l1.length = l2.length := by omega
    refine W_rseqK [4] (Runs.run tok hX (by simp; rfl)) ?_
    refine W_ret ?_
    refine W_retR (by simp; rfl) (.of_eq ?_) rfl
    have : ¬ l1 = l2 := fun e => h1 (by rw [e])
    simp [this]
  · (try simp at h1)
    replace h1 : l1.length = l2.length := by omega
    refine W_skip ?_
    refine W_seq ?_
    refine W_rseqK [0, 1, 5] (Runs.run tok hX (by simp; rfl)) ?_
    refine W_block ?_
    -- loop 0: live [0, 1, 5]
    refine W_loopU (α := Nat) [0, 1, 5] (fun i => [(5, .int .i64 i)]) (fun i => []) (fun i => i ≤ l1.length ∧ (l1.drop i = l2.drop i ↔ l1 = l2)) (fun i => l1.length - i) (0) (fun i => by simp; rfl) (by simp) ?_ ?_
    · simp
    rintro i ⟨hi, hI⟩
    refine W_seq ?_
    refine W_rseqK [0, 1, 5, 14] (Runs.run tok hX (by simp; rfl)) ?_
    refine W_condS (by simp; rfl) (by rfl) (fun h4 => ?_) (fun h4 => ?_)
    · (try simp at h4)
      have h4b : i < l1.length := by omega
      have h4c : i < l2.length := by omega
      rw [List.drop_eq_getElem_cons h4b, List.drop_eq_getElem_cons h4c, List.cons.injEq] at hI
      refine W_skip ?_
      refine W_seq ?_
      refine W_block ?_
      refine W_dseqK [0, 1, 5, 26] hmo (by kernel_rfl) (RunsQ.step (n0 := 0) 8 tok (by simp [h4, h4b, h4c]; rfl) (RunsQ.call rfl (by simp) rfl (by simp [h4, h4b, h4c]; rfl) (by apply ct_laws_eqField <;> first | assumption | omega | exact hb1 _ (List.getElem_mem _) | exact hb2 _ (List.getElem_mem _)) cb_laws_eqField rfl (RunsQ.run (n0 := 0) tok (by simp; rfl)))) ?_
      refine W_condS (by simp; rfl) (by rfl) (fun h6 => ?_) (fun h6 => ?_)
      · (try simp at h6)
        refine W_rseqK [4] (Runs.run tok hX (by simp; rfl)) ?_
        refine W_ret ?_
        refine W_retR (by simp [h4, h4b, h4c]; rfl) (.of_eq ?_) rfl
        simp_all
      · (try simp at h6)
        refine W_skip ?_
        refine W_reg (Runs.run tok hX (by simp; (try (simp (disch := omega) only [wrap_i64]; (try simp))); rfl)) ?_
        refine round_end (i + 1) [0, 1, 5] (by simp [h4, h4b, h4c]; try (simp (disch := omega) only [wrap_i64])) ?_ ?_
        · exact ⟨by omega, by simp_all⟩
        · omega
    · (try simp at h4)
      refine W_exit ?_
      refine W_rseqK [4] (Runs.run tok hX (by simp; rfl)) ?_
      refine W_ret ?_
      refine W_retR (by simp [h4]; rfl) (.of_eq ?_) rfl
      have : l1.drop i = [] := List.drop_eq_nil_of_le (by omega)
      have e2 : l2.drop i = [] := List.drop_eq_nil_of_le (by omega)
      simp_all
end Go.Proofs
namespace Go.Proofs
open Go Go.Ev


theorem cb_laws_eqIns : Callable Tryz.prog 159 := ⟨_, Tryz.func159, by kernel_rfl, by kernel_rfl⟩
set_option maxHeartbeats 2000000 in
set_option maxRecDepth 100000 in
theorem ct_laws_eqIns {x y : Ins} : Ct Tryz.prog 159 [eI x, eI y] [] (.bool (decide (x = y))) [] := by
  refine Ct_bodyS tok Tryz.func159 rfl 30 (by kernel_rfl) (by kernel_rfl) fun X hX => ?_
  refine W_rseqK [2, 3] (Runs.run tok hX (by simp; rfl)) ?_
  refine W_seq ?_
  refine W_rseqK [2, 3, 9] (Runs.run tok hX (by simp; rfl)) ?_
  refine W_condS (by simp; rfl) (by rfl) (fun h1 => ?_) (fun h1 => ?_)
  · (try simp at h1)
    refine W_rseqK [4] (Runs.run tok hX (by simp; rfl)) ?_
    refine W_ret ?_
    refine W_retR (by simp; rfl) (.of_eq ?_) rfl
    (try simp at *) <;> cases x <;> cases y <;> simp_all
  · (try simp at h1)
    refine W_skip ?_
    refine W_seq ?_
    refine W_rseqK [2, 3, 14] (Runs.run tok hX (by simp; rfl)) ?_
    refine W_condS (by simp; rfl) (by rfl) (fun h3 => ?_) (fun h3 => ?_)
    · (try simp at h3)
      refine W_rseqK [4] (Runs.run tok hX (by simp; rfl)) ?_
      refine W_ret ?_
      refine W_retR (by simp; rfl) (.of_eq ?_) rfl
      (try simp at *) <;> cases x <;> cases y <;> simp_all
    · (try simp at h3)
      refine W_skip ?_
      refine W_seq ?_
      refine W_rseqK [2, 3, 19] (Runs.run tok hX (by simp; rfl)) ?_
      refine W_condS (by simp; rfl) (by rfl) (fun h5 => ?_) (fun h5 => ?_)
      · (try simp at h5)
        refine W_rseqK [4] (Runs.run tok hX (by simp; rfl)) ?_
        refine W_ret ?_
        refine W_retR (by simp; rfl) (.of_eq ?_) rfl
        (try simp at *) <;> cases x <;> cases y <;> simp_all
      · (try simp at h5)
        refine W_skip ?_
        refine W_seq ?_
        refine W_rseqK [2, 3, 24] (Runs.run tok hX (by simp; rfl)) ?_
        refine W_condS (by simp; rfl) (by rfl) (fun h7 => ?_) (fun h7 => ?_)
        · (try simp at h7)
          refine W_rseqK [4] (Runs.run tok hX (by simp; rfl)) ?_
          refine W_ret ?_
          refine W_retR (by simp; rfl) (.of_eq ?_) rfl
          (try simp at *) <;> cases x <;> cases y <;> simp_all
        · (try simp at h7)
          refine W_skip ?_
          refine W_seq ?_
          refine W_rseqK [29] (Runs.run tok hX (by simp; rfl)) ?_
          refine W_condS (by simp; rfl) (by rfl) (fun h9 => ?_) (fun h9 => ?_)
          · (try simp at h9)
            refine W_rseqK [4] (Runs.run tok hX (by simp; rfl)) ?_
            refine W_ret ?_
            refine W_retR (by simp; rfl) (.of_eq ?_) rfl
            (try simp at *) <;> cases x <;> cases y <;> simp_all
          · (try simp at h9)
            refine W_skip ?_
            refine W_rseqK [4] (Runs.run tok hX (by simp; rfl)) ?_
            refine W_ret ?_
            refine W_retR (by simp; rfl) (.of_eq ?_) rfl
            (try simp at *) <;> cases x <;> cases y <;> simp_all
end Go.Proofs
namespace Go.Proofs
open Go Go.Ev


theorem cb_laws_eqInsS : Callable Tryz.prog 133 := ⟨_, Tryz.func133, by kernel_rfl, by kernel_rfl⟩
set_option maxHeartbeats 2000000 in
set_option maxRecDepth 100000 in
theorem ct_laws_eqInsS {l1 l2 : List Ins} (q1 : l1.length < 4611686018427387904) (q2 : l2.length < 4611686018427387904) : Ct Tryz.prog 133 [.lst false 5 (l1.map eI), .lst false 5 (l2.map eI)] [] (.bool (decide (l1 = l2))) [] := by
  refine Ct_bodyS tok Tryz.func133 rfl 27 (by kernel_rfl) (by kernel_rfl) fun X hX => ?_
  refine W_rseqK [0, 1] (Runs.run tok hX (by simp; rfl)) ?_
  refine W_seq ?_
  refine W_rseqK [0, 1, 10] (Runs.run tok hX (by simp; rfl)) ?_
  refine W_condS (by simp; rfl) (by rfl) (fun h1 => ?_) (fun h1 => ?_)
  · (try simp at h1)
    replace h1 : ¬ l1.length = l2.length := by omega
    refine W_rseqK [4] (Runs.run tok hX (by simp; rfl)) ?_
    refine W_ret ?_
    refine W_retR (by simp; rfl) (.of_eq ?_) rfl
    have : ¬ l1 = l2 := fun e => h1 (by rw [e])
    simp [this]
  · (try simp at h1)
    replace h1 : l1.length = l2.length := by omega
    refine W_skip ?_
    refine W_seq ?_
    refine W_rseqK [0, 1, 5] (Runs.run tok hX (by simp; rfl)) ?_
    refine W_block ?_
    -- loop 0: live [0, 1, 5]
    refine W_loopU (α := Nat) [0, 1, 5] (fun i => [(5, .int .i64 i)]) (fun i => []) (fun i => i ≤ l1.length ∧ (l1.drop i = l2.drop i ↔ l1 = l2)) (fun i => l1.length - i) (0) (fun i => by simp; rfl) (by simp) ?_ ?_
    · simp
    rintro i ⟨hi, hI⟩
    refine W_seq ?_
    refine W_rseqK [0, 1, 5, 14] (Runs.run tok hX (by simp; rfl)) ?_
    refine W_condS (by simp; rfl) (by rfl) (fun h4 => ?_) (fun h4 => ?_)
    · (try simp at h4)
      have h4b : i < l1.length := by omega
      have h4c : i < l2.length := by omega
      rw [List.drop_eq_getElem_cons h4b, List.drop_eq_getElem_cons h4c, List.cons.injEq] at hI
      refine W_skip ?_
      refine W_seq ?_
      refine W_block ?_
      refine W_dseqK [0, 1, 5, 26] hmo (by kernel_rfl) (RunsQ.step (n0 := 0) 8 tok (by simp [h4, h4b, h4c]; rfl) (RunsQ.call rfl (by simp) rfl (by simp [h4, h4b, h4c]; rfl) (by apply ct_laws_eqIns <;> first | assumption | omega | exact hb1 _ (List.getElem_mem _) | exact hb2 _ (List.getElem_mem _)) cb_laws_eqIns rfl (RunsQ.run (n0 := 0) tok (by simp; rfl)))) ?_
      refine W_condS (by simp; rfl) (by rfl) (fun h6 => ?_) (fun h6 => ?_)
      · (try simp at h6)
        refine W_rseqK [4] (Runs.run tok hX (by simp; rfl)) ?_
        refine W_ret ?_
        refine W_retR (by simp [h4, h4b, h4c]; rfl) (.of_eq ?_) rfl
        simp_all
      · (try simp at h6)
        refine W_skip ?_
        refine W_reg (Runs.run tok hX (by simp; (try (simp (disch := omega) only [wrap_i64]; (try simp))); rfl)) ?_
        refine round_end (i + 1) [0, 1, 5] (by simp [h4, h4b, h4c]; try (simp (disch := omega) only [wrap_i64])) ?_ ?_
        · exact ⟨by omega, by simp_all⟩
        · omega
    · (try simp at h4)
      refine W_exit ?_
      refine W_rseqK [4] (Runs.run tok hX (by simp; rfl)) ?_
      refine W_ret ?_
      refine W_retR (by simp [h4]; rfl) (.of_eq ?_) rfl
      have : l1.drop i = [] := List.drop_eq_nil_of_le (by omega)
      have e2 : l2.drop i = [] := List.drop_eq_nil_of_le (by omega)
      simp_all
end Go.Proofs
namespace Go.Proofs
open Go Go.Ev


theorem cb_laws_eqHandler : Callable Tryz.prog 160 := ⟨_, Tryz.func160, by kernel_rfl, by kernel_rfl⟩
set_option maxHeartbeats 2000000 in
set_option maxRecDepth 100000 in
theorem ct_laws_eqHandler {x y : Hdl} : Ct Tryz.prog 160 [eH x, eH y] [] (.bool (decide (x = y))) [] := by
  refine Ct_bodyS tok Tryz.func160 rfl 25 (by kernel_rfl) (by kernel_rfl) fun X hX => ?_
  refine W_rseqK [2, 3] (Runs.run tok hX (by simp; rfl)) ?_
  refine W_seq ?_
  refine W_rseqK [2, 3, 9] (Runs.run tok hX (by simp; rfl)) ?_
  refine W_condS (by simp; rfl) (by rfl) (fun h1 => ?_) (fun h1 => ?_)
  · (try simp at h1)
    refine W_rseqK [4] (Runs.run tok hX (by simp; rfl)) ?_
    refine W_ret ?_
    refine W_retR (by simp; rfl) (.of_eq ?_) rfl
    (try simp at *) <;> cases x <;> cases y <;> simp_all
  · (try simp at h1)
    refine W_skip ?_
    refine W_seq ?_
    refine W_rseqK [2, 3, 14] (Runs.run tok hX (by simp; rfl)) ?_
    refine W_condS (by simp; rfl) (by rfl) (fun h3 => ?_) (fun h3 => ?_)
    · (try simp at h3)
      refine W_rseqK [4] (Runs.run tok hX (by simp; rfl)) ?_
      refine W_ret ?_
      refine W_retR (by simp; rfl) (.of_eq ?_) rfl
      (try simp at *) <;> cases x <;> cases y <;> simp_all
    · (try simp at h3)
      refine W_skip ?_
      refine W_seq ?_
      refine W_rseqK [2, 3, 19] (Runs.run tok hX (by simp; rfl)) ?_
      refine W_condS (by simp; rfl) (by rfl) (fun h5 => ?_) (fun h5 => ?_)
      · (try simp at h5)
        refine W_rseqK [4] (Runs.run tok hX (by simp; rfl)) ?_
        refine W_ret ?_
        refine W_retR (by simp; rfl) (.of_eq ?_) rfl
        (try simp at *) <;> cases x <;> cases y <;> simp_all
      · (try simp at h5)
        refine W_skip ?_
        refine W_seq ?_
        refine W_rseqK [24] (Runs.run tok hX (by simp; rfl)) ?_
        refine W_condS (by simp; rfl) (by rfl) (fun h7 => ?_) (fun h7 => ?_)
        · (try simp at h7)
          refine W_rseqK [4] (Runs.run tok hX (by simp; rfl)) ?_
          refine W_ret ?_
          refine W_retR (by simp; rfl) (.of_eq ?_) rfl
          (try simp at *) <;> cases x <;> cases y <;> simp_all
        · (try simp at h7)
          refine W_skip ?_
          refine W_rseqK [4] (Runs.run tok hX (by simp; rfl)) ?_
          refine W_ret ?_
          refine W_retR (by simp; rfl) (.of_eq ?_) rfl
          (try simp at *) <;> cases x <;> cases y <;> simp_all
end Go.Proofs
namespace Go.Proofs
open Go Go.Ev


theorem cb_laws_eqHandlerS : Callable Tryz.prog 134 := ⟨_, Tryz.func134, by kernel_rfl, by kernel_rfl⟩
set_option maxHeartbeats 2000000 in
set_option maxRecDepth 100000 in
theorem ct_laws_eqHandlerS {l1 l2 : List Hdl} (q1 : l1.length < 4611686018427387904) (q2 : l2.length < 4611686018427387904) : Ct Tryz.prog 134 [.lst false 4 (l1.map eH), .lst false 4 (l2.map eH)] [] (.bool (decide (l1 = l2))) [] := by
  refine Ct_bodyS tok Tryz.func134 rfl 27 (by kernel_rfl) (by kernel_rfl) fun X hX => ?_
  refine W_rseqK [0, 1] (Runs.run tok hX (by simp; rfl)) ?_
  refine W_seq ?_
  refine W_rseqK [0, 1, 10] (Runs.run tok hX (by simp; rfl)) ?_
  refine W_condS (by simp; rfl) (by rfl) (fun h1 => ?_) (fun h1 => ?_)
  · (try simp at h1)
    replace h1 : ¬ l1.length = l2.length := by omega
    refine W_rseqK [4] (Runs.run tok hX (by simp; rfl)) ?_
    refine W_ret ?_
    refine W_retR (by simp; rfl) (.of_eq ?_) rfl
    have : ¬ l1 = l2 := fun e => h1 (by rw [e])
    simp [this]
  · (try simp at h1)
    replace h1 : l1.length = l2.length := by omega
    refine W_skip ?_
    refine W_seq ?_
    refine W_rseqK [0, 1, 5] (Runs.run tok hX (by simp; rfl)) ?_
    refine W_block ?_
    -- loop 0: live [0, 1, 5]
    refine W_loopU (α := Nat) [0, 1, 5] (fun i => [(5, .int .i64 i)]) (fun i => []) (fun i => i ≤ l1.length ∧ (l1.drop i = l2.drop i ↔ l1 = l2)) (fun i => l1.length - i) (0) (fun i => by simp; rfl) (by simp) ?_ ?_
    · simp
    rintro i ⟨hi, hI⟩
    refine W_seq ?_
    refine W_rseqK [0, 1, 5, 14] (Runs.run tok hX (by simp; rfl)) ?_
    refine W_condS (by simp; rfl) (by rfl) (fun h4 => ?_) (fun h4 => ?_)
    · (try simp at h4)
      have h4b : i < l1.length := by omega
      have h4c : i < l2.length := by omega
      rw [List.drop_eq_getElem_cons h4b, List.drop_eq_getElem_cons h4c, List.cons.injEq] at hI
      refine W_skip ?_
      refine W_seq ?_
      refine W_block ?_
      refine W_dseqK [0, 1, 5, 26] hmo (by kernel_rfl) (RunsQ.step (n0 := 0) 8 tok (by simp [h4, h4b, h4c]; rfl) (RunsQ.call rfl (by simp) rfl (by simp [h4, h4b, h4c]; rfl) (by apply ct_laws_eqHandler <;> first | assumption | omega | exact hb1 _ (List.getElem_mem _) | exact hb2 _ (List.getElem_mem _)) cb_laws_eqHandler rfl (RunsQ.run (n0 := 0) tok (by simp; rfl)))) ?_
      refine W_condS (by simp; rfl) (by rfl) (fun h6 => ?_) (fun h6 => ?_)
      · (try simp at h6)
        refine W_rseqK [4] (Runs.run tok hX (by simp; rfl)) ?_
        refine W_ret ?_
        refine W_retR (by simp [h4, h4b, h4c]; rfl) (.of_eq ?_) rfl
        simp_all
      · (try simp at h6)
        refine W_skip ?_
        refine W_reg (Runs.run tok hX (by simp; (try (simp (disch := omega) only [wrap_i64]; (try simp))); rfl)) ?_
        refine round_end (i + 1) [0, 1, 5] (by simp [h4, h4b, h4c]; try (simp (disch := omega) only [wrap_i64])) ?_ ?_
        · exact ⟨by omega, by simp_all⟩
        · omega
    · (try simp at h4)
      refine W_exit ?_
      refine W_rseqK [4] (Runs.run tok hX (by simp; rfl)) ?_
      refine W_ret ?_
      refine W_retR (by simp [h4]; rfl) (.of_eq ?_) rfl
      have : l1.drop i = [] := List.drop_eq_nil_of_le (by omega)
      have e2 : l2.drop i = [] := List.drop_eq_nil_of_le (by omega)
      simp_all
end Go.Proofs
namespace Go.Proofs
open Go Go.Ev


theorem cb_laws_eqMethod : Callable Tryz.prog 108 := ⟨_, Tryz.func108, by kernel_rfl, by kernel_rfl⟩
set_option maxHeartbeats 2000000 in
set_option maxRecDepth 100000 in
theorem ct_laws_eqMethod {x y : Mth} (hx : bigM x) (hy : bigM y) : Ct Tryz.prog 108 [eM x, eM y] [] (.bool (decide (x = y))) [] := by
  simp only [bigM] at hx hy
  obtain ⟨p0, p1, p2, p3, p4, p5⟩ := hx
  obtain ⟨q0, q1, q2, q3, q4, q5⟩ := hy
  refine Ct_bodyS tok Tryz.func108 rfl 52 (by kernel_rfl) (by kernel_rfl) fun X hX => ?_
  refine W_rseqK [2, 3] (Runs.run tok hX (by simp; rfl)) ?_
  refine W_seq ?_
  refine W_rseqK [2, 3, 9] (Runs.run tok hX (by simp; rfl)) ?_
  refine W_condS (by simp; rfl) (by rfl) (fun h1 => ?_) (fun h1 => ?_)
  · (try simp at h1)
    refine W_rseqK [4] (Runs.run tok hX (by simp; rfl)) ?_
    refine W_ret ?_
    refine W_retR (by simp; rfl) (.of_eq ?_) rfl
    (try simp at *) <;> cases x <;> cases y <;> simp_all
  · (try simp at h1)
    refine W_skip ?_
    refine W_seq ?_
    refine W_rseqK [2, 3, 14] (Runs.run tok hX (by simp; rfl)) ?_
    refine W_condS (by simp; rfl) (by rfl) (fun h3 => ?_) (fun h3 => ?_)
    · (try simp at h3)
      refine W_rseqK [4] (Runs.run tok hX (by simp; rfl)) ?_
      refine W_ret ?_
      refine W_retR (by simp; rfl) (.of_eq ?_) rfl
      (try simp at *) <;> cases x <;> cases y <;> simp_all
    · (try simp at h3)
      refine W_skip ?_
      refine W_seq ?_
      refine W_rseqK [2, 3, 19] (Runs.run tok hX (by simp; rfl)) ?_
      refine W_condS (by simp; rfl) (by rfl) (fun h5 => ?_) (fun h5 => ?_)
      · (try simp at h5)
        refine W_rseqK [4] (Runs.run tok hX (by simp; rfl)) ?_
        refine W_ret ?_
        refine W_retR (by simp; rfl) (.of_eq ?_) rfl
        (try simp at *) <;> cases x <;> cases y <;> simp_all
      · (try simp at h5)
        refine W_skip ?_
        refine W_seq ?_
        refine W_rseqK [2, 3, 24] (Runs.run tok hX (by simp; rfl)) ?_
        refine W_condS (by simp; rfl) (by rfl) (fun h7 => ?_) (fun h7 => ?_)
        · (try simp at h7)
          refine W_rseqK [4] (Runs.run tok hX (by simp; rfl)) ?_
          refine W_ret ?_
          refine W_retR (by simp; rfl) (.of_eq ?_) rfl
          (try simp at *) <;> cases x <;> cases y <;> simp_all
        · (try simp at h7)
          refine W_skip ?_
          refine W_seq ?_
          refine W_rseqK [2, 3, 29] (Runs.run tok hX (by simp; rfl)) ?_
          refine W_condS (by simp; rfl) (by rfl) (fun h9 => ?_) (fun h9 => ?_)
          · (try simp at h9)
            refine W_rseqK [4] (Runs.run tok hX (by simp; rfl)) ?_
            refine W_ret ?_
            refine W_retR (by simp; rfl) (.of_eq ?_) rfl
            (try simp at *) <;> cases x <;> cases y <;> simp_all
          · (try simp at h9)
            refine W_skip ?_
            refine W_seq ?_
            refine W_rseqK [2, 3, 34] (Runs.run tok hX (by simp; rfl)) ?_
            refine W_condS (by simp; rfl) (by rfl) (fun h11 => ?_) (fun h11 => ?_)
            · (try simp at h11)
              refine W_rseqK [4] (Runs.run tok hX (by simp; rfl)) ?_
              refine W_ret ?_
              refine W_retR (by simp; rfl) (.of_eq ?_) rfl
              (try simp at *) <;> cases x <;> cases y <;> simp_all
            · (try simp at h11)
              refine W_skip ?_
              refine W_seq ?_
              refine W_rseqK [2, 3, 39] (Runs.run tok hX (by simp; rfl)) ?_
              refine W_condS (by simp; rfl) (by rfl) (fun h13 => ?_) (fun h13 => ?_)
              · (try simp at h13)
                refine W_rseqK [4] (Runs.run tok hX (by simp; rfl)) ?_
                refine W_ret ?_
                refine W_retR (by simp; rfl) (.of_eq ?_) rfl
                (try simp at *) <;> cases x <;> cases y <;> simp_all
              · (try simp at h13)
                refine W_skip ?_
                refine W_seq ?_
                refine W_rseqK [2, 3, 45] (Runs.step 4 tok hX (by simp; rfl) (Runs.call [] rfl (by simp) rfl (by simp; rfl) (by simp; rfl) (by apply ct_laws_eqInsS <;> first | assumption | omega) cb_laws_eqInsS (by simp) (by simp) (by simp; rfl) (Runs.run tok hX (by simp; rfl)))) ?_
                refine W_condS (by simp; rfl) (by rfl) (fun h15 => ?_) (fun h15 => ?_)
                · (try simp at h15)
                  refine W_rseqK [4] (Runs.run tok hX (by simp; rfl)) ?_
                  refine W_ret ?_
                  refine W_retR (by simp; rfl) (.of_eq ?_) rfl
                  (try simp at *) <;> cases x <;> cases y <;> simp_all
                · (try simp at h15)
                  refine W_skip ?_
                  refine W_seq ?_
                  refine W_rseqK [51] (Runs.step 4 tok hX (by simp; rfl) (Runs.call [] rfl (by simp) rfl (by simp; rfl) (by simp; rfl) (by apply ct_laws_eqHandlerS <;> first | assumption | omega) cb_laws_eqHandlerS (by simp) (by simp) (by simp; rfl) (Runs.run tok hX (by simp; rfl)))) ?_
                  refine W_condS (by simp; rfl) (by rfl) (fun h17 => ?_) (fun h17 => ?_)
                  · (try simp at h17)
                    refine W_rseqK [4] (Runs.run tok hX (by simp; rfl)) ?_
                    refine W_ret ?_
                    refine W_retR (by simp; rfl) (.of_eq ?_) rfl
                    (try simp at *) <;> cases x <;> cases y <;> simp_all
                  · (try simp at h17)
                    refine W_skip ?_
                    refine W_rseqK [4] (Runs.run tok hX (by simp; rfl)) ?_
                    refine W_ret ?_
                    refine W_retR (by simp; rfl) (.of_eq ?_) rfl
                    (try simp at *) <;> cases x <;> cases y <;> simp_all
end Go.Proofs
namespace Go.Proofs
open Go Go.Ev


theorem cb_laws_eqMethodS : Callable Tryz.prog 77 := ⟨_, Tryz.func77, by kernel_rfl, by kernel_rfl⟩
set_option maxHeartbeats 2000000 in
set_option maxRecDepth 100000 in
theorem ct_laws_eqMethodS {l1 l2 : List Mth} (q1 : l1.length < 4611686018427387904) (q2 : l2.length < 4611686018427387904) (hb1 : ∀ y ∈ l1, bigM y) (hb2 : ∀ y ∈ l2, bigM y) : Ct Tryz.prog 77 [.lst false 9 (l1.map eM), .lst false 9 (l2.map eM)] [] (.bool (decide (l1 = l2))) [] := by
  refine Ct_bodyS tok Tryz.func77 rfl 27 (by kernel_rfl) (by kernel_rfl) fun X hX => ?_
  refine W_rseqK [0, 1] (Runs.run tok hX (by simp; rfl)) ?_
  refine W_seq ?_
  refine W_rseqK [0, 1, 10] (Runs.run tok hX (by simp; rfl)) ?_
  refine W_condS (by simp; rfl) (by rfl) (fun h1 => ?_) (fun h1 => ?_)
  · (try simp at h1)
    replace h1 : ¬ l1.length = l2.length := by omega
    refine W_rseqK [4] (Runs.run tok hX (by simp; rfl)) ?_
    refine W_ret ?_
    refine W_retR (by simp; rfl) (.of_eq ?_) rfl
    have : ¬ l1 = l2 := fun e => h1 (by rw [e])
    simp [this]
  · (try simp at h1)
    replace h1 : l1.length = l2.length := by omega
    refine W_skip ?_
    refine W_seq ?_
    refine W_rseqK [0, 1, 5] (Runs.run tok hX (by simp; rfl)) ?_
    refine W_block ?_
    -- loop 0: live [0, 1, 5]
    refine W_loopU (α := Nat) [0, 1, 5] (fun i => [(5, .int .i64 i)]) (fun i => []) (fun i => i ≤ l1.length ∧ (l1.drop i = l2.drop i ↔ l1 = l2)) (fun i => l1.length - i) (0) (fun i => by simp; rfl) (by simp) ?_ ?_
    · simp
    rintro i ⟨hi, hI⟩
    refine W_seq ?_
    refine W_rseqK [0, 1, 5, 14] (Runs.run tok hX (by simp; rfl)) ?_
    refine W_condS (by simp; rfl) (by rfl) (fun h4 => ?_) (fun h4 => ?_)
    · (try simp at h4)
      have h4b : i < l1.length := by omega
      have h4c : i < l2.length := by omega
      rw [List.drop_eq_getElem_cons h4b, List.drop_eq_getElem_cons h4c, List.cons.injEq] at hI
      refine W_skip ?_
      refine W_seq ?_
      refine W_block ?_
      refine W_dseqK [0, 1, 5, 26] hmo (by kernel_rfl) (RunsQ.step (n0 := 0) 8 tok (by simp [h4, h4b, h4c]; rfl) (RunsQ.call rfl (by simp) rfl (by simp [h4, h4b, h4c]; rfl) (by apply ct_laws_eqMethod <;> first | assumption | omega | exact hb1 _ (List.getElem_mem _) | exact hb2 _ (List.getElem_mem _)) cb_laws_eqMethod rfl (RunsQ.run (n0 := 0) tok (by simp; rfl)))) ?_
      refine W_condS (by simp; rfl) (by rfl) (fun h6 => ?_) (fun h6 => ?_)
      · (try simp at h6)
        refine W_rseqK [4] (Runs.run tok hX (by simp; rfl)) ?_
        refine W_ret ?_
        refine W_retR (by simp [h4, h4b, h4c]; rfl) (.of_eq ?_) rfl
        simp_all
      · (try simp at h6)
        refine W_skip ?_
        refine W_reg (Runs.run tok hX (by simp; (try (simp (disch := omega) only [wrap_i64]; (try simp))); rfl)) ?_
        refine round_end (i + 1) [0, 1, 5] (by simp [h4, h4b, h4c]; try (simp (disch := omega) only [wrap_i64])) ?_ ?_
        · exact ⟨by omega, by simp_all⟩
        · omega
    · (try simp at h4)
      refine W_exit ?_
      refine W_rseqK [4] (Runs.run tok hX (by simp; rfl)) ?_
      refine W_ret ?_
      refine W_retR (by simp [h4]; rfl) (.of_eq ?_) rfl
      have : l1.drop i = [] := List.drop_eq_nil_of_le (by omega)
      have e2 : l2.drop i = [] := List.drop_eq_nil_of_le (by omega)
      simp_all
end Go.Proofs
namespace Go.Proofs
open Go Go.Ev


theorem cb_laws_eqClass : Callable Tryz.prog 46 := ⟨_, Tryz.func46, by kernel_rfl, by kernel_rfl⟩
set_option maxHeartbeats 2000000 in
set_option maxRecDepth 100000 in
theorem ct_laws_eqClass {x y : Cls} (hx : bigC x) (hy : bigC y) : Ct Tryz.prog 46 [eC x, eC y] [] (.bool (decide (x = y))) [] := by
  simp only [bigC] at hx hy
  obtain ⟨p0, p1, p2, p3, p4, p5⟩ := hx
  obtain ⟨q0, q1, q2, q3, q4, q5⟩ := hy
  refine Ct_bodyS tok Tryz.func46 rfl 37 (by kernel_rfl) (by kernel_rfl) fun X hX => ?_
  refine W_rseqK [2, 3] (Runs.run tok hX (by simp; rfl)) ?_
  refine W_seq ?_
  refine W_rseqK [2, 3, 9] (Runs.run tok hX (by simp; rfl)) ?_
  refine W_condS (by simp; rfl) (by rfl) (fun h1 => ?_) (fun h1 => ?_)
  · (try simp at h1)
    refine W_rseqK [4] (Runs.run tok hX (by simp; rfl)) ?_
    refine W_ret ?_
    refine W_retR (by simp; rfl) (.of_eq ?_) rfl
    (try simp at *) <;> cases x <;> cases y <;> simp_all
  · (try simp at h1)
    refine W_skip ?_
    refine W_seq ?_
    refine W_rseqK [2, 3, 14] (Runs.run tok hX (by simp; rfl)) ?_
    refine W_condS (by simp; rfl) (by rfl) (fun h3 => ?_) (fun h3 => ?_)
    · (try simp at h3)
      refine W_rseqK [4] (Runs.run tok hX (by simp; rfl)) ?_
      refine W_ret ?_
      refine W_retR (by simp; rfl) (.of_eq ?_) rfl
      (try simp at *) <;> cases x <;> cases y <;> simp_all
    · (try simp at h3)
      refine W_skip ?_
      refine W_seq ?_
      refine W_rseqK [2, 3, 19] (Runs.run tok hX (by simp; rfl)) ?_
      refine W_condS (by simp; rfl) (by rfl) (fun h5 => ?_) (fun h5 => ?_)
      · (try simp at h5)
        refine W_rseqK [4] (Runs.run tok hX (by simp; rfl)) ?_
        refine W_ret ?_
        refine W_retR (by simp; rfl) (.of_eq ?_) rfl
        (try simp at *) <;> cases x <;> cases y <;> simp_all
      · (try simp at h5)
        refine W_skip ?_
        refine W_seq ?_
        refine W_rseqK [2, 3, 24] (Runs.run tok hX (by simp; rfl)) ?_
        refine W_condS (by simp; rfl) (by rfl) (fun h7 => ?_) (fun h7 => ?_)
        · (try simp at h7)
          refine W_rseqK [4] (Runs.run tok hX (by simp; rfl)) ?_
          refine W_ret ?_
          refine W_retR (by simp; rfl) (.of_eq ?_) rfl
          (try simp at *) <;> cases x <;> cases y <;> simp_all
        · (try simp at h7)
          refine W_skip ?_
          refine W_seq ?_
          refine W_rseqK [2, 3, 30] (Runs.step 4 tok hX (by simp; rfl) (Runs.call [] rfl (by simp) rfl (by simp; rfl) (by simp; rfl) (by apply ct_laws_eqFieldS <;> first | assumption | omega) cb_laws_eqFieldS (by simp) (by simp) (by simp; rfl) (Runs.run tok hX (by simp; rfl)))) ?_
          refine W_condS (by simp; rfl) (by rfl) (fun h9 => ?_) (fun h9 => ?_)
          · (try simp at h9)
            refine W_rseqK [4] (Runs.run tok hX (by simp; rfl)) ?_
            refine W_ret ?_
            refine W_retR (by simp; rfl) (.of_eq ?_) rfl
            (try simp at *) <;> cases x <;> cases y <;> simp_all
          · (try simp at h9)
            refine W_skip ?_
            refine W_seq ?_
            refine W_rseqK [36] (Runs.step 4 tok hX (by simp; rfl) (Runs.call [] rfl (by simp) rfl (by simp; rfl) (by simp; rfl) (by apply ct_laws_eqMethodS <;> first | assumption | omega) cb_laws_eqMethodS (by simp) (by simp) (by simp; rfl) (Runs.run tok hX (by simp; rfl)))) ?_
            refine W_condS (by simp; rfl) (by rfl) (fun h11 => ?_) (fun h11 => ?_)
            · (try simp at h11)
              refine W_rseqK [4] (Runs.run tok hX (by simp; rfl)) ?_
              refine W_ret ?_
              refine W_retR (by simp; rfl) (.of_eq ?_) rfl
              (try simp at *) <;> cases x <;> cases y <;> simp_all
            · (try simp at h11)
              refine W_skip ?_
              refine W_rseqK [4] (Runs.run tok hX (by simp; rfl)) ?_
              refine W_ret ?_
              refine W_retR (by simp; rfl) (.of_eq ?_) rfl
              (try simp at *) <;> cases x <;> cases y <;> simp_all
end Go.Proofs
namespace Go.Proofs
open Go Go.Ev


theorem cb_laws_eqClassS : Callable Tryz.prog 19 := ⟨_, Tryz.func19, by kernel_rfl, by kernel_rfl⟩
set_option maxHeartbeats 2000000 in
set_option maxRecDepth 100000 in
theorem ct_laws_eqClassS {l1 l2 : List Cls} (q1 : l1.length < 4611686018427387904) (q2 : l2.length < 4611686018427387904) (hb1 : ∀ y ∈ l1, bigC y) (hb2 : ∀ y ∈ l2, bigC y) : Ct Tryz.prog 19 [.lst false 6 (l1.map eC), .lst false 6 (l2.map eC)] [] (.bool (decide (l1 = l2))) [] := by
  refine Ct_bodyS tok Tryz.func19 rfl 27 (by kernel_rfl) (by kernel_rfl) fun X hX => ?_
  refine W_rseqK [0, 1] (Runs.run tok hX (by simp; rfl)) ?_
  refine W_seq ?_
  refine W_rseqK [0, 1, 10] (Runs.run tok hX (by simp; rfl)) ?_
  refine W_condS (by simp; rfl) (by rfl) (fun h1 => ?_) (fun h1 => ?_)
  · (try simp at h1)
    replace h1 : ¬ l1.length = l2.length := by omega
    refine W_rseqK [4] (Runs.run tok hX (by simp; rfl)) ?_
    refine W_ret ?_
    refine W_retR (by simp; rfl) (.of_eq ?_) rfl
    have : ¬ l1 = l2 := fun e => h1 (by rw [e])
    simp [this]
  · (try simp at h1)
    replace h1 : l1.length = l2.length := by omega
    refine W_skip ?_
    refine W_seq ?_
    refine W_rseqK [0, 1, 5] (Runs.run tok hX (by simp; rfl)) ?_
    refine W_block ?_
    -- loop 0: live [0, 1, 5]
    refine W_loopU (α := Nat) [0, 1, 5] (fun i => [(5, .int .i64 i)]) (fun i => []) (fun i => i ≤ l1.length ∧ (l1.drop i = l2.drop i ↔ l1 = l2)) (fun i => l1.length - i) (0) (fun i => by simp; rfl) (by simp) ?_ ?_
    · simp
    rintro i ⟨hi, hI⟩
    refine W_seq ?_
    refine W_rseqK [0, 1, 5, 14] (Runs.run tok hX (by simp; rfl)) ?_
    refine W_condS (by simp; rfl) (by rfl) (fun h4 => ?_) (fun h4 => ?_)
    · (try simp at h4)
      have h4b : i < l1.length := by omega
      have h4c : i < l2.length := by omega
      rw [List.drop_eq_getElem_cons h4b, List.drop_eq_getElem_cons h4c, List.cons.injEq] at hI
      refine W_skip ?_
      refine W_seq ?_
      refine W_block ?_
      refine W_dseqK [0, 1, 5, 26] hmo (by kernel_rfl) (RunsQ.step (n0 := 0) 8 tok (by simp [h4, h4b, h4c]; rfl) (RunsQ.call rfl (by simp) rfl (by simp [h4, h4b, h4c]; rfl) (by apply ct_laws_eqClass <;> first | assumption | omega | exact hb1 _ (List.getElem_mem _) | exact hb2 _ (List.getElem_mem _)) cb_laws_eqClass rfl (RunsQ.run (n0 := 0) tok (by simp; rfl)))) ?_
      refine W_condS (by simp; rfl) (by rfl) (fun h6 => ?_) (fun h6 => ?_)
      · (try simp at h6)
        refine W_rseqK [4] (Runs.run tok hX (by simp; rfl)) ?_
        refine W_ret ?_
        refine W_retR (by simp [h4, h4b, h4c]; rfl) (.of_eq ?_) rfl
        simp_all
      · (try simp at h6)
        refine W_skip ?_
        refine W_reg (Runs.run tok hX (by simp; (try (simp (disch := omega) only [wrap_i64]; (try simp))); rfl)) ?_
        refine round_end (i + 1) [0, 1, 5] (by simp [h4, h4b, h4c]; try (simp (disch := omega) only [wrap_i64])) ?_ ?_
        · exact ⟨by omega, by simp_all⟩
        · omega
    · (try simp at h4)
      refine W_exit ?_
      refine W_rseqK [4] (Runs.run tok hX (by simp; rfl)) ?_
      refine W_ret ?_
      refine W_retR (by simp [h4]; rfl) (.of_eq ?_) rfl
      have : l1.drop i = [] := List.drop_eq_nil_of_le (by omega)
      have e2 : l2.drop i = [] := List.drop_eq_nil_of_le (by omega)
      simp_all
end Go.Proofs
namespace Go.Proofs
open Go Go.Ev


theorem cb_spec_BuiltIn : Callable Tryz.prog 81 := ⟨_, Tryz.func81, by kernel_rfl, by kernel_rfl⟩
set_option maxHeartbeats 2000000 in
set_option maxRecDepth 100000 in
theorem ct_spec_BuiltIn  : Ct Tryz.prog 81 [] [] (.lst true 1 (builtIn.map V.str)) [] := by
  refine Ct_bodyS tok Tryz.func81 rfl 2 (by kernel_rfl) (by kernel_rfl) fun X hX => ?_
  refine W_rseqK [] (Runs.run tok hX (by simp; rfl)) ?_
  refine W_rseqK [0] (Runs.run tok hX (by simp; rfl)) ?_
  refine W_ret ?_
  refine W_retR (by simp; rfl) (.of_eq ?_) rfl
  simp [builtIn]
end Go.Proofs
namespace Go.Proofs
open Go Go.Ev


theorem cb_spec_l05Built : Callable Tryz.prog 48 := ⟨_, Tryz.func48, by kernel_rfl, by kernel_rfl⟩
set_option maxHeartbeats 2000000 in
set_option maxRecDepth 100000 in
theorem ct_spec_l05Built {n : Str} : Ct Tryz.prog 48 [.str n] [] (.int .i64 (builtIx n)) [] := by
  have hbl := builtIn_length
  refine Ct_bodyS tok Tryz.func48 rfl 19 (by kernel_rfl) (by kernel_rfl) fun X hX => ?_
  refine W_rseqK [0] (Runs.run tok hX (by simp; rfl)) ?_
  refine W_rseqK [0, 3] (Runs.call [] rfl (by simp) rfl (by simp; rfl) (by simp; rfl) (by apply ct_spec_BuiltIn <;> first | assumption | omega | (simp at *; omega) | simp_all) cb_spec_BuiltIn (by simp) (by simp) (by simp; rfl) (Runs.run tok hX (by simp; rfl))) ?_
  refine W_seq ?_
  refine W_rseqK [0, 3, 4] (Runs.run tok hX (by simp; rfl)) ?_
  refine W_block ?_
  -- loop 0: live [0, 3, 4]
  refine W_loopU (α := Nat) [0, 3, 4] (fun i => [(4, .int .i64 i)]) (fun i => []) (fun i => i ≤ 8 ∧ ixFrom n (builtIn.drop i) i = builtIx n) (fun i => 8 - i) (0) (fun i => by simp; rfl) (by simp) ?_ ?_
  · simp [builtIx]
  rintro i ⟨hi, hI⟩
  refine W_seq ?_
  refine W_rseqK [0, 3, 4, 9] (Runs.run tok hX (by simp; rfl)) ?_
  refine W_condS (by simp; rfl) (by rfl) (fun h3 => ?_) (fun h3 => ?_)
  · (try simp at h3)
    rw [List.drop_eq_getElem_cons h3] at hI
    simp only [ixFrom] at hI
    refine W_skip ?_
    refine W_seq ?_
    refine W_block ?_
    refine W_rseqK [0, 3, 4, 17] (Runs.run tok hX (by simp [h3]; rfl)) ?_
    refine W_condS (by simp; rfl) (by rfl) (fun h5 => ?_) (fun h5 => ?_)
    · (try simp at h5)
      refine W_rseqK [2] (Runs.run tok hX (by simp; rfl)) ?_
      refine W_ret ?_
      refine W_retR (by simp [h3]; rfl) (.of_eq ?_) rfl
      simp [← hI, h5]
    · (try simp at h5)
      refine W_skip ?_
      refine W_reg (Runs.run tok hX (by simp; (try (simp (disch := omega) only [wrap_i64]; (try simp))); rfl)) ?_
      refine round_end (i + 1) [0, 3, 4] (by simp [h3]; try (simp (disch := omega) only [wrap_i64])) ?_ ?_
      · exact ⟨by omega, by simp [← hI, h5]⟩
      · omega
  · (try simp at h3)
    refine W_exit ?_
    refine W_rseqK [2] (Runs.run tok hX (by simp; rfl)) ?_
    refine W_ret ?_
    refine W_retR (by simp [h3]; rfl) (.of_eq ?_) rfl
    simp [← hI, List.drop_eq_nil_of_le h3, ixFrom]
end Go.Proofs
namespace Go.Proofs
open Go Go.Ev


theorem cb_spec_l05Find : Callable Tryz.prog 49 := ⟨_, Tryz.func49, by kernel_rfl, by kernel_rfl⟩
set_option maxHeartbeats 2000000 in
set_option maxRecDepth 100000 in
theorem ct_spec_l05Find {l : List Cls} {n : Str} (hl : l.length ≤ 1099511627776) : Ct Tryz.prog 49 [.lst false 6 (l.map eC), .str n] [] (.int .i64 (findFrom n l 0)) [] := by
  refine Ct_bodyS tok Tryz.func49 rfl 20 (by kernel_rfl) (by kernel_rfl) fun X hX => ?_
  refine W_rseqK [0, 1] (Runs.run tok hX (by simp; rfl)) ?_
  refine W_seq ?_
  refine W_rseqK [0, 1, 5] (Runs.run tok hX (by simp; rfl)) ?_
  refine W_block ?_
  -- loop 0: live [0, 1, 5]
  refine W_loopU (α := Nat) [0, 1, 5] (fun i => [(5, .int .i64 i)]) (fun i => []) (fun i => i ≤ l.length ∧ findFrom n (l.drop i) i = findFrom n l 0) (fun i => l.length - i) (0) (fun i => by simp; rfl) (by simp) ?_ ?_
  · simp
  rintro i ⟨hi, hI⟩
  refine W_seq ?_
  refine W_rseqK [0, 1, 5, 9] (Runs.run tok hX (by simp; rfl)) ?_
  refine W_condS (by simp; rfl) (by rfl) (fun h2 => ?_) (fun h2 => ?_)
  · (try simp at h2)
    rw [List.drop_eq_getElem_cons h2] at hI
    simp only [findFrom] at hI
    refine W_skip ?_
    refine W_seq ?_
    refine W_block ?_
    refine W_rseqK [0, 1, 5, 18] (Runs.run tok hX (by simp [h2]; rfl)) ?_
    refine W_condS (by simp; rfl) (by rfl) (fun h4 => ?_) (fun h4 => ?_)
    · (try simp at h4)
      refine W_rseqK [4] (Runs.run tok hX (by simp; rfl)) ?_
      refine W_ret ?_
      refine W_retR (by simp [h2]; rfl) (.of_eq ?_) rfl
      simp [← hI, h4]
    · (try simp at h4)
      refine W_skip ?_
      refine W_reg (Runs.run tok hX (by simp; (try (simp (disch := omega) only [wrap_i64]; (try simp))); rfl)) ?_
      refine round_end (i + 1) [0, 1, 5] (by simp [h2]; try (simp (disch := omega) only [wrap_i64])) ?_ ?_
      · exact ⟨by omega, by simp [← hI, h4]⟩
      · omega
  · (try simp at h2)
    refine W_exit ?_
    refine W_rseqK [4] (Runs.run tok hX (by simp; rfl)) ?_
    refine W_ret ?_
    refine W_retR (by simp [h2]; rfl) (.of_eq ?_) rfl
    simp [← hI, List.drop_eq_nil_of_le h2, findFrom]
end Go.Proofs
namespace Go.Proofs
open Go Go.Ev


theorem cb_spec_l05Known : Callable Tryz.prog 42 := ⟨_, Tryz.func42, by kernel_rfl, by kernel_rfl⟩
set_option maxHeartbeats 2000000 in
set_option maxRecDepth 100000 in
theorem ct_spec_l05Known {l : List Cls} {n : Str} (hl : l.length ≤ 1099511627776) : Ct Tryz.prog 42 [.lst false 6 (l.map eC), .str n] [] (.bool (isKnown l n)) [] := by
  refine Ct_bodyS tok Tryz.func42 rfl 14 (by kernel_rfl) (by kernel_rfl) fun X hX => ?_
  refine W_rseqK [0, 1] (Runs.run tok hX (by simp; rfl)) ?_
  refine W_rseqK [4] (Runs.step 1 tok hX (by simp; rfl) (Runs.call [] rfl (by simp) rfl (by simp; rfl) (by simp; rfl) (by apply ct_spec_l05Built <;> first | assumption | omega | (simp at *; omega) | simp_all) cb_spec_l05Built (by simp) (by simp) (by simp; rfl) (Runs.step 2 tok hX (by simp; rfl) (Runs.mrgS 5 8 [13] (by simp; rfl) (by rfl) (fun b1_4 => by (try simp at b1_4); exact (Runs.run tok hX (by simp [-atD_lt, -atL_lt]; rfl))) (fun b1_4 => by (try simp at b1_4); exact (Runs.step 2 tok hX (by simp [-atD_lt, -atL_lt]; rfl) (Runs.call [] rfl (by simp) rfl (by simp [-atD_lt, -atL_lt, b1_4]; rfl) (by simp; rfl) (by apply ct_spec_l05Find <;> first | assumption | omega | (simp at *; omega) | simp_all) cb_spec_l05Find (by simp) (by simp) (by simp [-atD_lt, -atL_lt, b1_4]; rfl) (Runs.run tok hX (by simp [-atD_lt, -atL_lt]; rfl))))) (by rfl) (by rfl) (Runs.run tok hX (by simp; rfl)))))) ?_
  refine W_ret ?_
  refine W_retR (by simp; rfl) (.of_eq ?_) rfl
  (try simp_all [isKnown])
end Go.Proofs
namespace Go.Proofs
open Go Go.Ev


theorem cb_spec_l01NameByte : Callable Tryz.prog 109 := ⟨_, Tryz.func109, by kernel_rfl, by kernel_rfl⟩
set_option maxHeartbeats 2000000 in
set_option maxRecDepth 100000 in
theorem ct_spec_l01NameByte {c : UInt8} {f : Bool} : Ct Tryz.prog 109 [.int .u8 c.toNat, .bool f] [] (.bool (nameByte c f)) [] := by
  refine Ct_bodyS tok Tryz.func109 rfl 33 (by kernel_rfl) (by kernel_rfl) fun X hX => ?_
  refine W_rseqK [0, 1] (Runs.run tok hX (by simp; rfl)) ?_
  refine W_seq ?_
  refine W_rseqK [0, 1, 22] (Runs.step 3 tok hX (by simp; rfl) (Runs.mrgS 3 7 [0, 1, 10] (by simp; rfl) (by rfl) (fun b1_3 => by (try simp at b1_3); exact (Runs.run tok hX (by simp [-atD_lt, -atL_lt]; rfl))) (fun b1_3 => by (try simp at b1_3); exact (Runs.run tok hX (by simp [-atD_lt, -atL_lt]; rfl))) (by rfl) (by rfl) (Runs.step 1 tok hX (by simp; rfl) (Runs.mrgS 7 11 [0, 1, 18] (by simp; rfl) (by rfl) (fun b1_7 => by (try simp at b1_7); exact (Runs.run tok hX (by simp [-atD_lt, -atL_lt]; rfl))) (fun b1_7 => by (try simp at b1_7); exact (Runs.step 3 tok hX (by simp [-atD_lt, -atL_lt]; rfl) (Runs.mrgS 3 14 [0, 1, 11, 17] (by simp; rfl) (by rfl) (fun b1_10 => by (try simp at b1_10); exact (Runs.run tok hX (by simp [-atD_lt, -atL_lt]; rfl))) (fun b1_10 => by (try simp at b1_10); exact (Runs.run tok hX (by simp [-atD_lt, -atL_lt]; rfl))) (by rfl) (by rfl) (Runs.run tok hX (by simp [-atD_lt, -atL_lt]; rfl))))) (by rfl) (by rfl) (Runs.step 1 tok hX (by simp; rfl) (Runs.mrgS 3 19 [0, 1, 22] (by simp; rfl) (by rfl) (fun b1_15 => by (try simp at b1_15); exact (Runs.run tok hX (by simp [-atD_lt, -atL_lt]; rfl))) (fun b1_15 => by (try simp at b1_15); exact (Runs.run tok hX (by simp [-atD_lt, -atL_lt]; rfl))) (by rfl) (by rfl) (Runs.fin (by (try simp); rfl)))))))) ?_
  refine W_condS (by simp; rfl) (by rfl) (fun h1 => ?_) (fun h1 => ?_)
  · (try simp at h1)
    refine W_rseqK [4] (Runs.run tok hX (by simp; rfl)) ?_
    refine W_ret ?_
    refine W_retR (by simp [h1]; rfl) (.of_eq ?_) rfl
    (try simp_all [nameByte]) <;> grind [nameByte]
  · (try simp at h1)
    refine W_skip ?_
    refine W_rseqK [4] (Runs.step 3 tok hX (by simp; rfl) (Runs.mrgS 3 25 [0, 28] (by simp; rfl) (by rfl) (fun b3_3 => by (try simp at b3_3); exact (Runs.run tok hX (by simp [-atD_lt, -atL_lt]; rfl))) (fun b3_3 => by (try simp at b3_3); exact (Runs.run tok hX (by simp [-atD_lt, -atL_lt]; rfl))) (by rfl) (by rfl) (Runs.step 1 tok hX (by simp; rfl) (Runs.mrgS 3 29 [32] (by simp; rfl) (by rfl) (fun b3_7 => by (try simp at b3_7); exact (Runs.run tok hX (by simp [-atD_lt, -atL_lt]; rfl))) (fun b3_7 => by (try simp at b3_7); exact (Runs.run tok hX (by simp [-atD_lt, -atL_lt]; rfl))) (by rfl) (by rfl) (Runs.run tok hX (by simp; rfl)))))) ?_
    refine W_ret ?_
    refine W_retR (by simp [h1]; rfl) (.of_eq ?_) rfl
    (try simp_all [nameByte]) <;> grind [nameByte]
end Go.Proofs
namespace Go.Proofs
open Go Go.Ev


theorem cb_spec_NameRight : Callable Tryz.prog 78 := ⟨_, Tryz.func78, by kernel_rfl, by kernel_rfl⟩
set_option maxHeartbeats 2000000 in
set_option maxRecDepth 100000 in
theorem ct_spec_NameRight {t : Str} (ht : t.length ≤ 1099511627776) : Ct Tryz.prog 78 [.str t] [] (.bool (nameRight t)) [] := by
  refine Ct_bodyS tok Tryz.func78 rfl 25 (by kernel_rfl) (by kernel_rfl) fun X hX => ?_
  refine W_rseqK [0] (Runs.run tok hX (by simp; rfl)) ?_
  refine W_seq ?_
  refine W_rseqK [0, 11] (Runs.step 4 tok hX (by simp; rfl) (Runs.mrgS 4 7 [0, 11] (by simp; rfl) (by rfl) (fun b1_4 => by (try simp at b1_4); exact (Runs.run tok hX (by simp [-atD_lt, -atL_lt]; rfl))) (fun b1_4 => by (try simp at b1_4); exact (Runs.run tok hX (by simp [-atD_lt, -atL_lt, b1_4]; rfl))) (by rfl) (by rfl) (Runs.fin (by (try simp); rfl)))) ?_
  refine W_condS (by simp; rfl) (by rfl) (fun h1 => ?_) (fun h1 => ?_)
  · (try simp at h1)
    refine W_rseqK [2] (Runs.run tok hX (by simp; rfl)) ?_
    refine W_ret ?_
    refine W_retR (by simp [h1]; rfl) (.of_eq ?_) rfl
    grind [nameRight]
  · (try simp at h1)
    refine W_skip ?_
    refine W_seq ?_
    refine W_rseqK [0, 3] (Runs.run tok hX (by simp; rfl)) ?_
    refine W_block ?_
    -- loop 0: live [0, 3]
    refine W_loopU (α := Nat) [0, 3] (fun i => [(3, .int .i64 i)]) (fun i => []) (fun i => i ≤ t.length ∧ nameFrom (decide (i = 0)) (t.drop i) = nameFrom true t) (fun i => t.length - i) (0) (fun i => by simp; rfl) (by simp) ?_ ?_
    · simp
    rintro i ⟨hi, hI⟩
    refine W_seq ?_
    refine W_rseqK [0, 3, 15] (Runs.run tok hX (by simp [h1]; rfl)) ?_
    refine W_condS (by simp; rfl) (by rfl) (fun h4 => ?_) (fun h4 => ?_)
    · (try simp at h4)
      rw [List.drop_eq_getElem_cons h4] at hI
      simp only [nameFrom] at hI
      refine W_skip ?_
      refine W_seq ?_
      refine W_block ?_
      refine W_rseqK [0, 3, 24] (Runs.step 5 tok hX (by simp [h1, h4]; rfl) (Runs.call [] rfl (by simp) rfl (by simp [h1, h4]; rfl) (by simp; rfl) (by apply ct_spec_l01NameByte <;> first | assumption | omega | (simp at *; omega) | simp_all) cb_spec_l01NameByte (by simp) (by simp) (by simp [h1, h4]; rfl) (Runs.run tok hX (by simp; rfl)))) ?_
      refine W_condS (by simp; rfl) (by rfl) (fun h6 => ?_) (fun h6 => ?_)
      · (try simp at h6)
        refine W_rseqK [2] (Runs.run tok hX (by simp; rfl)) ?_
        refine W_ret ?_
        refine W_retR (by simp [h1, h4]; rfl) (.of_eq ?_) rfl
        grind [nameRight]
      · (try simp at h6)
        refine W_skip ?_
        refine W_reg (Runs.run tok hX (by simp; (try (simp (disch := omega) only [wrap_i64]; (try simp))); rfl)) ?_
        refine round_end (i + 1) [0, 3] (by simp [h1, h4]; try (simp (disch := omega) only [wrap_i64])) ?_ ?_
        · exact ⟨by omega, by simp_all⟩
        · omega
    · (try simp at h4)
      rw [List.drop_eq_nil_of_le h4] at hI
      simp only [nameFrom] at hI
      refine W_exit ?_
      refine W_rseqK [2] (Runs.run tok hX (by simp; rfl)) ?_
      refine W_ret ?_
      refine W_retR (by simp [h1, h4]; rfl) (.of_eq ?_) rfl
      grind [nameRight]
end Go.Proofs
namespace Go.Proofs
open Go Go.Ev


theorem cb_spec_l02Type : Callable Tryz.prog 110 := ⟨_, Tryz.func110, by kernel_rfl, by kernel_rfl⟩
set_option maxHeartbeats 2000000 in
set_option maxRecDepth 100000 in
theorem ct_spec_l02Type_t {t : Str} {p : Nat} (ht : t.length ≤ 1099511627776) (hp : p ≤ t.length) : Ct Tryz.prog 110 [.str t, .int .i64 p, .bool true] [] (.tup [.int .i64 (tyP1 t p).1, .bool (tyP1 t p).2]) [] := by
  refine Ct_bodyS tok Tryz.func110 rfl 85 (by kernel_rfl) (by kernel_rfl) fun X hX => ?_
  refine W_rseqK [0, 1, 2] (Runs.run tok hX (by simp; rfl)) ?_
  refine W_seq ?_
  refine W_rseqK [0, 1, 2, 13] (Runs.run tok hX (by simp; rfl)) ?_
  refine W_condS (by simp; rfl) (by rfl) (fun h1 => ?_) (fun h1 => ?_)
  · (try simp at h1)
    refine W_rseqK [6, 7] (Runs.run tok hX (by simp; rfl)) ?_
    refine W_ret ?_
    refine W_retR (by simp [h1]; rfl) (.of_eq ?_) rfl
    simp_all [tyP, tyP1, nmP, isAt_lt, isAt_ge]
  · (try simp at h1)
    refine W_skip ?_
    refine W_seq ?_
    refine W_block ?_
    refine W_rseqK [0, 1, 2, 15] (Runs.run tok hX (by simp [h1]; rfl)) ?_
    refine W_condS (by simp; rfl) (by rfl) (fun h3 => ?_) (fun h3 => ?_)
    · (try simp at h3)
      refine W_rseqK [6, 7] (Runs.run tok hX (by simp; (try (simp (disch := omega) only [wrap_i64]; (try simp))); rfl)) ?_
      refine W_ret ?_
      refine W_retR (by simp [h1]; rfl) (.of_eq ?_) rfl
      simp_all [tyP, tyP1, nmP, isAt_lt, isAt_ge]
    · (try simp at h3)
      refine W_rseqK [0, 1, 22] (Runs.step 5 tok hX (by simp [h1]; rfl) (Runs.mrgS 3 27 [0, 1, 30] (by simp; rfl) (by rfl) (fun b5_5 => by (try simp at b5_5); exact (Runs.run tok hX (by simp [-atD_lt, -atL_lt]; rfl))) (fun b5_5 => by (try simp at b5_5); exact (Runs.run tok hX (by simp [-atD_lt, -atL_lt]; rfl))) (by rfl) (by rfl) (Runs.run tok hX (by simp; rfl)))) ?_
      refine W_condS (by simp; rfl) (by rfl) (fun h5 => ?_) (fun h5 => ?_)
      · (try simp at h5)
        --done
      · (try simp at h5)
        refine W_rseqK [0, 1, 37] (Runs.run tok hX (by simp [h1]; rfl)) ?_
        refine W_condS (by simp; rfl) (by rfl) (fun h7 => ?_) (fun h7 => ?_)
        · (try simp at h7)
          refine W_rseqK [0, 8] (Runs.run tok hX (by simp; (try (simp (disch := omega) only [wrap_i64]; (try simp))); rfl)) ?_
          refine W_rseqK [0, 8, 9] (Runs.run tok hX (by simp; rfl)) ?_
          refine W_seq ?_
          refine W_block ?_
          -- loop 0: live [0, 8, 9]
          refine W_loopU (α := Nat) [0, 8, 9] (fun i => [(9, .int .i64 i)]) (fun i => []) (fun i => p + 1 ≤ i ∧ i ≤ t.length ∧ i - (p + 1) ≤ 20 ∧ i + nameRun (20 - (i - (p + 1))) (decide (i = p + 1)) (t.drop i) = p + 1 + nameRun 20 true (t.drop (p + 1))) (fun i => t.length - i) (p + 1) (fun i => by simp; rfl) (by simp) ?_ ?_
          · simp; omega
          rintro i ⟨h0i, hi, hn, hI⟩
          refine W_seq ?_
          refine W_rseqK [0, 8, 9, 63] (Runs.step 5 tok hX (by simp [h1]; rfl) (Runs.mrgS 5 49 [0, 8, 9, 54] (by simp; rfl) (by rfl) (fun b10_5 => by (try simp at b10_5); exact (Runs.run tok hX (by simp [-atD_lt, -atL_lt]; (try (simp (disch := omega) only [wrap_i64]; (try simp [-atD_lt, -atL_lt]))); rfl))) (fun b10_5 => by (try simp at b10_5); exact (Runs.run tok hX (by simp [-atD_lt, -atL_lt]; rfl))) (by rfl) (by rfl) (Runs.step 1 tok hX (by simp; rfl) (Runs.mrgS 8 55 [0, 8, 9, 63] (by simp; rfl) (by rfl) (fun b10_11 => by (try simp at b10_11); exact (Runs.step 6 tok hX (by simp [-atD_lt, -atL_lt, h1, b10_11]; rfl) (Runs.call [] rfl (by simp) rfl (by simp [-atD_lt, -atL_lt, h1, b10_11]; rfl) (by simp; rfl) (by apply ct_spec_l01NameByte <;> first | assumption | omega | (simp at *; omega) | simp_all) cb_spec_l01NameByte (by simp) (by simp) (by simp [-atD_lt, -atL_lt, h1, b10_11]; rfl) (Runs.run tok hX (by simp [-atD_lt, -atL_lt]; rfl))))) (fun b10_11 => by (try simp at b10_11); exact (Runs.run tok hX (by simp [-atD_lt, -atL_lt]; rfl))) (by rfl) (by rfl) (Runs.fin (by (try simp); rfl)))))) ?_
          have hge : t.length ≤ i → nameRun (20 - (i - (p + 1))) (decide (i = p + 1)) (t.drop i) = 0 := fun h => by rw [List.drop_eq_nil_of_le h]; simp [nameRun]
          have hg2 : i - (p + 1) = 20 → nameRun (20 - (i - (p + 1))) (decide (i = p + 1)) (t.drop i) = 0 := fun h => by rw [h]; simp [nameRun]
          have hg3 := fun h1 h2 => @drop_nameRun t i (p + 1) h1 h2 h0i
          refine W_condS (by simp; rfl) (by rfl) (fun h10 => ?_) (fun h10 => ?_)
          · (try simp at h10)
            have ⟨⟨h10a, h10b⟩, h10c⟩ := h10
            rw [atD_lt h10a] at h10c
            rw [hg3 h10a (by omega), if_pos h10c] at hI
            refine W_skip ?_
            refine W_block ?_
            refine W_reg (Runs.run tok hX (by simp; (try (simp (disch := omega) only [wrap_i64]; (try simp))); rfl)) ?_
            refine round_end (i + 1) [0, 8, 9] (by simp [h1, h10]; try (simp (disch := omega) only [wrap_i64])) ?_ ?_
            · exact ⟨by omega, by omega, by omega, by omega⟩
            · omega
          · (try simp at h10)
            have hI2 : i = p + 1 + nameRun 20 true (t.drop (p + 1)) := by
              rcases Nat.lt_or_ge i t.length with hl | hl
              · by_cases hk : i - (p + 1) = 20
                · have := hg2 hk; omega
                · rw [hg3 hl (by omega)] at hI
                  have : nameByte t[i] (decide (i = p + 1)) = false := by
                    rw [← atD_lt hl]; exact h10 hl (by omega)
                  rw [this] at hI; simpa using hI
              · have := hge hl; omega
            have hnm : nmP t (p + 1) = if (isAt t i 59 && !decide (i = p + 1)) then (i + 1, true) else (i, false) := by simp only [nmP, ← hI2]
            have hty : tyP1 t p = nmP t (p + 1) := by simp [tyP1, isAt_lt h1, h3, h7]
            clear hI hI2 hg2 hg3 hge
            refine W_exit ?_
            refine W_seq ?_
            refine W_rseqK [9, 80] (Runs.step 5 tok hX (by simp [h1, h10]; rfl) (Runs.mrgS 5 70 [8, 9, 75] (by simp; rfl) (by rfl) (fun b12_5 => by (try simp at b12_5); exact (Runs.run tok hX (by simp [-atD_lt, -atL_lt]; rfl))) (fun b12_5 => by (try simp at b12_5); (have hlt : i < t.length := by omega); exact (Runs.run tok hX (by simp [-atD_lt, -atL_lt, h1, h10, hlt]; rfl))) (by rfl) (by rfl) (Runs.step 1 tok hX (by simp; rfl) (Runs.mrgS 4 76 [9, 80] (by simp; rfl) (by rfl) (fun b12_11 => by (try simp at b12_11); exact (Runs.run tok hX (by simp [-atD_lt, -atL_lt]; rfl))) (fun b12_11 => by (try simp at b12_11); exact (Runs.run tok hX (by simp [-atD_lt, -atL_lt]; rfl))) (by rfl) (by rfl) (Runs.fin (by (try simp); rfl)))))) ?_
            refine W_condS (by simp; rfl) (by rfl) (fun h12 => ?_) (fun h12 => ?_)
            · (try simp at h12)
              refine W_rseqK [6, 7] (Runs.run tok hX (by simp; rfl)) ?_
              refine W_ret ?_
              refine W_retR (by simp [h1, h10]; rfl) (.of_eq ?_) rfl
              rw [hty, hnm]
              have : (isAt t i 59 && !decide (i = p + 1)) = false := by grind [isAt_lt, isAt_ge, atD_lt]
              simp [this]
            · (try simp at h12)
              refine W_skip ?_
              refine W_rseqK [6, 7] (Runs.run tok hX (by simp; (try (simp (disch := omega) only [wrap_i64]; (try simp))); rfl)) ?_
              refine W_ret ?_
              refine W_retR (by simp [h1, h10]; rfl) (.of_eq ?_) rfl
              rw [hty, hnm]
              have : (isAt t i 59 && !decide (i = p + 1)) = true := by grind [isAt_lt, isAt_ge, atD_lt]
              simp [this]
        · (try simp at h7)
          refine W_skip ?_
          refine W_rseqK [6, 7] (Runs.run tok hX (by simp; rfl)) ?_
          refine W_ret ?_
          refine W_retR (by simp [h1]; rfl) (.of_eq ?_) rfl
          simp_all [tyP, tyP1, nmP, isAt_lt, isAt_ge]
set_option maxHeartbeats 2000000 in
set_option maxRecDepth 100000 in
theorem ct_spec_l02Type {t : Str} {p : Nat} (ht : t.length ≤ 1099511627776) (hp : p ≤ t.length) : Ct Tryz.prog 110 [.str t, .int .i64 p, .bool false] [] (.tup [.int .i64 (tyP t p).1, .bool (tyP t p).2]) [] := by
  refine Ct_bodyS tok Tryz.func110 rfl 85 (by kernel_rfl) (by kernel_rfl) fun X hX => ?_
  refine W_rseqK [0, 1, 2] (Runs.run tok hX (by simp; rfl)) ?_
  refine W_seq ?_
  refine W_rseqK [0, 1, 2, 13] (Runs.run tok hX (by simp; rfl)) ?_
  refine W_condS (by simp; rfl) (by rfl) (fun h1 => ?_) (fun h1 => ?_)
  · (try simp at h1)
    refine W_rseqK [6, 7] (Runs.run tok hX (by simp; rfl)) ?_
    refine W_ret ?_
    refine W_retR (by simp [h1]; rfl) (.of_eq ?_) rfl
    simp_all [tyP, tyP1, nmP, isAt_lt, isAt_ge]
  · (try simp at h1)
    refine W_skip ?_
    refine W_seq ?_
    refine W_block ?_
    refine W_rseqK [0, 1, 2, 15] (Runs.run tok hX (by simp [h1]; rfl)) ?_
    refine W_condS (by simp; rfl) (by rfl) (fun h3 => ?_) (fun h3 => ?_)
    · (try simp at h3)
      refine W_rseqK [6, 7] (Runs.run tok hX (by simp; (try (simp (disch := omega) only [wrap_i64]; (try simp))); rfl)) ?_
      refine W_ret ?_
      refine W_retR (by simp [h1]; rfl) (.of_eq ?_) rfl
      simp_all [tyP, tyP1, nmP, isAt_lt, isAt_ge]
    · (try simp at h3)
      refine W_rseqK [0, 1, 22] (Runs.step 5 tok hX (by simp [h1]; rfl) (Runs.mrgS 3 27 [0, 1, 30] (by simp; rfl) (by rfl) (fun b5_5 => by (try simp at b5_5); exact (Runs.run tok hX (by simp [-atD_lt, -atL_lt]; rfl))) (fun b5_5 => by (try simp at b5_5); exact (Runs.run tok hX (by simp [-atD_lt, -atL_lt]; rfl))) (by rfl) (by rfl) (Runs.run tok hX (by simp; rfl)))) ?_
      refine W_condS (by simp; rfl) (by rfl) (fun h5 => ?_) (fun h5 => ?_)
      · (try simp at h5)
        refine W_rseqK [6, 7] (Runs.step 3 tok hX (by simp; (try (simp (disch := omega) only [wrap_i64]; (try simp))); rfl) (Runs.call [] rfl (by simp) rfl (by simp [h1]; rfl) (by simp; rfl) (by apply ct_spec_l02Type_t <;> first | assumption | omega | (simp at *; omega) | simp_all) cb_spec_l02Type (by simp) (by simp) (by simp [h1]; rfl) (Runs.run tok hX (by simp; rfl)))) ?_
        refine W_ret ?_
        refine W_retR (by simp [h1]; rfl) (.of_eq ?_) rfl
        simp_all [tyP, tyP1, nmP, isAt_lt, isAt_ge]
      · (try simp at h5)
        refine W_rseqK [0, 1, 37] (Runs.run tok hX (by simp [h1]; rfl)) ?_
        refine W_condS (by simp; rfl) (by rfl) (fun h7 => ?_) (fun h7 => ?_)
        · (try simp at h7)
          refine W_rseqK [0, 8] (Runs.run tok hX (by simp; (try (simp (disch := omega) only [wrap_i64]; (try simp))); rfl)) ?_
          refine W_rseqK [0, 8, 9] (Runs.run tok hX (by simp; rfl)) ?_
          refine W_seq ?_
          refine W_block ?_
          -- loop 0: live [0, 8, 9]
          refine W_loopU (α := Nat) [0, 8, 9] (fun i => [(9, .int .i64 i)]) (fun i => []) (fun i => p + 1 ≤ i ∧ i ≤ t.length ∧ i - (p + 1) ≤ 20 ∧ i + nameRun (20 - (i - (p + 1))) (decide (i = p + 1)) (t.drop i) = p + 1 + nameRun 20 true (t.drop (p + 1))) (fun i => t.length - i) (p + 1) (fun i => by simp; rfl) (by simp) ?_ ?_
          · simp; omega
          rintro i ⟨h0i, hi, hn, hI⟩
          refine W_seq ?_
          refine W_rseqK [0, 8, 9, 63] (Runs.step 5 tok hX (by simp [h1]; rfl) (Runs.mrgS 5 49 [0, 8, 9, 54] (by simp; rfl) (by rfl) (fun b10_5 => by (try simp at b10_5); exact (Runs.run tok hX (by simp [-atD_lt, -atL_lt]; (try (simp (disch := omega) only [wrap_i64]; (try simp [-atD_lt, -atL_lt]))); rfl))) (fun b10_5 => by (try simp at b10_5); exact (Runs.run tok hX (by simp [-atD_lt, -atL_lt]; rfl))) (by rfl) (by rfl) (Runs.step 1 tok hX (by simp; rfl) (Runs.mrgS 8 55 [0, 8, 9, 63] (by simp; rfl) (by rfl) (fun b10_11 => by (try simp at b10_11); exact (Runs.step 6 tok hX (by simp [-atD_lt, -atL_lt, h1, b10_11]; rfl) (Runs.call [] rfl (by simp) rfl (by simp [-atD_lt, -atL_lt, h1, b10_11]; rfl) (by simp; rfl) (by apply ct_spec_l01NameByte <;> first | assumption | omega | (simp at *; omega) | simp_all) cb_spec_l01NameByte (by simp) (by simp) (by simp [-atD_lt, -atL_lt, h1, b10_11]; rfl) (Runs.run tok hX (by simp [-atD_lt, -atL_lt]; rfl))))) (fun b10_11 => by (try simp at b10_11); exact (Runs.run tok hX (by simp [-atD_lt, -atL_lt]; rfl))) (by rfl) (by rfl) (Runs.fin (by (try simp); rfl)))))) ?_
          have hge : t.length ≤ i → nameRun (20 - (i - (p + 1))) (decide (i = p + 1)) (t.drop i) = 0 := fun h => by rw [List.drop_eq_nil_of_le h]; simp [nameRun]
          have hg2 : i - (p + 1) = 20 → nameRun (20 - (i - (p + 1))) (decide (i = p + 1)) (t.drop i) = 0 := fun h => by rw [h]; simp [nameRun]
          have hg3 := fun h1 h2 => @drop_nameRun t i (p + 1) h1 h2 h0i
          refine W_condS (by simp; rfl) (by rfl) (fun h10 => ?_) (fun h10 => ?_)
          · (try simp at h10)
            have ⟨⟨h10a, h10b⟩, h10c⟩ := h10
            rw [atD_lt h10a] at h10c
            rw [hg3 h10a (by omega), if_pos h10c] at hI
            refine W_skip ?_
            refine W_block ?_
            refine W_reg (Runs.run tok hX (by simp; (try (simp (disch := omega) only [wrap_i64]; (try simp))); rfl)) ?_
            refine round_end (i + 1) [0, 8, 9] (by simp [h1, h10]; try (simp (disch := omega) only [wrap_i64])) ?_ ?_
            · exact ⟨by omega, by omega, by omega, by omega⟩
            · omega
          · (try simp at h10)
            have hI2 : i = p + 1 + nameRun 20 true (t.drop (p + 1)) := by
              rcases Nat.lt_or_ge i t.length with hl | hl
              · by_cases hk : i - (p + 1) = 20
                · have := hg2 hk; omega
                · rw [hg3 hl (by omega)] at hI
                  have : nameByte t[i] (decide (i = p + 1)) = false := by
                    rw [← atD_lt hl]; exact h10 hl (by omega)
                  rw [this] at hI; simpa using hI
              · have := hge hl; omega
            have hnm : nmP t (p + 1) = if (isAt t i 59 && !decide (i = p + 1)) then (i + 1, true) else (i, false) := by simp only [nmP, ← hI2]
            have hty : tyP t p = nmP t (p + 1) := by simp_all [tyP, tyP1, isAt_lt h1]
            clear hI hI2 hg2 hg3 hge
            refine W_exit ?_
            refine W_seq ?_
            refine W_rseqK [9, 80] (Runs.step 5 tok hX (by simp [h1, h10]; rfl) (Runs.mrgS 5 70 [8, 9, 75] (by simp; rfl) (by rfl) (fun b12_5 => by (try simp at b12_5); exact (Runs.run tok hX (by simp [-atD_lt, -atL_lt]; rfl))) (fun b12_5 => by (try simp at b12_5); (have hlt : i < t.length := by omega); exact (Runs.run tok hX (by simp [-atD_lt, -atL_lt, h1, h10, hlt]; rfl))) (by rfl) (by rfl) (Runs.step 1 tok hX (by simp; rfl) (Runs.mrgS 4 76 [9, 80] (by simp; rfl) (by rfl) (fun b12_11 => by (try simp at b12_11); exact (Runs.run tok hX (by simp [-atD_lt, -atL_lt]; rfl))) (fun b12_11 => by (try simp at b12_11); exact (Runs.run tok hX (by simp [-atD_lt, -atL_lt]; rfl))) (by rfl) (by rfl) (Runs.fin (by (try simp); rfl)))))) ?_
            refine W_condS (by simp; rfl) (by rfl) (fun h12 => ?_) (fun h12 => ?_)
            · (try simp at h12)
              refine W_rseqK [6, 7] (Runs.run tok hX (by simp; rfl)) ?_
              refine W_ret ?_
              refine W_retR (by simp [h1, h10]; rfl) (.of_eq ?_) rfl
              rw [hty, hnm]
              have : (isAt t i 59 && !decide (i = p + 1)) = false := by grind [isAt_lt, isAt_ge, atD_lt]
              simp [this]
            · (try simp at h12)
              refine W_skip ?_
              refine W_rseqK [6, 7] (Runs.run tok hX (by simp; (try (simp (disch := omega) only [wrap_i64]; (try simp))); rfl)) ?_
              refine W_ret ?_
              refine W_retR (by simp [h1, h10]; rfl) (.of_eq ?_) rfl
              rw [hty, hnm]
              have : (isAt t i 59 && !decide (i = p + 1)) = true := by grind [isAt_lt, isAt_ge, atD_lt]
              simp [this]
        · (try simp at h7)
          refine W_skip ?_
          refine W_rseqK [6, 7] (Runs.run tok hX (by simp; rfl)) ?_
          refine W_ret ?_
          refine W_retR (by simp [h1]; rfl) (.of_eq ?_) rfl
          simp_all [tyP, tyP1, nmP, isAt_lt, isAt_ge]
end Go.Proofs
namespace Go.Proofs
open Go Go.Ev


theorem cb_spec_TypeRight : Callable Tryz.prog 79 := ⟨_, Tryz.func79, by kernel_rfl, by kernel_rfl⟩
set_option maxHeartbeats 2000000 in
set_option maxRecDepth 100000 in
theorem ct_spec_TypeRight {t : Str} (ht : t.length ≤ 1099511627776) : Ct Tryz.prog 79 [.str t] [] (.bool (typeRight t)) [] := by
  refine Ct_bodyS tok Tryz.func79 rfl 20 (by kernel_rfl) (by kernel_rfl) fun X hX => ?_
  refine W_rseqK [0] (Runs.run tok hX (by simp; rfl)) ?_
  refine W_seq ?_
  refine W_rseqK [0, 7] (Runs.run tok hX (by simp; rfl)) ?_
  refine W_condS (by simp; rfl) (by rfl) (fun h1 => ?_) (fun h1 => ?_)
  · (try simp at h1)
    refine W_rseqK [2] (Runs.run tok hX (by simp; rfl)) ?_
    refine W_ret ?_
    refine W_retR (by simp [h1]; rfl) (.of_eq ?_) rfl
    (try simp_all [typeRight]) <;> grind
  · (try simp at h1)
    refine W_skip ?_
    refine W_rseqK [0, 3, 4] (Runs.step 1 tok hX (by simp; rfl) (Runs.call [] rfl (by simp) rfl (by simp [h1]; rfl) (by simp; rfl) (by apply ct_spec_l02Type <;> first | assumption | omega | (simp at *; omega) | simp_all) cb_spec_l02Type (by simp) (by simp) (by simp [h1]; rfl) (Runs.run tok hX (by simp; rfl)))) ?_
    refine W_rseqK [2] (Runs.step 2 tok hX (by simp; rfl) (Runs.mrgS 5 14 [19] (by simp; rfl) (by rfl) (fun b4_2 => by (try simp at b4_2); exact (Runs.run tok hX (by simp [-atD_lt, -atL_lt, h1]; rfl))) (fun b4_2 => by (try simp at b4_2); exact (Runs.run tok hX (by simp [-atD_lt, -atL_lt]; rfl))) (by rfl) (by rfl) (Runs.run tok hX (by simp; rfl)))) ?_
    refine W_ret ?_
    refine W_retR (by simp [h1]; rfl) (.of_eq ?_) rfl
    (try simp_all [typeRight]) <;> grind
end Go.Proofs
namespace Go.Proofs
open Go Go.Ev


theorem cb_spec_l02Wrong : Callable Tryz.prog 135 := ⟨_, Tryz.func135, by kernel_rfl, by kernel_rfl⟩
set_option maxHeartbeats 2000000 in
set_option maxRecDepth 100000 in
theorem ct_spec_l02Wrong {n : Int} : Ct Tryz.prog 135 [.int .i64 n] [] (.agg [.raw (.slice none 0 0), .str [], .int .i64 n, .int .i64 3]) [] := by
  refine Ct_bodyS tok Tryz.func135 rfl 5 (by kernel_rfl) (by kernel_rfl) fun X hX => ?_
  refine W_rseqK [0, 2] (Runs.run tok hX (by simp; rfl)) ?_
  refine W_rseqK [2] (Runs.run tok hX (by simp; rfl)) ?_
  refine W_ret ?_
  refine W_retR (by simp; rfl) (.of_eq ?_) rfl
  rfl
end Go.Proofs
namespace Go.Proofs
open Go Go.Ev


theorem cb_spec_DescRead : Callable Tryz.prog 111 := ⟨_, Tryz.func111, by kernel_rfl, by kernel_rfl⟩
set_option maxHeartbeats 2000000 in
set_option maxRecDepth 100000 in
theorem ct_spec_DescRead {t : Str} (ht : t.length ≤ 1099511627776) : Ct Tryz.prog 111 [.str t] [] (eDO (descRead t)) [] := by
  refine Ct_bodyS tok Tryz.func111 rfl 104 (by kernel_rfl) (by kernel_rfl) fun X hX => ?_
  refine W_rseqK [0, 2] (Runs.run tok hX (by simp; rfl)) ?_
  refine W_seq ?_
  refine W_rseqK [0, 2, 11] (Runs.run tok hX (by simp; rfl)) ?_
  refine W_condS (by simp; rfl) (by rfl) (fun h1 => ?_) (fun h1 => ?_)
  · (try simp at h1)
    refine W_rseqK [2] (Runs.run tok hX (by simp [h1]; rfl)) ?_
    refine W_ret ?_
    refine W_retR (by simp [h1]; rfl) ?_ rfl
    rw [show descRead t = ⟨[], [], 0, 2⟩ from by unfold descRead; rw [if_pos (by omega)]]
    exact wk_err _ _ _
  · (try simp at h1)
    have h1c : descRead t = dRead t := by unfold descRead; rw [if_neg (by omega)]
    rw [h1c]
    refine W_skip ?_
    refine W_seq ?_
    refine W_rseqK [0, 2, 20] (Runs.step 4 tok hX (by simp [h1]; rfl) (Runs.mrgS 4 16 [0, 2, 20] (by simp; rfl) (by rfl) (fun b3_4 => by (try simp at b3_4); exact (Runs.run tok hX (by simp [-atD_lt, -atL_lt]; rfl))) (fun b3_4 => by (try simp at b3_4); (have hlt : 0 < t.length := List.length_pos_iff.2 b3_4); exact (Runs.run tok hX (by simp [-atD_lt, -atL_lt, h1, hlt]; rfl))) (by rfl) (by rfl) (Runs.fin (by (try simp); rfl)))) ?_
    refine W_condS (by simp; rfl) (by rfl) (fun h3 => ?_) (fun h3 => ?_)
    · (try simp at h3)
      refine W_rseqK [2] (Runs.call [] rfl (by simp) rfl (by simp [h1]; rfl) (by simp; rfl) (by apply ct_spec_l02Wrong <;> first | assumption | omega) cb_spec_l02Wrong (by simp) (by simp) (by simp [h1]; rfl) (Runs.run tok hX (by simp [h1]; rfl))) ?_
      refine W_ret ?_
      refine W_retR (by simp [h1]; rfl) ?_ rfl
      rw [show dRead t = dErr 0 from by unfold dRead; rw [if_neg]; rcases h3 with rfl | h3; simp [isAt]; simp only [isAt]; split <;> simp_all [atD]]
      exact wk_err _ _ _
    · (try simp at h3)
      have h3c : 0 < t.length := List.length_pos_iff.2 h3.1
      have h3b : isAt t 0 40 = true := by rw [isAt_lt h3c, ← atD_lt h3c]; simpa using h3.2
      refine W_skip ?_
      refine W_rseqK [0, 2, 3] (Runs.run tok hX (by simp [h1]; rfl)) ?_
      refine W_rseqK [0, 2, 3, 4] (Runs.run tok hX (by simp; rfl)) ?_
      refine W_seq ?_
      refine W_block ?_
      refine W_le (Le.nilC 1 0 0 1 (by simp; rfl)) ?_
      -- loop 0: live [0, 2, 3, 4]
      refine W_loopU (α := List Str × Nat) [0, 2, 3, 4] (fun a => [(4, .int .i64 a.2)]) (fun a => [(1, some (2, [.agg [.arr 2 0 a.1.length, .str []]])), (2, some (1, a.1.map V.str))]) (fun a => a.2 ≤ t.length ∧ a.1.length ≤ 8 ∧ dParams t (8 - a.1.length) a.2 a.1 = dParams t 8 1 []) (fun a => 8 - a.1.length) (([], 1)) (fun a => by simp; rfl) (by simp) ?_ ?_
      · exact ⟨by simp; omega, by simp, rfl⟩
      rintro ⟨ps, p⟩ ⟨hp, hn, hI⟩
      simp only at hp hn hI
      refine W_seq ?_
      refine W_rseqK [0, 2, 3, 4, 32] (Runs.step 5 tok hX (by simp [h1]; rfl) (Runs.mrgS 5 27 [0, 2, 3, 4, 32] (by simp; rfl) (by rfl) (fun b7_5 => by (try simp at b7_5); exact (Runs.run tok hX (by simp [-atD_lt, -atL_lt, h1, b7_5]; rfl))) (fun b7_5 => by (try simp at b7_5); exact (Runs.run tok hX (by simp [-atD_lt, -atL_lt]; rfl))) (by rfl) (by rfl) (Runs.fin (by (try simp); rfl)))) ?_
      refine W_condS (by simp; rfl) (by rfl) (fun h7 => ?_) (fun h7 => ?_)
      · (try simp at h7)
        have h7a := h7.1
        have h7b : isAt t p 41 = false := by rw [isAt_lt h7a, ← atD_lt h7a]; simpa using h7.2
        refine W_skip ?_
        refine W_block ?_
        refine W_seq ?_
        refine W_rseqK [0, 2, 3, 4, 36] (Runs.run tok hX (by simp [h1, h7]; rfl)) ?_
        refine W_condS (by simp; rfl) (by rfl) (fun h8 => ?_) (fun h8 => ?_)
        · (try simp at h8)
          have h8b : 8 - ps.length = 0 := by omega
          rw [h8b, dParams, if_neg (by simp [h7b])] at hI
          refine W_rseqK [2] (Runs.step 1 tok hX (by simp; rfl) (Runs.call [] rfl (by simp) rfl (by simp [h1, h7]; rfl) (by simp; rfl) (by apply ct_spec_l02Wrong <;> first | assumption | omega) cb_spec_l02Wrong (by simp) (by simp) (by simp [h1, h7]; rfl) (Runs.run tok hX (by simp [h1, h7]; rfl)))) ?_
          refine W_ret ?_
          refine W_retR (by simp [h1, h7]; rfl) ?_ rfl
          rw [dRead_err h3b hI.symm]
          exact wk_err _ _ _
        · (try simp at h8)
          have h8b : 8 - ps.length = (8 - (ps.length + 1)) + 1 := by omega
          rw [h8b, dParams, if_neg (by simp [h7b])] at hI
          obtain ⟨hge, hle, hgt, _⟩ := tyP_le hp
          have w1 : (ps.length + 1) * 16 ≤ 140737488355328 := by omega
          have w2 : ps.length ≤ 1099511627775 := by omega
          refine W_skip ?_
          refine W_rseqK [0, 2, 3, 4, 5, 6] (Runs.step 2 tok hX (by simp; rfl) (Runs.call [] rfl (by simp) rfl (by simp [h1, h7, w1, w2]; rfl) (by simp; rfl) (by apply ct_spec_l02Type <;> first | assumption | omega) cb_spec_l02Type (by simp) (by simp) (by simp [h1, h7, w1, w2]; rfl) (Runs.run tok hX (by simp; rfl)))) ?_
          refine W_seq ?_
          refine W_rseqK [0, 2, 3, 4, 5, 46] (Runs.run tok hX (by simp; rfl)) ?_
          refine W_condS (by simp; rfl) (by rfl) (fun h11 => ?_) (fun h11 => ?_)
          · (try simp at h11)
            rw [if_neg (by simp [h11])] at hI
            refine W_rseqK [2] (Runs.step 1 tok hX (by simp; rfl) (Runs.call [] rfl (by simp) rfl (by simp [h1, h7, w1, w2]; rfl) (by simp; rfl) (by apply ct_spec_l02Wrong <;> first | assumption | omega) cb_spec_l02Wrong (by simp) (by simp) (by simp [h1, h7, w1, w2]; rfl) (Runs.run tok hX (by simp [h1, h7, w1, w2]; rfl)))) ?_
            refine W_ret ?_
            refine W_retR (by simp [h1, h7, w1, w2]; rfl) ?_ rfl
            rw [dRead_err h3b hI.symm]
            exact wk_err _ _ _
          · (try simp at h11)
            rw [if_pos h11] at hI
            have hI3 : dParams t (8 - (ps ++ [seg t p (tyP t p).1]).length) (tyP t p).1 (ps ++ [seg t p (tyP t p).1]) = dParams t 8 1 [] := by simpa using hI
            refine W_skip ?_
            refine W_hseqK (n := 7) (A := [0, 1, 2, 3, 4, 5]) (B := [6]) [0, 2, 3, 5] ([1]) hmo (by kernel_rfl) tok hX (by simp [h1, h7, w1, w2, hge, hle]; rfl) (.cons rfl (by simp) (fun X hX => (Runs.run tok hX (by simp; rfl))) (by simp; rfl) .nil) (Runs.run tok hX (by simp [h1, h7, w1, w2, hge, hle]; rfl)) ?_
            refine W_reg (Runs.run tok hX (by simp; rfl)) ?_
            refine round_endT ((ps ++ [seg t p (tyP t p).1], (tyP t p).1)) [0, 2, 3, 4] 3 (by simp [hX]) (by simp) (by simp [seg, h11]; try (simp (disch := omega) only [wrap_i64])) ?_ ?_
            · exact ⟨hle, by simp; omega, hI3⟩
            · simp; omega
      · (try simp at h7)
        have h7b : p < t.length → isAt t p 41 = true := fun h => by rw [isAt_lt h, ← atD_lt h]; simpa using h7 h
        refine W_exit ?_
        refine W_seq ?_
        refine W_rseqK [0, 2, 3, 4, 62] (Runs.run tok hX (by simp [h1, h7]; rfl)) ?_
        refine W_condS (by simp; rfl) (by rfl) (fun h15 => ?_) (fun h15 => ?_)
        · (try simp at h15)
          refine W_rseqK [2] (Runs.step 1 tok hX (by simp; rfl) (Runs.call [] rfl (by simp) rfl (by simp [h1, h7]; rfl) (by simp; rfl) (by apply ct_spec_l02Wrong <;> first | assumption | omega) cb_spec_l02Wrong (by simp) (by simp) (by simp [h1, h7]; rfl) (Runs.run tok hX (by simp [h1, h7]; rfl)))) ?_
          refine W_ret ?_
          refine W_retR (by simp [h1, h7]; rfl) ?_ rfl
          have hpl : p = t.length := h15
          rw [show dRead t = dErr p from dRead_err h3b (by rw [← hI]; cases 8 - ps.length <;> simp [dParams, isAt_ge (show t.length ≤ p from by omega), tyP, tyP1]), hpl]
          exact wk_err _ _ _
        · (try simp at h15)
          have h7d := h7b (by omega)
          have hd : dRead t = dTail t ps p := dRead_ok h3b (by rw [← hI]; cases 8 - ps.length <;> simp [dParams, h7d])
          rw [hd]
          have w0 : p + 1 ≤ t.length := by omega
          have wp : ps.length ≤ ps.length := Nat.le_refl _
          refine W_skip ?_
          refine W_rseqK [0, 2, 3, 4] (Runs.run tok hX (by simp; (try (simp (disch := omega) only [wrap_i64]; (try simp))); rfl)) ?_
          refine W_seq ?_
          refine W_rseqK [0, 2, 3, 4, 76] (Runs.step 5 tok hX (by simp [h1, h7, w0]; rfl) (Runs.mrgS 5 71 [0, 2, 3, 4, 76] (by simp; rfl) (by rfl) (fun b18_5 => by (try simp at b18_5); exact (Runs.run tok hX (by simp [-atD_lt, -atL_lt, h1, h7, w0, b18_5]; rfl))) (fun b18_5 => by (try simp at b18_5); exact (Runs.run tok hX (by simp [-atD_lt, -atL_lt]; rfl))) (by rfl) (by rfl) (Runs.fin (by (try simp); rfl)))) ?_
          refine W_condS (by simp; rfl) (by rfl) (fun h18 => ?_) (fun h18 => ?_)
          · (try simp at h18)
            have h18b : isAt t (p + 1) 86 = true := by rw [isAt_lt h18.1, ← atD_lt h18.1]; simpa using h18.2
            refine W_rseqK [0, 2, 3, 4] (Runs.run tok hX (by simp [h1, h7, w0, h18]; rfl)) ?_
            refine W_reg (Runs.run tok hX (by simp; (try (simp (disch := omega) only [wrap_i64]; (try simp))); rfl)) ?_
            refine W_seq ?_
            refine W_rseqK [2, 3, 4, 99] (Runs.run tok hX (by simp [h1, h7, w0, h18]; rfl)) ?_
            refine W_condS (by simp; rfl) (by rfl) (fun h26 => ?_) (fun h26 => ?_)
            · (try simp at h26)
              refine W_rseqK [2] (Runs.step 1 tok hX (by simp; rfl) (Runs.call [] rfl (by simp) rfl (by simp [h1, h7, w0, h18, h26]; rfl) (by simp; rfl) (by apply ct_spec_l02Wrong <;> first | assumption | omega) cb_spec_l02Wrong (by simp) (by simp) (by simp [h1, h7, w0, h18, h26]; rfl) (Runs.run tok hX (by simp [h1, h7, w0, h18, h26]; rfl)))) ?_
              refine W_ret ?_
              refine W_retR (by simp [h1, h7, w0, h18, h26]; rfl) ?_ rfl
              first
                | (rw [show dTail t ps p = dErr (p + 2) from by simp only [dTail, h18b, if_true]; rw [if_pos (by omega)], show ((p : Int) + 1 + 1) = ((p + 2 : Nat) : Int) from by omega]; exact wk_err _ _ _)
                | (rw [show dTail t ps p = dErr (tyP t (p + 1)).1 from by simp only [dTail, h18b, h22, if_true]; simp; omega]; exact wk_err _ _ _)
            · (try simp at h26)
              refine W_skip ?_
              refine W_rseqK [2] (Runs.run tok hX (by simp [h1, h7, w0, h18, h26]; rfl)) ?_
              refine W_ret ?_
              refine W_retR (by simp [h1, h7, w0, h18, h26]; rfl) ?_ rfl
              first
                | (rw [show dTail t ps p = ⟨ps, [86], 0, 0⟩ from by simp only [dTail, h18b, if_true]; rw [if_neg (by omega)]]; exact Wk.refl _)
                | (rw [show dTail t ps p = ⟨ps, seg t (p + 1) (tyP t (p + 1)).1, 0, 0⟩ from by simp only [dTail, h18b, h22]; simp; omega]; exact Wk.refl _)
          · (try simp at h18)
            have h18b : isAt t (p + 1) 86 = false := by
              rcases Nat.lt_or_ge (p + 1) t.length with h | h
              · rw [isAt_lt h, ← atD_lt h]; simpa using h18 h
              · exact isAt_ge h
            obtain ⟨hge, hle, hgt, _⟩ := tyP_le w0
            refine W_rseqK [0, 2, 3, 4, 7, 8] (Runs.step 2 tok hX (by simp; rfl) (Runs.call [] rfl (by simp) rfl (by simp [h1, h7, w0, h18, hge, hle]; rfl) (by simp; rfl) (by apply ct_spec_l02Type <;> first | assumption | omega) cb_spec_l02Type (by simp) (by simp) (by simp [h1, h7, w0, h18, hge, hle]; rfl) (Runs.run tok hX (by simp; rfl)))) ?_
            refine W_seq ?_
            refine W_rseqK [0, 2, 3, 4, 7, 87] (Runs.run tok hX (by simp; rfl)) ?_
            refine W_condS (by simp; rfl) (by rfl) (fun h22 => ?_) (fun h22 => ?_)
            · (try simp at h22)
              refine W_rseqK [2] (Runs.step 1 tok hX (by simp; rfl) (Runs.call [] rfl (by simp) rfl (by simp [h1, h7, w0, h18, hge, hle]; rfl) (by simp; rfl) (by apply ct_spec_l02Wrong <;> first | assumption | omega) cb_spec_l02Wrong (by simp) (by simp) (by simp [h1, h7, w0, h18, hge, hle]; rfl) (Runs.run tok hX (by simp [h1, h7, w0, h18, hge, hle]; rfl)))) ?_
              refine W_ret ?_
              refine W_retR (by simp [h1, h7, w0, h18, hge, hle]; rfl) ?_ rfl
              rw [show dTail t ps p = dErr (tyP t (p + 1)).1 from by simp [dTail, h18b, h22]]
              exact wk_err _ _ _
            · (try simp at h22)
              refine W_skip ?_
              refine W_rseqK [0, 2, 3, 7] (Runs.run tok hX (by simp [h1, h7, w0, h18, hge, hle]; rfl)) ?_
              refine W_reg (Runs.run tok hX (by simp; rfl)) ?_
              refine W_seq ?_
              refine W_rseqK [2, 3, 4, 99] (Runs.run tok hX (by simp [h1, h7, w0, h18, hge, hle]; rfl)) ?_
              refine W_condS (by simp; rfl) (by rfl) (fun h26 => ?_) (fun h26 => ?_)
              · (try simp at h26)
                refine W_rseqK [2] (Runs.step 1 tok hX (by simp; rfl) (Runs.call [] rfl (by simp) rfl (by simp [h1, h7, w0, h18, hge, hle, h26]; rfl) (by simp; rfl) (by apply ct_spec_l02Wrong <;> first | assumption | omega) cb_spec_l02Wrong (by simp) (by simp) (by simp [h1, h7, w0, h18, hge, hle, h26]; rfl) (Runs.run tok hX (by simp [h1, h7, w0, h18, hge, hle, h26]; rfl)))) ?_
                refine W_ret ?_
                refine W_retR (by simp [h1, h7, w0, h18, hge, hle, h26]; rfl) ?_ rfl
                first
                  | (rw [show dTail t ps p = dErr (p + 2) from by simp only [dTail, h18b, if_true]; rw [if_pos (by omega)], show ((p : Int) + 1 + 1) = ((p + 2 : Nat) : Int) from by omega]; exact wk_err _ _ _)
                  | (rw [show dTail t ps p = dErr (tyP t (p + 1)).1 from by simp only [dTail, h18b, h22, if_true]; simp; omega]; exact wk_err _ _ _)
              · (try simp at h26)
                refine W_skip ?_
                refine W_rseqK [2] (Runs.run tok hX (by simp [h1, h7, w0, h18, hge, hle, h26]; rfl)) ?_
                refine W_ret ?_
                refine W_retR (by simp [h1, h7, w0, h18, hge, hle, h26]; rfl) ?_ rfl
                first
                  | (rw [show dTail t ps p = ⟨ps, [86], 0, 0⟩ from by simp only [dTail, h18b, if_true]; rw [if_neg (by omega)]]; exact Wk.refl _)
                  | (rw [show dTail t ps p = ⟨ps, seg t (p + 1) (tyP t (p + 1)).1, 0, 0⟩ from by simp only [dTail, h18b, h22]; simp; omega]; exact Wk.refl _)
end Go.Proofs
namespace Go.Proofs
open Go Go.Ev


theorem cb_spec_l03Ops : Callable Tryz.prog 138 := ⟨_, Tryz.func138, by kernel_rfl, by kernel_rfl⟩
set_option maxHeartbeats 2000000 in
set_option maxRecDepth 100000 in
theorem ct_spec_l03Ops  : Ct Tryz.prog 138 [] [] (.lst true 1 (opsL.map V.str)) [] := by
  refine Ct_bodyS tok Tryz.func138 rfl 2 (by kernel_rfl) (by kernel_rfl) fun X hX => ?_
  refine W_rseqK [] (Runs.run tok hX (by simp; rfl)) ?_
  refine W_rseqK [0] (Runs.run tok hX (by simp; rfl)) ?_
  refine W_ret ?_
  refine W_retR (by simp; rfl) (.of_eq ?_) rfl
  rfl
end Go.Proofs
namespace Go.Proofs
open Go Go.Ev


theorem cb_spec_l01Split : Callable Tryz.prog 139 := ⟨_, Tryz.func139, by kernel_rfl, by kernel_rfl⟩
set_option maxHeartbeats 2000000 in
set_option maxRecDepth 100000 in
theorem ct_spec_l01Split {t : Str} {c : UInt8} (ht : t.length ≤ 1048576) : Ct Tryz.prog 139 [.str t, .int .u8 c.toNat] [] (.lst true 1 ((splitL c t).map V.str)) [] := by
  refine Ct_bodyS tok Tryz.func139 rfl 35 (by kernel_rfl) (by kernel_rfl) fun X hX => ?_
  refine W_rseqK [0, 1] (Runs.run tok hX (by simp; rfl)) ?_
  refine W_rseqK [0, 1, 5] (Runs.run tok hX (by simp; rfl)) ?_
  refine W_rseqK [0, 1, 5, 6] (Runs.run tok hX (by simp; rfl)) ?_
  refine W_seq ?_
  refine W_rseqK [0, 1, 5, 6, 7] (Runs.run tok hX (by simp; rfl)) ?_
  refine W_block ?_
  -- loop 0: live [0, 1, 5, 6, 7]
  refine W_loopU (α := List Str × Nat × Nat) [0, 1, 5, 6, 7] (fun a => [(5, .arr 0 0 a.1.length), (6, .int .i64 a.2.1), (7, .int .i64 a.2.2)]) (fun a => [(0, some (1, a.1.map V.str))]) (fun a => a.2.1 ≤ a.2.2 ∧ a.2.2 ≤ t.length ∧ a.1.length ≤ a.2.2 ∧ (∀ x ∈ (t.drop a.2.1).take (a.2.2 - a.2.1), x ≠ c) ∧ a.1 ++ splitL c (t.drop a.2.1) = splitL c t) (fun a => t.length - a.2.2) (([], 0, 0)) (fun a => by simp; rfl) (by simp) ?_ ?_
  · simp
  rintro ⟨ps, f, i⟩ ⟨hf, hi, hp, hn, hI⟩
  simp only at hf hi hp hn hI
  have w1 : (ps.length + 1) * 16 ≤ 140737488355328 := by omega
  have w2 : ps.length ≤ 1099511627775 := by omega
  refine W_seq ?_
  refine W_rseqK [0, 1, 5, 6, 7, 12] (Runs.run tok hX (by simp [w1, w2, hf, hi]; rfl)) ?_
  refine W_condS (by simp; rfl) (by rfl) (fun h4 => ?_) (fun h4 => ?_)
  · (try simp at h4)
    have hdi : i - f < (t.drop f).length := by simp; omega
    have hde : (t.drop f)[i - f] = t[i] := by simp [Nat.add_sub_cancel' hf]
    refine W_skip ?_
    refine W_seq ?_
    refine W_block ?_
    refine W_rseqK [0, 1, 5, 6, 7, 19] (Runs.run tok hX (by simp [w1, w2, hf, hi, h4]; rfl)) ?_
    refine W_condS (by simp; rfl) (by rfl) (fun h6 => ?_) (fun h6 => ?_)
    · (try simp at h6)
      have hs := splitL_hit hdi hn (by rw [hde]; exact UInt8.toNat_inj.1 h6)
      rw [List.drop_drop, show f + (i - f + 1) = i + 1 from by omega] at hs
      have hI2 : (ps ++ [seg t f i]) ++ splitL c (t.drop (i + 1)) = splitL c t := by rw [← hI, hs, seg, List.drop_take]; simp
      refine W_rseqK [0, 1, 5, 7] (Runs.run tok hX (by simp [w1, w2, hf, hi, h4]; rfl)) ?_
      refine W_reg (Runs.run tok hX (by simp; (try (simp (disch := omega) only [wrap_i64]; (try simp))); rfl)) ?_
      refine W_reg (Runs.run tok hX (by simp; (try (simp (disch := omega) only [wrap_i64]; (try simp))); rfl)) ?_
      refine round_endT (if t[i].toNat = c.toNat then (ps ++ [seg t f i], i + 1, i + 1) else (ps, f, i + 1)) [0, 1, 5, 6, 7] 1 (by simp [hX]) (by simp) (by simp [h4, h6, seg]; try (simp (disch := omega) only [wrap_i64])) ?_ ?_
      · first
        | (rw [if_pos h6]; exact ⟨Nat.le_refl _, h4, by simp; omega, by simp, hI2⟩)
        | (rw [if_neg h6]; exact ⟨by simp; omega, h4, by simp; omega, hn2, hI⟩)
      · first | (rw [if_pos h6]; simp; omega) | (rw [if_neg h6]; simp; omega)
    · (try simp at h6)
      have h6c : t[i] ≠ c := fun e => h6 (by rw [e])
      have hn2 : ∀ x ∈ (t.drop f).take (i + 1 - f), x ≠ c := by
        rw [show i + 1 - f = (i - f) + 1 from by omega, List.take_succ_eq_append_getElem hdi, hde]
        intro x hx
        rcases List.mem_append.1 hx with hx | hx
        · exact hn x hx
        · simp at hx; rw [hx]; exact h6c
      refine W_skip ?_
      refine W_reg (Runs.run tok hX (by simp; (try (simp (disch := omega) only [wrap_i64]; (try simp))); rfl)) ?_
      refine round_endT (if t[i].toNat = c.toNat then (ps ++ [seg t f i], i + 1, i + 1) else (ps, f, i + 1)) [0, 1, 5, 6, 7] 1 (by simp [hX]) (by simp) (by simp [h4, h6, seg]; try (simp (disch := omega) only [wrap_i64])) ?_ ?_
      · first
        | (rw [if_pos h6]; exact ⟨Nat.le_refl _, h4, by simp; omega, by simp, hI2⟩)
        | (rw [if_neg h6]; exact ⟨by simp; omega, h4, by simp; omega, hn2, hI⟩)
      · first | (rw [if_pos h6]; simp; omega) | (rw [if_neg h6]; simp; omega)
  · (try simp at h4)
    have hfl : f ≤ t.length := by omega
    refine W_exit ?_
    refine W_rseqK [4] (Runs.run tok hX (by simp [w1, w2, hf, hi, h4, hfl]; rfl)) ?_
    refine W_ret ?_
    refine W_retR (by simp [w1, w2, hf, hi, h4, hfl]; rfl) ?_ rfl
    have hil : i = t.length := by omega
    subst hil
    rw [splitL_no (by rw [List.take_of_length_le (by simp)] at hn; exact hn)] at hI
    rw [← hI]
    simp
    exact Wk.refl _
end Go.Proofs
namespace Go.Proofs
open Go Go.Ev


theorem cb_spec_OpForm : Callable Tryz.prog 113 := ⟨_, Tryz.func113, by kernel_rfl, by kernel_rfl⟩
set_option maxHeartbeats 2000000 in
set_option maxRecDepth 100000 in
theorem ct_spec_OpForm {op : Int} : Ct Tryz.prog 113 [.int .i64 op] [] (.str (opForm op)) [] := by
  have hol : opsL.length = 45 := rfl
  refine Ct_bodyS tok Tryz.func113 rfl 25 (by kernel_rfl) (by kernel_rfl) fun X hX => ?_
  refine W_rseqK [0] (Runs.run tok hX (by simp; rfl)) ?_
  refine W_rseqK [0, 3] (Runs.callF rfl (by simp) rfl (by simp; rfl) (by apply ct_spec_l03Ops <;> first | assumption | omega | (simp at *; omega) | simp_all) cb_spec_l03Ops (by simp; rfl) (Runs.run tok hX (by simp; rfl))) ?_
  refine W_seq ?_
  refine W_rseqK [0, 3, 13] (Runs.step 3 tok hX (by simp; rfl) (Runs.mrgS 5 8 [0, 3, 13] (by simp; rfl) (by rfl) (fun b2_3 => by (try simp at b2_3); exact (Runs.run tok hX (by simp [-atD_lt, -atL_lt]; rfl))) (fun b2_3 => by (try simp at b2_3); exact (Runs.run tok hX (by simp [-atD_lt, -atL_lt, b2_3]; rfl))) (by rfl) (by rfl) (Runs.fin (by (try simp); rfl)))) ?_
  refine W_condS (by simp; rfl) (by rfl) (fun h2 => ?_) (fun h2 => ?_)
  · (try simp at h2)
    have hx : opForm op = [33] := by simp only [opForm]; rw [if_pos (by simp [hol] at h2; omega)]
    refine W_rseqK [2] (Runs.run tok hX (by simp; rfl)) ?_
    refine W_ret ?_
    refine W_retR (by simp [h2]; rfl) (.of_eq ?_) rfl
    simp_all [formOf]
  · (try simp at h2)
    simp only [hol] at h2
    obtain ⟨k, rfl⟩ : ∃ k : Nat, op = (k : Int) := ⟨op.toNat, by omega⟩
    have hk : k < opsL.length := by rw [hol]; omega
    have hf := formOf_ops ⟨k, by omega⟩ (by simp; omega)
    have hl : opsL[k].length ≤ 1048576 := Nat.le_trans (ops_short ⟨k, by omega⟩) (by decide)
    have hof : opForm k = formL.getD (k - 1) [] := by simp only [opForm]; rw [if_neg (by omega)]; congr 1; omega
    have hge : opsL.getD k [] = opsL[k] := by simp [hk]
    simp only [hge] at hf
    rw [hof, ← hf]
    clear hf hof hge
    refine W_skip ?_
    refine W_rseqK [4] (Runs.step 4 tok hX (by simp [h2, hk]; rfl) (Runs.callF rfl (by simp) rfl (by simp [h2, hk]; rfl) (by apply (ct_spec_l01Split (c := 32)) <;> first | assumption | omega | (simp at *; omega) | simp_all) cb_spec_l01Split (by simp [h2, hk]; rfl) (Runs.run tok hX (by simp; rfl)))) ?_
    refine W_seq ?_
    refine W_rseqK [4, 21] (Runs.run tok hX (by simp [h2, hk]; rfl)) ?_
    refine W_condS (by simp; rfl) (by rfl) (fun h5 => ?_) (fun h5 => ?_)
    · (try simp at h5)
      skip
      refine W_rseqK [2] (Runs.run tok hX (by simp [h2, hk, h5]; rfl)) ?_
      refine W_ret ?_
      refine W_retR (by simp [h2, hk, h5]; rfl) (.of_eq ?_) rfl
      simp_all [formOf]
    · (try simp at h5)
      refine W_skip ?_
      refine W_rseqK [2] (Runs.run tok hX (by simp; rfl)) ?_
      refine W_ret ?_
      refine W_retR (by simp [h2, hk]; rfl) (.of_eq ?_) rfl
      simp_all [formOf]
end Go.Proofs
namespace Go.Proofs
open Go Go.Ev


theorem cb_spec_l03Empty : Callable Tryz.prog 136 := ⟨_, Tryz.func136, by kernel_rfl, by kernel_rfl⟩
set_option maxHeartbeats 2000000 in
set_option maxRecDepth 100000 in
theorem ct_spec_l03Empty {x : Ins} : Ct Tryz.prog 136 [eI x] [] (.bool (decide (x.cls = [] ∧ x.name = [] ∧ x.desc = []))) [] := by
  refine Ct_bodyS tok Tryz.func136 rfl 16 (by kernel_rfl) (by kernel_rfl) fun X hX => ?_
  refine W_rseqK [1] (Runs.run tok hX (by simp; rfl)) ?_
  refine W_rseqK [2] (Runs.step 4 tok hX (by simp; rfl) (Runs.mrgS 4 6 [1, 10] (by simp; rfl) (by rfl) (fun b1_4 => by (try simp at b1_4); exact (Runs.run tok hX (by simp [-atD_lt, -atL_lt]; rfl))) (fun b1_4 => by (try simp at b1_4); exact (Runs.run tok hX (by simp [-atD_lt, -atL_lt]; rfl))) (by rfl) (by rfl) (Runs.step 1 tok hX (by simp; rfl) (Runs.mrgS 4 11 [15] (by simp; rfl) (by rfl) (fun b1_9 => by (try simp at b1_9); exact (Runs.run tok hX (by simp [-atD_lt, -atL_lt]; rfl))) (fun b1_9 => by (try simp at b1_9); exact (Runs.run tok hX (by simp [-atD_lt, -atL_lt]; rfl))) (by rfl) (by rfl) (Runs.run tok hX (by simp; rfl)))))) ?_
  refine W_ret ?_
  refine W_retR (by simp; rfl) (.of_eq ?_) rfl
  (try simp_all) <;> grind
end Go.Proofs
namespace Go.Proofs
open Go Go.Ev


theorem cb_spec_l01Int : Callable Tryz.prog 137 := ⟨_, Tryz.func137, by kernel_rfl, by kernel_rfl⟩
set_option maxHeartbeats 2000000 in
set_option maxRecDepth 100000 in
theorem ct_spec_l01Int {n : Int} : Ct Tryz.prog 137 [.int .i64 n] [] (.bool (decide (-2147483648 ≤ n ∧ n ≤ 2147483647))) [] := by
  refine Ct_bodyS tok Tryz.func137 rfl 9 (by kernel_rfl) (by kernel_rfl) fun X hX => ?_
  refine W_rseqK [0] (Runs.run tok hX (by simp; rfl)) ?_
  refine W_rseqK [2] (Runs.step 3 tok hX (by simp; rfl) (Runs.mrgS 3 5 [8] (by simp; rfl) (by rfl) (fun b1_3 => by (try simp at b1_3); exact (Runs.run tok hX (by simp [-atD_lt, -atL_lt]; rfl))) (fun b1_3 => by (try simp at b1_3); exact (Runs.run tok hX (by simp [-atD_lt, -atL_lt]; rfl))) (by rfl) (by rfl) (Runs.run tok hX (by simp; rfl)))) ?_
  refine W_ret ?_
  refine W_retR (by simp; rfl) (.of_eq ?_) rfl
  (try simp_all) <;> grind
end Go.Proofs
