/- Part 10 of what the proofs lean on: what the functions of the program and of the reference compute. Conditions: none. -/
import Derived.Test.YtkbchflhpnefiaaGreatK08
set_option linter.all false
set_option linter.unusedVariables false
set_option linter.unusedSimpArgs false
namespace Go.Proofs
open Go Go.Ev


theorem cb_spec_l06Known : Callable Tryz.prog 36 := ⟨_, Tryz.func36, by kernel_rfl, by kernel_rfl⟩
set_option maxHeartbeats 2000000 in
set_option maxRecDepth 100000 in
theorem ct_spec_l06Known {l : List Cls} {t : Typ} (hl : l.length ≤ 1099511627776) : Ct Tryz.prog 36 [.lst false 6 (l.map eC), eT t] [] (.bool (knownT l t)) [] := by
  refine Ct_bodyS tok Tryz.func36 rfl 49 (by kernel_rfl) (by kernel_rfl) fun X hX => ?_
  refine W_rseqK [0, 3] (Runs.run tok hX (by simp; rfl)) ?_
  refine W_seq ?_
  refine W_rseqK [0, 3, 6] (Runs.run tok hX (by simp; rfl)) ?_
  refine W_block ?_
  refine W_seq ?_
  refine W_rseqK [0, 3, 6, 7] (Runs.run tok hX (by simp; rfl)) ?_
  refine W_condS (by simp; rfl) (by rfl) (fun h2 => ?_) (fun h2 => ?_)
  · (try simp at h2)
    refine W_skip ?_
    refine W_condS (by simp; rfl) (by rfl) (fun h2_1 => ?_) (fun h2_1 => ?_)
    · (try simp at h2_1)
      refine W_rseqK [4] (Runs.step 4 tok hX (by simp; rfl) (Runs.mrgS 4 16 [20] (by simp; rfl) (by rfl) (fun b7_4 => by (try simp at b7_4); exact (Runs.run tok hX (by simp [-atD_lt, -atL_lt]; rfl))) (fun b7_4 => by (try simp at b7_4); exact (Runs.run tok hX (by simp [-atD_lt, -atL_lt]; rfl))) (by rfl) (by rfl) (Runs.run tok hX (by simp; rfl)))) ?_
      refine W_ret ?_
      refine W_retR (by simp; rfl) (.of_eq ?_) rfl
      simp only [knownT]
      (try simp_all) <;> grind
    · (try simp at h2_1)
      refine W_seq ?_
      refine W_rseqK [0, 3, 6, 21] (Runs.run tok hX (by simp; rfl)) ?_
      refine W_condS (by simp; rfl) (by rfl) (fun h8 => ?_) (fun h8 => ?_)
      · (try simp at h8)
        refine W_skip ?_
        refine W_condS (by simp; rfl) (by rfl) (fun h8_1 => ?_) (fun h8_1 => ?_)
        · (try simp at h8_1)
          refine W_rseqK [4] (Runs.step 3 tok hX (by simp; rfl) (Runs.call [] rfl (by simp) rfl (by simp; rfl) (by simp; rfl) (by apply ct_spec_l05Known <;> first | assumption | omega | (simp at *; omega) | simp_all) cb_spec_l05Known (by simp) (by simp) (by simp; rfl) (Runs.step 1 tok hX (by simp; rfl) (Runs.mrgS 4 28 [32] (by simp; rfl) (by rfl) (fun b10_5 => by (try simp at b10_5); exact (Runs.run tok hX (by simp [-atD_lt, -atL_lt]; rfl))) (fun b10_5 => by (try simp at b10_5); exact (Runs.run tok hX (by simp [-atD_lt, -atL_lt]; rfl))) (by rfl) (by rfl) (Runs.run tok hX (by simp; rfl)))))) ?_
          refine W_ret ?_
          refine W_retR (by simp; rfl) (.of_eq ?_) rfl
          simp only [knownT]
          (try simp_all) <;> grind
        · (try simp at h8_1)
          refine W_rseqK [0, 3, 33] (Runs.run tok hX (by simp; rfl)) ?_
          refine W_condS (by simp; rfl) (by rfl) (fun h11 => ?_) (fun h11 => ?_)
          · (try simp at h11)
            refine W_rseqK [4] (Runs.step 3 tok hX (by simp; rfl) (Runs.call [] rfl (by simp) rfl (by simp; rfl) (by simp; rfl) (by apply ct_spec_l05Known <;> first | assumption | omega | (simp at *; omega) | simp_all) cb_spec_l05Known (by simp) (by simp) (by simp; rfl) (Runs.step 1 tok hX (by simp; rfl) (Runs.mrgS 4 39 [3, 43] (by simp; rfl) (by rfl) (fun b12_5 => by (try simp at b12_5); exact (Runs.run tok hX (by simp [-atD_lt, -atL_lt]; rfl))) (fun b12_5 => by (try simp at b12_5); exact (Runs.run tok hX (by simp [-atD_lt, -atL_lt]; rfl))) (by rfl) (by rfl) (Runs.step 1 tok hX (by simp; rfl) (Runs.mrgS 4 44 [48] (by simp; rfl) (by rfl) (fun b12_10 => by (try simp at b12_10); exact (Runs.run tok hX (by simp [-atD_lt, -atL_lt, b12_10]; rfl))) (fun b12_10 => by (try simp at b12_10); exact (Runs.run tok hX (by simp [-atD_lt, -atL_lt]; rfl))) (by rfl) (by rfl) (Runs.run tok hX (by simp; rfl)))))))) ?_
            refine W_ret ?_
            refine W_retR (by simp; rfl) (.of_eq ?_) rfl
            simp only [knownT]
            (try simp_all) <;> grind
          · (try simp at h11)
            refine W_skip ?_
            refine W_rseqK [4] (Runs.run tok hX (by simp; rfl)) ?_
            refine W_ret ?_
            refine W_retR (by simp; rfl) (.of_eq ?_) rfl
            simp only [knownT]
            (try simp_all) <;> grind
      · (try simp at h8)
        refine W_reg (Runs.run tok hX (by simp; rfl)) ?_
        refine W_condS (by simp; rfl) (by rfl) (fun h9 => ?_) (fun h9 => ?_)
        · (try simp at h9)
          refine W_rseqK [4] (Runs.step 3 tok hX (by simp; rfl) (Runs.call [] rfl (by simp) rfl (by simp; rfl) (by simp; rfl) (by apply ct_spec_l05Known <;> first | assumption | omega | (simp at *; omega) | simp_all) cb_spec_l05Known (by simp) (by simp) (by simp; rfl) (Runs.step 1 tok hX (by simp; rfl) (Runs.mrgS 4 28 [32] (by simp; rfl) (by rfl) (fun b10_5 => by (try simp at b10_5); exact (Runs.run tok hX (by simp [-atD_lt, -atL_lt]; rfl))) (fun b10_5 => by (try simp at b10_5); exact (Runs.run tok hX (by simp [-atD_lt, -atL_lt]; rfl))) (by rfl) (by rfl) (Runs.run tok hX (by simp; rfl)))))) ?_
          refine W_ret ?_
          refine W_retR (by simp; rfl) (.of_eq ?_) rfl
          simp only [knownT]
          (try simp_all) <;> grind
        · (try simp at h9)
          refine W_rseqK [0, 3, 33] (Runs.run tok hX (by simp; rfl)) ?_
          refine W_condS (by simp; rfl) (by rfl) (fun h11 => ?_) (fun h11 => ?_)
          · (try simp at h11)
            refine W_rseqK [4] (Runs.step 3 tok hX (by simp; rfl) (Runs.call [] rfl (by simp) rfl (by simp; rfl) (by simp; rfl) (by apply ct_spec_l05Known <;> first | assumption | omega | (simp at *; omega) | simp_all) cb_spec_l05Known (by simp) (by simp) (by simp; rfl) (Runs.step 1 tok hX (by simp; rfl) (Runs.mrgS 4 39 [3, 43] (by simp; rfl) (by rfl) (fun b12_5 => by (try simp at b12_5); exact (Runs.run tok hX (by simp [-atD_lt, -atL_lt]; rfl))) (fun b12_5 => by (try simp at b12_5); exact (Runs.run tok hX (by simp [-atD_lt, -atL_lt]; rfl))) (by rfl) (by rfl) (Runs.step 1 tok hX (by simp; rfl) (Runs.mrgS 4 44 [48] (by simp; rfl) (by rfl) (fun b12_10 => by (try simp at b12_10); exact (Runs.run tok hX (by simp [-atD_lt, -atL_lt, b12_10]; rfl))) (fun b12_10 => by (try simp at b12_10); exact (Runs.run tok hX (by simp [-atD_lt, -atL_lt]; rfl))) (by rfl) (by rfl) (Runs.run tok hX (by simp; rfl)))))))) ?_
            refine W_ret ?_
            refine W_retR (by simp; rfl) (.of_eq ?_) rfl
            simp only [knownT]
            (try simp_all) <;> grind
          · (try simp at h11)
            refine W_skip ?_
            refine W_rseqK [4] (Runs.run tok hX (by simp; rfl)) ?_
            refine W_ret ?_
            refine W_retR (by simp; rfl) (.of_eq ?_) rfl
            simp only [knownT]
            (try simp_all) <;> grind
  · (try simp at h2)
    refine W_rseqK [0, 3, 6, 7] (Runs.run tok hX (by simp; rfl)) ?_
    refine W_condS (by simp; rfl) (by rfl) (fun h3 => ?_) (fun h3 => ?_)
    · (try simp at h3)
      refine W_skip ?_
      refine W_condS (by simp; rfl) (by rfl) (fun h3_1 => ?_) (fun h3_1 => ?_)
      · (try simp at h3_1)
        refine W_rseqK [4] (Runs.step 4 tok hX (by simp; rfl) (Runs.mrgS 4 16 [20] (by simp; rfl) (by rfl) (fun b7_4 => by (try simp at b7_4); exact (Runs.run tok hX (by simp [-atD_lt, -atL_lt]; rfl))) (fun b7_4 => by (try simp at b7_4); exact (Runs.run tok hX (by simp [-atD_lt, -atL_lt]; rfl))) (by rfl) (by rfl) (Runs.run tok hX (by simp; rfl)))) ?_
        refine W_ret ?_
        refine W_retR (by simp; rfl) (.of_eq ?_) rfl
        simp only [knownT]
        (try simp_all) <;> grind
      · (try simp at h3_1)
        refine W_seq ?_
        refine W_rseqK [0, 3, 6, 21] (Runs.run tok hX (by simp; rfl)) ?_
        refine W_condS (by simp; rfl) (by rfl) (fun h8 => ?_) (fun h8 => ?_)
        · (try simp at h8)
          refine W_skip ?_
          refine W_condS (by simp; rfl) (by rfl) (fun h8_1 => ?_) (fun h8_1 => ?_)
          · (try simp at h8_1)
            refine W_rseqK [4] (Runs.step 3 tok hX (by simp; rfl) (Runs.call [] rfl (by simp) rfl (by simp; rfl) (by simp; rfl) (by apply ct_spec_l05Known <;> first | assumption | omega | (simp at *; omega) | simp_all) cb_spec_l05Known (by simp) (by simp) (by simp; rfl) (Runs.step 1 tok hX (by simp; rfl) (Runs.mrgS 4 28 [32] (by simp; rfl) (by rfl) (fun b10_5 => by (try simp at b10_5); exact (Runs.run tok hX (by simp [-atD_lt, -atL_lt]; rfl))) (fun b10_5 => by (try simp at b10_5); exact (Runs.run tok hX (by simp [-atD_lt, -atL_lt]; rfl))) (by rfl) (by rfl) (Runs.run tok hX (by simp; rfl)))))) ?_
            refine W_ret ?_
            refine W_retR (by simp; rfl) (.of_eq ?_) rfl
            simp only [knownT]
            (try simp_all) <;> grind
          · (try simp at h8_1)
            refine W_rseqK [0, 3, 33] (Runs.run tok hX (by simp; rfl)) ?_
            refine W_condS (by simp; rfl) (by rfl) (fun h11 => ?_) (fun h11 => ?_)
            · (try simp at h11)
              refine W_rseqK [4] (Runs.step 3 tok hX (by simp; rfl) (Runs.call [] rfl (by simp) rfl (by simp; rfl) (by simp; rfl) (by apply ct_spec_l05Known <;> first | assumption | omega | (simp at *; omega) | simp_all) cb_spec_l05Known (by simp) (by simp) (by simp; rfl) (Runs.step 1 tok hX (by simp; rfl) (Runs.mrgS 4 39 [3, 43] (by simp; rfl) (by rfl) (fun b12_5 => by (try simp at b12_5); exact (Runs.run tok hX (by simp [-atD_lt, -atL_lt]; rfl))) (fun b12_5 => by (try simp at b12_5); exact (Runs.run tok hX (by simp [-atD_lt, -atL_lt]; rfl))) (by rfl) (by rfl) (Runs.step 1 tok hX (by simp; rfl) (Runs.mrgS 4 44 [48] (by simp; rfl) (by rfl) (fun b12_10 => by (try simp at b12_10); exact (Runs.run tok hX (by simp [-atD_lt, -atL_lt, b12_10]; rfl))) (fun b12_10 => by (try simp at b12_10); exact (Runs.run tok hX (by simp [-atD_lt, -atL_lt]; rfl))) (by rfl) (by rfl) (Runs.run tok hX (by simp; rfl)))))))) ?_
              refine W_ret ?_
              refine W_retR (by simp; rfl) (.of_eq ?_) rfl
              simp only [knownT]
              (try simp_all) <;> grind
            · (try simp at h11)
              refine W_skip ?_
              refine W_rseqK [4] (Runs.run tok hX (by simp; rfl)) ?_
              refine W_ret ?_
              refine W_retR (by simp; rfl) (.of_eq ?_) rfl
              simp only [knownT]
              (try simp_all) <;> grind
        · (try simp at h8)
          refine W_reg (Runs.run tok hX (by simp; rfl)) ?_
          refine W_condS (by simp; rfl) (by rfl) (fun h9 => ?_) (fun h9 => ?_)
          · (try simp at h9)
            refine W_rseqK [4] (Runs.step 3 tok hX (by simp; rfl) (Runs.call [] rfl (by simp) rfl (by simp; rfl) (by simp; rfl) (by apply ct_spec_l05Known <;> first | assumption | omega | (simp at *; omega) | simp_all) cb_spec_l05Known (by simp) (by simp) (by simp; rfl) (Runs.step 1 tok hX (by simp; rfl) (Runs.mrgS 4 28 [32] (by simp; rfl) (by rfl) (fun b10_5 => by (try simp at b10_5); exact (Runs.run tok hX (by simp [-atD_lt, -atL_lt]; rfl))) (fun b10_5 => by (try simp at b10_5); exact (Runs.run tok hX (by simp [-atD_lt, -atL_lt]; rfl))) (by rfl) (by rfl) (Runs.run tok hX (by simp; rfl)))))) ?_
            refine W_ret ?_
            refine W_retR (by simp; rfl) (.of_eq ?_) rfl
            simp only [knownT]
            (try simp_all) <;> grind
          · (try simp at h9)
            refine W_rseqK [0, 3, 33] (Runs.run tok hX (by simp; rfl)) ?_
            refine W_condS (by simp; rfl) (by rfl) (fun h11 => ?_) (fun h11 => ?_)
            · (try simp at h11)
              refine W_rseqK [4] (Runs.step 3 tok hX (by simp; rfl) (Runs.call [] rfl (by simp) rfl (by simp; rfl) (by simp; rfl) (by apply ct_spec_l05Known <;> first | assumption | omega | (simp at *; omega) | simp_all) cb_spec_l05Known (by simp) (by simp) (by simp; rfl) (Runs.step 1 tok hX (by simp; rfl) (Runs.mrgS 4 39 [3, 43] (by simp; rfl) (by rfl) (fun b12_5 => by (try simp at b12_5); exact (Runs.run tok hX (by simp [-atD_lt, -atL_lt]; rfl))) (fun b12_5 => by (try simp at b12_5); exact (Runs.run tok hX (by simp [-atD_lt, -atL_lt]; rfl))) (by rfl) (by rfl) (Runs.step 1 tok hX (by simp; rfl) (Runs.mrgS 4 44 [48] (by simp; rfl) (by rfl) (fun b12_10 => by (try simp at b12_10); exact (Runs.run tok hX (by simp [-atD_lt, -atL_lt, b12_10]; rfl))) (fun b12_10 => by (try simp at b12_10); exact (Runs.run tok hX (by simp [-atD_lt, -atL_lt]; rfl))) (by rfl) (by rfl) (Runs.run tok hX (by simp; rfl)))))))) ?_
              refine W_ret ?_
              refine W_retR (by simp; rfl) (.of_eq ?_) rfl
              simp only [knownT]
              (try simp_all) <;> grind
            · (try simp at h11)
              refine W_skip ?_
              refine W_rseqK [4] (Runs.run tok hX (by simp; rfl)) ?_
              refine W_ret ?_
              refine W_retR (by simp; rfl) (.of_eq ?_) rfl
              simp only [knownT]
              (try simp_all) <;> grind
    · (try simp at h3)
      refine W_rseqK [0, 3, 6, 7] (Runs.run tok hX (by simp; rfl)) ?_
      refine W_condS (by simp; rfl) (by rfl) (fun h4 => ?_) (fun h4 => ?_)
      · (try simp at h4)
        refine W_skip ?_
        refine W_condS (by simp; rfl) (by rfl) (fun h4_1 => ?_) (fun h4_1 => ?_)
        · (try simp at h4_1)
          refine W_rseqK [4] (Runs.step 4 tok hX (by simp; rfl) (Runs.mrgS 4 16 [20] (by simp; rfl) (by rfl) (fun b7_4 => by (try simp at b7_4); exact (Runs.run tok hX (by simp [-atD_lt, -atL_lt]; rfl))) (fun b7_4 => by (try simp at b7_4); exact (Runs.run tok hX (by simp [-atD_lt, -atL_lt]; rfl))) (by rfl) (by rfl) (Runs.run tok hX (by simp; rfl)))) ?_
          refine W_ret ?_
          refine W_retR (by simp; rfl) (.of_eq ?_) rfl
          simp only [knownT]
          (try simp_all) <;> grind
        · (try simp at h4_1)
          refine W_seq ?_
          refine W_rseqK [0, 3, 6, 21] (Runs.run tok hX (by simp; rfl)) ?_
          refine W_condS (by simp; rfl) (by rfl) (fun h8 => ?_) (fun h8 => ?_)
          · (try simp at h8)
            refine W_skip ?_
            refine W_condS (by simp; rfl) (by rfl) (fun h8_1 => ?_) (fun h8_1 => ?_)
            · (try simp at h8_1)
              refine W_rseqK [4] (Runs.step 3 tok hX (by simp; rfl) (Runs.call [] rfl (by simp) rfl (by simp; rfl) (by simp; rfl) (by apply ct_spec_l05Known <;> first | assumption | omega | (simp at *; omega) | simp_all) cb_spec_l05Known (by simp) (by simp) (by simp; rfl) (Runs.step 1 tok hX (by simp; rfl) (Runs.mrgS 4 28 [32] (by simp; rfl) (by rfl) (fun b10_5 => by (try simp at b10_5); exact (Runs.run tok hX (by simp [-atD_lt, -atL_lt]; rfl))) (fun b10_5 => by (try simp at b10_5); exact (Runs.run tok hX (by simp [-atD_lt, -atL_lt]; rfl))) (by rfl) (by rfl) (Runs.run tok hX (by simp; rfl)))))) ?_
              refine W_ret ?_
              refine W_retR (by simp; rfl) (.of_eq ?_) rfl
              simp only [knownT]
              (try simp_all) <;> grind
            · (try simp at h8_1)
              refine W_rseqK [0, 3, 33] (Runs.run tok hX (by simp; rfl)) ?_
              refine W_condS (by simp; rfl) (by rfl) (fun h11 => ?_) (fun h11 => ?_)
              · (try simp at h11)
                refine W_rseqK [4] (Runs.step 3 tok hX (by simp; rfl) (Runs.call [] rfl (by simp) rfl (by simp; rfl) (by simp; rfl) (by apply ct_spec_l05Known <;> first | assumption | omega | (simp at *; omega) | simp_all) cb_spec_l05Known (by simp) (by simp) (by simp; rfl) (Runs.step 1 tok hX (by simp; rfl) (Runs.mrgS 4 39 [3, 43] (by simp; rfl) (by rfl) (fun b12_5 => by (try simp at b12_5); exact (Runs.run tok hX (by simp [-atD_lt, -atL_lt]; rfl))) (fun b12_5 => by (try simp at b12_5); exact (Runs.run tok hX (by simp [-atD_lt, -atL_lt]; rfl))) (by rfl) (by rfl) (Runs.step 1 tok hX (by simp; rfl) (Runs.mrgS 4 44 [48] (by simp; rfl) (by rfl) (fun b12_10 => by (try simp at b12_10); exact (Runs.run tok hX (by simp [-atD_lt, -atL_lt, b12_10]; rfl))) (fun b12_10 => by (try simp at b12_10); exact (Runs.run tok hX (by simp [-atD_lt, -atL_lt]; rfl))) (by rfl) (by rfl) (Runs.run tok hX (by simp; rfl)))))))) ?_
                refine W_ret ?_
                refine W_retR (by simp; rfl) (.of_eq ?_) rfl
                simp only [knownT]
                (try simp_all) <;> grind
              · (try simp at h11)
                refine W_skip ?_
                refine W_rseqK [4] (Runs.run tok hX (by simp; rfl)) ?_
                refine W_ret ?_
                refine W_retR (by simp; rfl) (.of_eq ?_) rfl
                simp only [knownT]
                (try simp_all) <;> grind
          · (try simp at h8)
            refine W_reg (Runs.run tok hX (by simp; rfl)) ?_
            refine W_condS (by simp; rfl) (by rfl) (fun h9 => ?_) (fun h9 => ?_)
            · (try simp at h9)
              refine W_rseqK [4] (Runs.step 3 tok hX (by simp; rfl) (Runs.call [] rfl (by simp) rfl (by simp; rfl) (by simp; rfl) (by apply ct_spec_l05Known <;> first | assumption | omega | (simp at *; omega) | simp_all) cb_spec_l05Known (by simp) (by simp) (by simp; rfl) (Runs.step 1 tok hX (by simp; rfl) (Runs.mrgS 4 28 [32] (by simp; rfl) (by rfl) (fun b10_5 => by (try simp at b10_5); exact (Runs.run tok hX (by simp [-atD_lt, -atL_lt]; rfl))) (fun b10_5 => by (try simp at b10_5); exact (Runs.run tok hX (by simp [-atD_lt, -atL_lt]; rfl))) (by rfl) (by rfl) (Runs.run tok hX (by simp; rfl)))))) ?_
              refine W_ret ?_
              refine W_retR (by simp; rfl) (.of_eq ?_) rfl
              simp only [knownT]
              (try simp_all) <;> grind
            · (try simp at h9)
              refine W_rseqK [0, 3, 33] (Runs.run tok hX (by simp; rfl)) ?_
              refine W_condS (by simp; rfl) (by rfl) (fun h11 => ?_) (fun h11 => ?_)
              · (try simp at h11)
                refine W_rseqK [4] (Runs.step 3 tok hX (by simp; rfl) (Runs.call [] rfl (by simp) rfl (by simp; rfl) (by simp; rfl) (by apply ct_spec_l05Known <;> first | assumption | omega | (simp at *; omega) | simp_all) cb_spec_l05Known (by simp) (by simp) (by simp; rfl) (Runs.step 1 tok hX (by simp; rfl) (Runs.mrgS 4 39 [3, 43] (by simp; rfl) (by rfl) (fun b12_5 => by (try simp at b12_5); exact (Runs.run tok hX (by simp [-atD_lt, -atL_lt]; rfl))) (fun b12_5 => by (try simp at b12_5); exact (Runs.run tok hX (by simp [-atD_lt, -atL_lt]; rfl))) (by rfl) (by rfl) (Runs.step 1 tok hX (by simp; rfl) (Runs.mrgS 4 44 [48] (by simp; rfl) (by rfl) (fun b12_10 => by (try simp at b12_10); exact (Runs.run tok hX (by simp [-atD_lt, -atL_lt, b12_10]; rfl))) (fun b12_10 => by (try simp at b12_10); exact (Runs.run tok hX (by simp [-atD_lt, -atL_lt]; rfl))) (by rfl) (by rfl) (Runs.run tok hX (by simp; rfl)))))))) ?_
                refine W_ret ?_
                refine W_retR (by simp; rfl) (.of_eq ?_) rfl
                simp only [knownT]
                (try simp_all) <;> grind
              · (try simp at h11)
                refine W_skip ?_
                refine W_rseqK [4] (Runs.run tok hX (by simp; rfl)) ?_
                refine W_ret ?_
                refine W_retR (by simp; rfl) (.of_eq ?_) rfl
                simp only [knownT]
                (try simp_all) <;> grind
      · (try simp at h4)
        refine W_rseqK [0, 3, 6, 7] (Runs.run tok hX (by simp; rfl)) ?_
        refine W_condS (by simp; rfl) (by rfl) (fun h5 => ?_) (fun h5 => ?_)
        · (try simp at h5)
          refine W_skip ?_
          refine W_condS (by simp; rfl) (by rfl) (fun h5_1 => ?_) (fun h5_1 => ?_)
          · (try simp at h5_1)
            refine W_rseqK [4] (Runs.step 4 tok hX (by simp; rfl) (Runs.mrgS 4 16 [20] (by simp; rfl) (by rfl) (fun b7_4 => by (try simp at b7_4); exact (Runs.run tok hX (by simp [-atD_lt, -atL_lt]; rfl))) (fun b7_4 => by (try simp at b7_4); exact (Runs.run tok hX (by simp [-atD_lt, -atL_lt]; rfl))) (by rfl) (by rfl) (Runs.run tok hX (by simp; rfl)))) ?_
            refine W_ret ?_
            refine W_retR (by simp; rfl) (.of_eq ?_) rfl
            simp only [knownT]
            (try simp_all) <;> grind
          · (try simp at h5_1)
            refine W_seq ?_
            refine W_rseqK [0, 3, 6, 21] (Runs.run tok hX (by simp; rfl)) ?_
            refine W_condS (by simp; rfl) (by rfl) (fun h8 => ?_) (fun h8 => ?_)
            · (try simp at h8)
              refine W_skip ?_
              refine W_condS (by simp; rfl) (by rfl) (fun h8_1 => ?_) (fun h8_1 => ?_)
              · (try simp at h8_1)
                refine W_rseqK [4] (Runs.step 3 tok hX (by simp; rfl) (Runs.call [] rfl (by simp) rfl (by simp; rfl) (by simp; rfl) (by apply ct_spec_l05Known <;> first | assumption | omega | (simp at *; omega) | simp_all) cb_spec_l05Known (by simp) (by simp) (by simp; rfl) (Runs.step 1 tok hX (by simp; rfl) (Runs.mrgS 4 28 [32] (by simp; rfl) (by rfl) (fun b10_5 => by (try simp at b10_5); exact (Runs.run tok hX (by simp [-atD_lt, -atL_lt]; rfl))) (fun b10_5 => by (try simp at b10_5); exact (Runs.run tok hX (by simp [-atD_lt, -atL_lt]; rfl))) (by rfl) (by rfl) (Runs.run tok hX (by simp; rfl)))))) ?_
                refine W_ret ?_
                refine W_retR (by simp; rfl) (.of_eq ?_) rfl
                simp only [knownT]
                (try simp_all) <;> grind
              · (try simp at h8_1)
                refine W_rseqK [0, 3, 33] (Runs.run tok hX (by simp; rfl)) ?_
                refine W_condS (by simp; rfl) (by rfl) (fun h11 => ?_) (fun h11 => ?_)
                · (try simp at h11)
                  refine W_rseqK [4] (Runs.step 3 tok hX (by simp; rfl) (Runs.call [] rfl (by simp) rfl (by simp; rfl) (by simp; rfl) (by apply ct_spec_l05Known <;> first | assumption | omega | (simp at *; omega) | simp_all) cb_spec_l05Known (by simp) (by simp) (by simp; rfl) (Runs.step 1 tok hX (by simp; rfl) (Runs.mrgS 4 39 [3, 43] (by simp; rfl) (by rfl) (fun b12_5 => by (try simp at b12_5); exact (Runs.run tok hX (by simp [-atD_lt, -atL_lt]; rfl))) (fun b12_5 => by (try simp at b12_5); exact (Runs.run tok hX (by simp [-atD_lt, -atL_lt]; rfl))) (by rfl) (by rfl) (Runs.step 1 tok hX (by simp; rfl) (Runs.mrgS 4 44 [48] (by simp; rfl) (by rfl) (fun b12_10 => by (try simp at b12_10); exact (Runs.run tok hX (by simp [-atD_lt, -atL_lt, b12_10]; rfl))) (fun b12_10 => by (try simp at b12_10); exact (Runs.run tok hX (by simp [-atD_lt, -atL_lt]; rfl))) (by rfl) (by rfl) (Runs.run tok hX (by simp; rfl)))))))) ?_
                  refine W_ret ?_
                  refine W_retR (by simp; rfl) (.of_eq ?_) rfl
                  simp only [knownT]
                  (try simp_all) <;> grind
                · (try simp at h11)
                  refine W_skip ?_
                  refine W_rseqK [4] (Runs.run tok hX (by simp; rfl)) ?_
                  refine W_ret ?_
                  refine W_retR (by simp; rfl) (.of_eq ?_) rfl
                  simp only [knownT]
                  (try simp_all) <;> grind
            · (try simp at h8)
              refine W_reg (Runs.run tok hX (by simp; rfl)) ?_
              refine W_condS (by simp; rfl) (by rfl) (fun h9 => ?_) (fun h9 => ?_)
              · (try simp at h9)
                refine W_rseqK [4] (Runs.step 3 tok hX (by simp; rfl) (Runs.call [] rfl (by simp) rfl (by simp; rfl) (by simp; rfl) (by apply ct_spec_l05Known <;> first | assumption | omega | (simp at *; omega) | simp_all) cb_spec_l05Known (by simp) (by simp) (by simp; rfl) (Runs.step 1 tok hX (by simp; rfl) (Runs.mrgS 4 28 [32] (by simp; rfl) (by rfl) (fun b10_5 => by (try simp at b10_5); exact (Runs.run tok hX (by simp [-atD_lt, -atL_lt]; rfl))) (fun b10_5 => by (try simp at b10_5); exact (Runs.run tok hX (by simp [-atD_lt, -atL_lt]; rfl))) (by rfl) (by rfl) (Runs.run tok hX (by simp; rfl)))))) ?_
                refine W_ret ?_
                refine W_retR (by simp; rfl) (.of_eq ?_) rfl
                simp only [knownT]
                (try simp_all) <;> grind
              · (try simp at h9)
                refine W_rseqK [0, 3, 33] (Runs.run tok hX (by simp; rfl)) ?_
                refine W_condS (by simp; rfl) (by rfl) (fun h11 => ?_) (fun h11 => ?_)
                · (try simp at h11)
                  refine W_rseqK [4] (Runs.step 3 tok hX (by simp; rfl) (Runs.call [] rfl (by simp) rfl (by simp; rfl) (by simp; rfl) (by apply ct_spec_l05Known <;> first | assumption | omega | (simp at *; omega) | simp_all) cb_spec_l05Known (by simp) (by simp) (by simp; rfl) (Runs.step 1 tok hX (by simp; rfl) (Runs.mrgS 4 39 [3, 43] (by simp; rfl) (by rfl) (fun b12_5 => by (try simp at b12_5); exact (Runs.run tok hX (by simp [-atD_lt, -atL_lt]; rfl))) (fun b12_5 => by (try simp at b12_5); exact (Runs.run tok hX (by simp [-atD_lt, -atL_lt]; rfl))) (by rfl) (by rfl) (Runs.step 1 tok hX (by simp; rfl) (Runs.mrgS 4 44 [48] (by simp; rfl) (by rfl) (fun b12_10 => by (try simp at b12_10); exact (Runs.run tok hX (by simp [-atD_lt, -atL_lt, b12_10]; rfl))) (fun b12_10 => by (try simp at b12_10); exact (Runs.run tok hX (by simp [-atD_lt, -atL_lt]; rfl))) (by rfl) (by rfl) (Runs.run tok hX (by simp; rfl)))))))) ?_
                  refine W_ret ?_
                  refine W_retR (by simp; rfl) (.of_eq ?_) rfl
                  simp only [knownT]
                  (try simp_all) <;> grind
                · (try simp at h11)
                  refine W_skip ?_
                  refine W_rseqK [4] (Runs.run tok hX (by simp; rfl)) ?_
                  refine W_ret ?_
                  refine W_retR (by simp; rfl) (.of_eq ?_) rfl
                  simp only [knownT]
                  (try simp_all) <;> grind
        · (try simp at h5)
          refine W_reg (Runs.run tok hX (by simp; rfl)) ?_
          refine W_condS (by simp; rfl) (by rfl) (fun h6 => ?_) (fun h6 => ?_)
          · (try simp at h6)
            refine W_rseqK [4] (Runs.step 4 tok hX (by simp; rfl) (Runs.mrgS 4 16 [20] (by simp; rfl) (by rfl) (fun b7_4 => by (try simp at b7_4); exact (Runs.run tok hX (by simp [-atD_lt, -atL_lt]; rfl))) (fun b7_4 => by (try simp at b7_4); exact (Runs.run tok hX (by simp [-atD_lt, -atL_lt]; rfl))) (by rfl) (by rfl) (Runs.run tok hX (by simp; rfl)))) ?_
            refine W_ret ?_
            refine W_retR (by simp; rfl) (.of_eq ?_) rfl
            simp only [knownT]
            (try simp_all) <;> grind
          · (try simp at h6)
            refine W_seq ?_
            refine W_rseqK [0, 3, 6, 21] (Runs.run tok hX (by simp; rfl)) ?_
            refine W_condS (by simp; rfl) (by rfl) (fun h8 => ?_) (fun h8 => ?_)
            · (try simp at h8)
              refine W_skip ?_
              refine W_condS (by simp; rfl) (by rfl) (fun h8_1 => ?_) (fun h8_1 => ?_)
              · (try simp at h8_1)
                refine W_rseqK [4] (Runs.step 3 tok hX (by simp; rfl) (Runs.call [] rfl (by simp) rfl (by simp; rfl) (by simp; rfl) (by apply ct_spec_l05Known <;> first | assumption | omega | (simp at *; omega) | simp_all) cb_spec_l05Known (by simp) (by simp) (by simp; rfl) (Runs.step 1 tok hX (by simp; rfl) (Runs.mrgS 4 28 [32] (by simp; rfl) (by rfl) (fun b10_5 => by (try simp at b10_5); exact (Runs.run tok hX (by simp [-atD_lt, -atL_lt]; rfl))) (fun b10_5 => by (try simp at b10_5); exact (Runs.run tok hX (by simp [-atD_lt, -atL_lt]; rfl))) (by rfl) (by rfl) (Runs.run tok hX (by simp; rfl)))))) ?_
                refine W_ret ?_
                refine W_retR (by simp; rfl) (.of_eq ?_) rfl
                simp only [knownT]
                (try simp_all) <;> grind
              · (try simp at h8_1)
                refine W_rseqK [0, 3, 33] (Runs.run tok hX (by simp; rfl)) ?_
                refine W_condS (by simp; rfl) (by rfl) (fun h11 => ?_) (fun h11 => ?_)
                · (try simp at h11)
                  refine W_rseqK [4] (Runs.step 3 tok hX (by simp; rfl) (Runs.call [] rfl (by simp) rfl (by simp; rfl) (by simp; rfl) (by apply ct_spec_l05Known <;> first | assumption | omega | (simp at *; omega) | simp_all) cb_spec_l05Known (by simp) (by simp) (by simp; rfl) (Runs.step 1 tok hX (by simp; rfl) (Runs.mrgS 4 39 [3, 43] (by simp; rfl) (by rfl) (fun b12_5 => by (try simp at b12_5); exact (Runs.run tok hX (by simp [-atD_lt, -atL_lt]; rfl))) (fun b12_5 => by (try simp at b12_5); exact (Runs.run tok hX (by simp [-atD_lt, -atL_lt]; rfl))) (by rfl) (by rfl) (Runs.step 1 tok hX (by simp; rfl) (Runs.mrgS 4 44 [48] (by simp; rfl) (by rfl) (fun b12_10 => by (try simp at b12_10); exact (Runs.run tok hX (by simp [-atD_lt, -atL_lt, b12_10]; rfl))) (fun b12_10 => by (try simp at b12_10); exact (Runs.run tok hX (by simp [-atD_lt, -atL_lt]; rfl))) (by rfl) (by rfl) (Runs.run tok hX (by simp; rfl)))))))) ?_
                  refine W_ret ?_
                  refine W_retR (by simp; rfl) (.of_eq ?_) rfl
                  simp only [knownT]
                  (try simp_all) <;> grind
                · (try simp at h11)
                  refine W_skip ?_
                  refine W_rseqK [4] (Runs.run tok hX (by simp; rfl)) ?_
                  refine W_ret ?_
                  refine W_retR (by simp; rfl) (.of_eq ?_) rfl
                  simp only [knownT]
                  (try simp_all) <;> grind
            · (try simp at h8)
              refine W_reg (Runs.run tok hX (by simp; rfl)) ?_
              refine W_condS (by simp; rfl) (by rfl) (fun h9 => ?_) (fun h9 => ?_)
              · (try simp at h9)
                refine W_rseqK [4] (Runs.step 3 tok hX (by simp; rfl) (Runs.call [] rfl (by simp) rfl (by simp; rfl) (by simp; rfl) (by apply ct_spec_l05Known <;> first | assumption | omega | (simp at *; omega) | simp_all) cb_spec_l05Known (by simp) (by simp) (by simp; rfl) (Runs.step 1 tok hX (by simp; rfl) (Runs.mrgS 4 28 [32] (by simp; rfl) (by rfl) (fun b10_5 => by (try simp at b10_5); exact (Runs.run tok hX (by simp [-atD_lt, -atL_lt]; rfl))) (fun b10_5 => by (try simp at b10_5); exact (Runs.run tok hX (by simp [-atD_lt, -atL_lt]; rfl))) (by rfl) (by rfl) (Runs.run tok hX (by simp; rfl)))))) ?_
                refine W_ret ?_
                refine W_retR (by simp; rfl) (.of_eq ?_) rfl
                simp only [knownT]
                (try simp_all) <;> grind
              · (try simp at h9)
                refine W_rseqK [0, 3, 33] (Runs.run tok hX (by simp; rfl)) ?_
                refine W_condS (by simp; rfl) (by rfl) (fun h11 => ?_) (fun h11 => ?_)
                · (try simp at h11)
                  refine W_rseqK [4] (Runs.step 3 tok hX (by simp; rfl) (Runs.call [] rfl (by simp) rfl (by simp; rfl) (by simp; rfl) (by apply ct_spec_l05Known <;> first | assumption | omega | (simp at *; omega) | simp_all) cb_spec_l05Known (by simp) (by simp) (by simp; rfl) (Runs.step 1 tok hX (by simp; rfl) (Runs.mrgS 4 39 [3, 43] (by simp; rfl) (by rfl) (fun b12_5 => by (try simp at b12_5); exact (Runs.run tok hX (by simp [-atD_lt, -atL_lt]; rfl))) (fun b12_5 => by (try simp at b12_5); exact (Runs.run tok hX (by simp [-atD_lt, -atL_lt]; rfl))) (by rfl) (by rfl) (Runs.step 1 tok hX (by simp; rfl) (Runs.mrgS 4 44 [48] (by simp; rfl) (by rfl) (fun b12_10 => by (try simp at b12_10); exact (Runs.run tok hX (by simp [-atD_lt, -atL_lt, b12_10]; rfl))) (fun b12_10 => by (try simp at b12_10); exact (Runs.run tok hX (by simp [-atD_lt, -atL_lt]; rfl))) (by rfl) (by rfl) (Runs.run tok hX (by simp; rfl)))))))) ?_
                  refine W_ret ?_
                  refine W_retR (by simp; rfl) (.of_eq ?_) rfl
                  simp only [knownT]
                  (try simp_all) <;> grind
                · (try simp at h11)
                  refine W_skip ?_
                  refine W_rseqK [4] (Runs.run tok hX (by simp; rfl)) ?_
                  refine W_ret ?_
                  refine W_retR (by simp; rfl) (.of_eq ?_) rfl
                  simp only [knownT]
                  (try simp_all) <;> grind
end Go.Proofs
namespace Go.Proofs
open Go Go.Ev


theorem cb_spec_TypeKnown : Callable Tryz.prog 12 := ⟨_, Tryz.func12, by kernel_rfl, by kernel_rfl⟩
set_option maxHeartbeats 2000000 in
set_option maxRecDepth 100000 in
theorem ct_spec_TypeKnown {l : List Cls} {t : Typ} (hl : sizeL l ≤ 1099511627776) : Ct Tryz.prog 12 [.lst false 6 (l.map eC), eT t] [] (.bool (typeKnownW l t)) [] := by
  have hll : l.length ≤ 1099511627776 := by unfold sizeL at hl; omega
  refine Ct_bodyS tok Tryz.func12 rfl 12 (by kernel_rfl) (by kernel_rfl) fun X hX => ?_
  refine W_rseqK [0, 3] (Runs.run tok hX (by simp; rfl)) ?_
  refine W_rseqK [4] (Runs.step 1 tok hX (by simp; rfl) (Runs.call [] rfl (by simp) rfl (by simp; rfl) (by simp; rfl) (by apply ct_spec_l05Right <;> first | assumption | omega | (simp at *; omega) | simp_all) cb_spec_l05Right (by simp) (by simp) (by simp; rfl) (Runs.step 1 tok hX (by simp; rfl) (Runs.mrgS 4 7 [11] (by simp; rfl) (by rfl) (fun b1_3 => by (try simp at b1_3); exact (Runs.step 2 tok hX (by simp [-atD_lt, -atL_lt]; rfl) (Runs.call [] rfl (by simp) rfl (by simp [-atD_lt, -atL_lt]; rfl) (by simp; rfl) (by apply ct_spec_l06Known <;> first | assumption | omega | (simp at *; omega) | simp_all) cb_spec_l06Known (by simp) (by simp) (by simp [-atD_lt, -atL_lt]; rfl) (Runs.run tok hX (by simp [-atD_lt, -atL_lt]; rfl))))) (fun b1_3 => by (try simp at b1_3); exact (Runs.run tok hX (by simp [-atD_lt, -atL_lt]; rfl))) (by rfl) (by rfl) (Runs.run tok hX (by simp; rfl)))))) ?_
  refine W_ret ?_
  refine W_retR (by simp; rfl) (.of_eq ?_) rfl
  simp only [typeKnownW]
end Go.Proofs
namespace Go.Proofs
open Go Go.Ev


theorem cb_laws_szType : Callable Tryz.prog 27 := ⟨_, Tryz.func27, by kernel_rfl, by kernel_rfl⟩
set_option maxHeartbeats 2000000 in
set_option maxRecDepth 100000 in
theorem ct_laws_szType {x : Typ} {z : Int} (h : bigT x) (h0 : 0 ≤ z) (h1 : z ≤ 1099511627776) : Ct Tryz.prog 27 [eT x, .int .i64 z] [] (.int .i64 (sub z (sizeT x))) [] := by
  simp only [bigT] at h
  refine Ct_bodyS tok Tryz.func27 rfl 13 (by kernel_rfl) (by kernel_rfl) fun X hX => ?_
  refine W_rseqK [1, 2] (Runs.run tok hX (by simp; rfl)) ?_
  refine W_rseqK [1] (Runs.run tok hX (by simp; (try (simp (disch := omega) only [wrap_i64]; (try simp))); rfl)) ?_
  refine W_seq ?_
  refine W_rseqK [1, 11] (Runs.run tok hX (by simp; rfl)) ?_
  refine W_condS (by simp; rfl) (by rfl) (fun h2 => ?_) (fun h2 => ?_)
  · (try simp at h2)
    refine W_rseqK [4] (Runs.run tok hX (by simp; rfl)) ?_
    refine W_ret ?_
    refine W_retR (by simp [h2]; rfl) (.of_eq ?_) rfl
    simp [sub, sizeT] at *; omega
  · (try simp at h2)
    refine W_skip ?_
    refine W_rseqK [4] (Runs.run tok hX (by simp; rfl)) ?_
    refine W_ret ?_
    refine W_retR (by simp [h2]; rfl) (.of_eq ?_) rfl
    simp [sub, sizeT] at *; omega
end Go.Proofs
namespace Go.Proofs
open Go Go.Ev


theorem cb_laws_toType : Callable Tryz.prog 28 := ⟨_, Tryz.func28, by kernel_rfl, by kernel_rfl⟩
set_option maxHeartbeats 2000000 in
set_option maxRecDepth 100000 in
theorem ct_laws_toType {x : Typ} : Ct Tryz.prog 28 [eT x] [] (eT x) [] := by
  refine Ct_bodyS tok Tryz.func28 rfl 14 (by kernel_rfl) (by kernel_rfl) fun X hX => ?_
  refine W_rseqK [1, 2] (Runs.run tok hX (by simp; rfl)) ?_
  refine W_rseqK [1, 2, 3] (Runs.run tok hX (by simp; rfl)) ?_
  refine W_rseqK [1, 2, 3] (Runs.run tok hX (by simp; rfl)) ?_
  refine W_rseqK [1, 2, 3] (Runs.run tok hX (by simp; rfl)) ?_
  refine W_rseqK [2, 3] (Runs.run tok hX (by simp; rfl)) ?_
  refine W_rseqK [2] (Runs.run tok hX (by simp; rfl)) ?_
  refine W_ret ?_
  refine W_retR (by simp; rfl) (.of_eq ?_) rfl
  simp
end Go.Proofs
namespace Go.Proofs
open Go Go.Ev


theorem cb_impl_world_typeKnown : Callable Tryz.prog 34 := ⟨_, Tryz.func34, by kernel_rfl, by kernel_rfl⟩
set_option maxHeartbeats 2000000 in
set_option maxRecDepth 100000 in
theorem ct_impl_world_typeKnown {l : List Cls} (hl : l.length ≤ 1099511627776) {t : Typ} : Ct Tryz.prog 34 [wv l, eT t] [] (.bool (knownT l t)) [] := by
  refine Ct_bodyS tok Tryz.func34 rfl 43 (by kernel_rfl) (by kernel_rfl) fun X hX => ?_
  refine W_rseqK [0, 3] (Runs.run tok hX (by simp; rfl)) ?_
  refine W_seq ?_
  refine W_rseqK [0, 3, 6] (Runs.run tok hX (by simp; rfl)) ?_
  refine W_block ?_
  refine W_seq ?_
  refine W_rseqK [0, 3, 6, 7] (Runs.run tok hX (by simp; rfl)) ?_
  refine' W_condS3 [0, 3, 6, 7] (by simp; rfl) (by rfl) (fun h2 => ?a1_1) (fun h2 => ?a0_1) ?ak_1
  case a1_1 =>
    (try simp at h2)
    refine W_skip ?_
    exact ⟨rfl, Eq.trans (by (try simp); rfl) (by rfl)⟩
  case a0_1 =>
    (try simp at h2)
    refine W_reg (Runs.run tok hX (by simp; rfl)) ?_
    exact ⟨rfl, Eq.trans (by (try simp); rfl) (by rfl)⟩
  case ak_1 =>
    refine W_le (Le.of_eq (by simp; rfl)) ?_
    refine W_condS (by simp; rfl) (by rfl) (fun h2 => ?_) (fun h2 => ?_)
    · (try simp at h2)
      refine W_rseqK [4] (Runs.step 3 tok hX (by simp; rfl) (Runs.call [] rfl (by simp) rfl (by simp; rfl) (by simp; rfl) (by apply ct_impl_world_known <;> first | assumption | omega | (simp at *; omega) | simp_all) cb_impl_world_known (by simp) (by simp) (by simp; rfl) (Runs.step 1 tok hX (by simp; rfl) (Runs.mrgS 4 14 [18] (by simp; rfl) (by rfl) (fun b4_5 => by (try simp at b4_5); exact (Runs.run tok hX (by simp [-atD_lt, -atL_lt]; rfl))) (fun b4_5 => by (try simp at b4_5); exact (Runs.run tok hX (by simp [-atD_lt, -atL_lt]; rfl))) (by rfl) (by rfl) (Runs.run tok hX (by simp; rfl)))))) ?_
      refine W_ret ?_
      refine W_retR (by simp; rfl) (.of_eq ?_) rfl
      simp only [knownT]
      (try simp_all) <;> grind
    · (try simp at h2)
      refine W_rseqK [0, 3, 19] (Runs.run tok hX (by simp; rfl)) ?_
      refine W_condS (by simp; rfl) (by rfl) (fun h5 => ?_) (fun h5 => ?_)
      · (try simp at h5)
        refine W_rseqK [4] (Runs.step 3 tok hX (by simp; rfl) (Runs.call [] rfl (by simp) rfl (by simp; rfl) (by simp; rfl) (by apply ct_impl_world_known <;> first | assumption | omega | (simp at *; omega) | simp_all) cb_impl_world_known (by simp) (by simp) (by simp; rfl) (Runs.step 1 tok hX (by simp; rfl) (Runs.mrgS 4 25 [29] (by simp; rfl) (by rfl) (fun b6_5 => by (try simp at b6_5); exact (Runs.step 2 tok hX (by simp [-atD_lt, -atL_lt]; rfl) (Runs.call [] rfl (by simp) rfl (by simp [-atD_lt, -atL_lt]; rfl) (by simp; rfl) (by apply ct_impl_within <;> first | assumption | omega | (simp at *; omega) | simp_all) cb_impl_within (by simp) (by simp) (by simp [-atD_lt, -atL_lt]; rfl) (Runs.run tok hX (by simp [-atD_lt, -atL_lt]; rfl))))) (fun b6_5 => by (try simp at b6_5); exact (Runs.run tok hX (by simp [-atD_lt, -atL_lt]; rfl))) (by rfl) (by rfl) (Runs.run tok hX (by simp; rfl)))))) ?_
        refine W_ret ?_
        refine W_retR (by simp; rfl) (.of_eq ?_) rfl
        simp only [knownT]
        (try simp_all) <;> grind
      · (try simp at h5)
        refine W_skip ?_
        refine W_rseqK [4] (Runs.step 2 tok hX (by simp; rfl) (Runs.call [] rfl (by simp) rfl (by simp; rfl) (by simp; rfl) (by apply ct_impl_within <;> first | assumption | omega | (simp at *; omega) | simp_all) cb_impl_within (by simp) (by simp) (by simp; rfl) (Runs.step 1 tok hX (by simp; rfl) (Runs.mrgS 4 33 [3, 37] (by simp; rfl) (by rfl) (fun b7_4 => by (try simp at b7_4); exact (Runs.run tok hX (by simp [-atD_lt, -atL_lt]; rfl))) (fun b7_4 => by (try simp at b7_4); exact (Runs.run tok hX (by simp [-atD_lt, -atL_lt]; rfl))) (by rfl) (by rfl) (Runs.step 1 tok hX (by simp; rfl) (Runs.mrgS 4 38 [42] (by simp; rfl) (by rfl) (fun b7_9 => by (try simp at b7_9); exact (Runs.run tok hX (by simp [-atD_lt, -atL_lt]; rfl))) (fun b7_9 => by (try simp at b7_9); exact (Runs.run tok hX (by simp [-atD_lt, -atL_lt]; rfl))) (by rfl) (by rfl) (Runs.run tok hX (by simp; rfl)))))))) ?_
        refine W_ret ?_
        refine W_retR (by simp; rfl) (.of_eq ?_) rfl
        simp only [knownT]
        (try simp_all) <;> grind
end Go.Proofs
namespace Go.Proofs
open Go Go.Ev


theorem cb_impl_TypeKnown : Callable Tryz.prog 29 := ⟨_, Tryz.func29, by kernel_rfl, by kernel_rfl⟩
set_option maxHeartbeats 2000000 in
set_option maxRecDepth 100000 in
theorem ct_impl_TypeKnown {l : List Cls} (hl : l.length ≤ 1048576) (hs : sizeL l ≤ 1099511627776) {t : Typ} : Ct Tryz.prog 29 [.lst false 6 (l.map eC), eT t] [] (.bool (typeKnownW l t)) [] := by
  refine Ct_bodyS tok Tryz.func29 rfl 18 (by kernel_rfl) (by kernel_rfl) fun X hX => ?_
  refine W_rseqK [0, 3] (Runs.run tok hX (by simp; rfl)) ?_
  refine W_rseqK [3, 5, 6] (Runs.step 1 tok hX (by simp; rfl) (Runs.call [] rfl (by simp) rfl (by simp; rfl) (by simp; rfl) (by apply ct_impl_rightWorld <;> first | assumption | omega | (simp at *; omega) | simp_all) cb_impl_rightWorld (by simp) (by simp) (by simp; rfl) (Runs.run tok hX (by simp; rfl)))) ?_
  refine W_rseqK [4] (Runs.step 2 tok hX (by simp; rfl) (Runs.mrgS 4 13 [17] (by simp; rfl) (by rfl) (fun b2_2 => by (try simp at b2_2); exact (Runs.step 2 tok hX (by simp [-atD_lt, -atL_lt]; rfl) (Runs.call [] rfl (by simp) rfl (by simp [-atD_lt, -atL_lt]; rfl) (by simp; rfl) (by apply ct_impl_world_typeKnown <;> first | assumption | omega | (simp at *; omega) | simp_all) cb_impl_world_typeKnown (by simp) (by simp) (by simp [-atD_lt, -atL_lt]; rfl) (Runs.run tok hX (by simp [-atD_lt, -atL_lt]; rfl))))) (fun b2_2 => by (try simp at b2_2); exact (Runs.run tok hX (by simp [-atD_lt, -atL_lt]; rfl))) (by rfl) (by rfl) (Runs.run tok hX (by simp; rfl)))) ?_
  refine W_ret ?_
  refine W_retR (by simp; rfl) (.of_eq ?_) rfl
  simp only [typeKnownW]
end Go.Proofs
namespace Go.Proofs
open Go Go.Ev


theorem cb_laws_FnExactTypeKnown : Callable Tryz.prog 8 := ⟨_, Tryz.func8, by kernel_rfl, by kernel_rfl⟩
set_option maxHeartbeats 2000000 in
set_option maxRecDepth 100000 in
theorem ct_laws_FnExactTypeKnown {l : List Cls} {t : Typ} (h : l.length < 4611686018427387904) (hb : ∀ y ∈ l, bigC y) (ht : bigT t) : Ct Tryz.prog 8 [.lst false 6 (l.map eC), eT t] [] (.bool true) [] := by
  refine Ct_bodyS tok Tryz.func8 rfl 38 (by kernel_rfl) (by kernel_rfl) fun X hX => ?_
  refine W_rseqK [0, 3] (Runs.run tok hX (by simp; rfl)) ?_
  refine W_rseqK [0, 3, 5] (Runs.run tok hX (by simp; rfl)) ?_
  refine W_rseqK [0, 3, 5] (Runs.step 2 tok hX (by simp; rfl) (Runs.call [] rfl (by simp) rfl (by simp; rfl) (by simp; rfl) (by apply ct_laws_szClassS <;> first | assumption | omega) cb_laws_szClassS (by simp) (by simp) (by simp; rfl) (Runs.run tok hX (by simp; rfl)))) ?_
  refine W_seq ?_
  refine W_rseqK [0, 3, 5, 13] (Runs.run tok hX (by simp; rfl)) ?_
  refine W_condS (by simp; rfl) (by rfl) (fun h3 => ?_) (fun h3 => ?_)
  · (try simp at h3)
    refine W_rseqK [4] (Runs.run tok hX (by simp; rfl)) ?_
    refine W_ret ?_
    refine W_retR (by simp [h3]; rfl) (.of_eq ?_) rfl
    simp_all
  · (try simp at h3)
    have hsz : l.length + (l.map sizeC).sum ≤ 1048576 := by unfold sub at h3; split at h3 <;> omega
    have hsL : sizeL l ≤ 1048576 := hsz
    have hs1 : sub 1048576 (l.length + (l.map sizeC).sum) ≤ 1048576 := by unfold sub; split <;> omega
    refine W_skip ?_
    refine W_rseqK [0, 3, 5] (Runs.step 2 tok hX (by simp [h3]; rfl) (Runs.call [] rfl (by simp) rfl (by simp [h3]; rfl) (by simp; rfl) (by apply ct_laws_szType <;> first | assumption | omega) cb_laws_szType (by simp) (by simp) (by simp [h3]; rfl) (Runs.run tok hX (by simp; rfl)))) ?_
    refine W_seq ?_
    refine W_rseqK [0, 3, 18] (Runs.run tok hX (by simp; rfl)) ?_
    refine W_condS (by simp; rfl) (by rfl) (fun h6 => ?_) (fun h6 => ?_)
    · (try simp at h6)
      refine W_rseqK [4] (Runs.run tok hX (by simp; rfl)) ?_
      refine W_ret ?_
      refine W_retR (by simp [h3, h6]; rfl) (.of_eq ?_) rfl
      simp_all
    · (try simp at h6)
      refine W_skip ?_
      refine W_hseqK (n := 3) (A := [0, 2]) (B := [1]) [0, 3, 6] ([0]) hmo (by kernel_rfl) tok hX (by simp [h3, h6]; rfl) (.cons rfl (by simp) (fun X hX => (Runs.callF rfl (by simp) rfl (by simp [h3, h6]; rfl) (by apply ct_laws_toClassS <;> first | assumption | omega | exact fun y hy => Nat.le_trans (mem_sum hy) (by omega)) cb_laws_toClassS (by simp [h3, h6]; rfl) (Runs.fin (by (try simp); rfl)))) (by simp; rfl) .nil) (Runs.call [] rfl (by simp) rfl (by simp [h3, h6]; rfl) (by simp; rfl) (by apply ct_laws_toType <;> first | assumption | omega) cb_laws_toType (by simp) (by simp) (by simp [h3, h6]; rfl) (Runs.call [] rfl (by simp) rfl (by simp [h3, h6]; rfl) (by simp; rfl) (by apply ct_spec_TypeKnown <;> first | assumption | omega) cb_spec_TypeKnown (by simp) (by simp) (by simp [h3, h6]; rfl) (Runs.run tok hX (by simp; rfl)))) ?_
      refine W_rseqK [0, 3, 6, 7] (Runs.step 1 tok hX (by simp; rfl) (Runs.callF rfl (by simp) rfl (by simp [h3, h6]; rfl) (by apply ct_laws_toClassS <;> first | assumption | omega | exact fun y hy => Nat.le_trans (mem_sum hy) (by omega)) cb_laws_toClassS (by simp [h3, h6]; rfl) (Runs.run tok hX (by simp; rfl)))) ?_
      refine W_rseqK [0, 6, 7, 8] (Runs.step 2 tok hX (by simp [h3, h6]; rfl) (Runs.call [] rfl (by simp) rfl (by simp [h3, h6]; rfl) (by simp; rfl) (by apply ct_laws_toType <;> first | assumption | omega) cb_laws_toType (by simp) (by simp) (by simp [h3, h6]; rfl) (Runs.call [] rfl (by simp) rfl (by simp [h3, h6]; rfl) (by simp; rfl) (by apply ct_impl_TypeKnown <;> first | assumption | omega) cb_impl_TypeKnown (by simp) (by simp) (by simp [h3, h6]; rfl) (Runs.run tok hX (by simp; rfl))))) ?_
      refine W_seq ?_
      refine W_rseqK [0, 7, 32] (Runs.run tok hX (by simp; rfl)) ?_
      refine W_condS (by simp; rfl) (by rfl) (fun h11 => ?_) (fun h11 => ?_)
      · (try simp at h11)
        all_goals
          refine W_rseqK [4] (Runs.run tok hX (by simp; rfl)) ?_
          refine W_ret ?_
          refine W_retR (by simp [h3, h6]; rfl) (.of_eq ?_) rfl
          simp_all
      · (try simp at h11)
        all_goals
          refine W_skip ?_
          refine W_seq ?_
          refine W_rseqK [37] (Runs.step 2 tok hX (by simp; rfl) (Runs.callF rfl (by simp) rfl (by simp [h3, h6]; rfl) (by apply ct_laws_toClassS <;> first | assumption | omega | exact fun y hy => Nat.le_trans (mem_sum hy) (by omega)) cb_laws_toClassS (by simp [h3, h6]; rfl) (Runs.call [] rfl (by simp) rfl (by simp [h3, h6]; rfl) (by simp; rfl) (by apply ct_laws_eqClassS <;> first | assumption | omega) cb_laws_eqClassS (by simp) (by simp) (by simp [h3, h6]; rfl) (Runs.run tok hX (by simp; rfl))))) ?_
          refine W_condS (by simp; rfl) (by rfl) (fun h13 => ?_) (fun h13 => ?_)
          · (try simp at h13)
            all_goals
              refine W_rseqK [4] (Runs.run tok hX (by simp; rfl)) ?_
              refine W_ret ?_
              refine W_retR (by simp [h3, h6]; rfl) (.of_eq ?_) rfl
              simp_all
          · (try simp at h13)
            all_goals
              refine W_skip ?_
              refine W_rseqK [4] (Runs.run tok hX (by simp; rfl)) ?_
              refine W_ret ?_
              refine W_retR (by simp [h3, h6]; rfl) (.of_eq ?_) rfl
              simp_all
end Go.Proofs
namespace Go.Proofs
open Go Go.Ev
abbrev tcT : List Tc := [.int .i64, .str, .int .i64]
theorem decT {vs : List V} (h : okL tcT vs) : ∃ x : Typ, V.agg vs = eT x ∧ bigT x := by
  obtain ⟨_, _, rfl, h0, h⟩ := okL_cons h
  obtain ⟨_, _, rfl, h1, h⟩ := okL_cons h
  obtain ⟨_, _, rfl, h2, h⟩ := okL_cons h
  obtain rfl := okL_nil h
  obtain ⟨a, rfl, _⟩ := okC_int h0
  obtain ⟨b, rfl, hb⟩ := okC_str h1
  obtain ⟨c, rfl, _⟩ := okC_int h2
  exact ⟨⟨a, b, c⟩, rfl, by simp only [bigT]; omega⟩
abbrev aT : Bool × List Tc := (false, tcT)
theorem okA_T {r : List (Bool × List Tc)} {vs : List V} (h : okA (aT :: r) vs) : ∃ (t : Typ) (ws : List V), vs = eT t :: ws ∧ bigT t ∧ okA r ws := by
  obtain ⟨v, ws, rfl, h1, h2⟩ := okA_cons h
  simp only [Bool.false_eq_true, if_false] at h1
  obtain ⟨us, rfl, h1⟩ := h1
  obtain ⟨t, e, hb⟩ := decT h1
  exact ⟨t, ws, by rw [e], hb, h2⟩
end Go.Proofs
