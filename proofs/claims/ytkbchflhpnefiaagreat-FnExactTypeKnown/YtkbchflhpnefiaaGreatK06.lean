/- Part 7 of what the proofs lean on: what the functions of the program and of the reference compute. Conditions: none. -/
import Derived.Test.YtkbchflhpnefiaaGreatK05
set_option linter.all false
set_option linter.unusedVariables false
set_option linter.unusedSimpArgs false
namespace Go.Proofs
open Go Go.Ev


theorem cb_spec_InsRight : Callable Tryz.prog 112 := ⟨_, Tryz.func112, by kernel_rfl, by kernel_rfl⟩
set_option maxHeartbeats 2000000 in
set_option maxRecDepth 100000 in
theorem ct_spec_InsRight {x : Ins} (h : sizeI x ≤ 1099511627776) : Ct Tryz.prog 112 [eI x] [] (.bool (insRight x)) [] := by
  simp only [sizeI] at h
  refine Ct_bodyS tok Tryz.func112 rfl 145 (by kernel_rfl) (by kernel_rfl) fun X hX => ?_
  refine W_rseqK [1] (Runs.run tok hX (by simp; rfl)) ?_
  refine W_seq ?_
  refine W_rseqK [1, 5] (Runs.step 2 tok hX (by simp; rfl) (Runs.call [] rfl (by simp) rfl (by simp; rfl) (by simp; rfl) (by apply ct_spec_OpForm <;> first | assumption | omega | (simp at *; omega) | simp_all) cb_spec_OpForm (by simp) (by simp) (by simp; rfl) (Runs.fin (by (try simp); rfl)))) ?_
  refine W_block ?_
  refine W_rseqK [1, 5, 6] (Runs.run tok hX (by simp; rfl)) ?_
  refine W_condS (by simp; rfl) (by rfl) (fun h2 => ?_) (fun h2 => ?_)
  · (try simp at h2)
    refine W_rseqK [2] (Runs.step 4 tok hX (by simp; rfl) (Runs.mrgS 3 11 [14] (by simp; rfl) (by rfl) (fun b3_4 => by (try simp at b3_4); exact (Runs.step 1 tok hX (by simp [-atD_lt, -atL_lt]; rfl) (Runs.call [] rfl (by simp) rfl (by simp [-atD_lt, -atL_lt]; rfl) (by simp; rfl) (by apply ct_spec_l03Empty <;> first | assumption | omega | (simp at *; omega) | simp_all) cb_spec_l03Empty (by simp) (by simp) (by simp [-atD_lt, -atL_lt]; rfl) (Runs.run tok hX (by simp [-atD_lt, -atL_lt]; rfl))))) (fun b3_4 => by (try simp at b3_4); exact (Runs.run tok hX (by simp [-atD_lt, -atL_lt]; rfl))) (by rfl) (by rfl) (Runs.run tok hX (by simp; rfl)))) ?_
    refine W_ret ?_
    refine W_retR (by simp; rfl) (.of_eq ?_) rfl
    (try simp_all [insRight, insEmpty, isInt, init]) <;> grind
  · (try simp at h2)
    refine W_rseqK [1, 5, 15] (Runs.run tok hX (by simp; rfl)) ?_
    refine W_condS (by simp; rfl) (by rfl) (fun h4 => ?_) (fun h4 => ?_)
    · (try simp at h4)
      refine W_rseqK [2] (Runs.step 2 tok hX (by simp; rfl) (Runs.call [] rfl (by simp) rfl (by simp; rfl) (by simp; rfl) (by apply ct_spec_l01Int <;> first | assumption | omega | (simp at *; omega) | simp_all) cb_spec_l01Int (by simp) (by simp) (by simp; rfl) (Runs.step 1 tok hX (by simp; rfl) (Runs.mrgS 3 20 [23] (by simp; rfl) (by rfl) (fun b5_4 => by (try simp at b5_4); exact (Runs.step 1 tok hX (by simp [-atD_lt, -atL_lt]; rfl) (Runs.call [] rfl (by simp) rfl (by simp [-atD_lt, -atL_lt]; rfl) (by simp; rfl) (by apply ct_spec_l03Empty <;> first | assumption | omega | (simp at *; omega) | simp_all) cb_spec_l03Empty (by simp) (by simp) (by simp [-atD_lt, -atL_lt]; rfl) (Runs.run tok hX (by simp [-atD_lt, -atL_lt]; rfl))))) (fun b5_4 => by (try simp at b5_4); exact (Runs.run tok hX (by simp [-atD_lt, -atL_lt]; rfl))) (by rfl) (by rfl) (Runs.run tok hX (by simp; rfl)))))) ?_
      refine W_ret ?_
      refine W_retR (by simp; rfl) (.of_eq ?_) rfl
      (try simp_all [insRight, insEmpty, isInt, init]) <;> grind
    · (try simp at h4)
      refine W_rseqK [1, 5, 24] (Runs.run tok hX (by simp; rfl)) ?_
      refine W_condS (by simp; rfl) (by rfl) (fun h6 => ?_) (fun h6 => ?_)
      · (try simp at h6)
        refine W_rseqK [2] (Runs.step 4 tok hX (by simp; rfl) (Runs.mrgS 4 29 [1, 33] (by simp; rfl) (by rfl) (fun b7_4 => by (try simp at b7_4); exact (Runs.run tok hX (by simp [-atD_lt, -atL_lt, b7_4]; rfl))) (fun b7_4 => by (try simp at b7_4); exact (Runs.run tok hX (by simp [-atD_lt, -atL_lt]; rfl))) (by rfl) (by rfl) (Runs.step 1 tok hX (by simp; rfl) (Runs.mrgS 3 34 [37] (by simp; rfl) (by rfl) (fun b7_9 => by (try simp at b7_9); exact (Runs.step 1 tok hX (by simp [-atD_lt, -atL_lt, b7_9]; rfl) (Runs.call [] rfl (by simp) rfl (by simp [-atD_lt, -atL_lt, b7_9]; rfl) (by simp; rfl) (by apply ct_spec_l03Empty <;> first | assumption | omega | (simp at *; omega) | simp_all) cb_spec_l03Empty (by simp) (by simp) (by simp [-atD_lt, -atL_lt, b7_9]; rfl) (Runs.run tok hX (by simp [-atD_lt, -atL_lt]; rfl))))) (fun b7_9 => by (try simp at b7_9); exact (Runs.run tok hX (by simp [-atD_lt, -atL_lt]; rfl))) (by rfl) (by rfl) (Runs.run tok hX (by simp; rfl)))))) ?_
        refine W_ret ?_
        refine W_retR (by simp; rfl) (.of_eq ?_) rfl
        (try simp_all [insRight, insEmpty, isInt, init]) <;> grind
      · (try simp at h6)
        refine W_rseqK [1, 5, 38] (Runs.run tok hX (by simp; rfl)) ?_
        refine W_condS (by simp; rfl) (by rfl) (fun h8 => ?_) (fun h8 => ?_)
        · (try simp at h8)
          refine W_rseqK [2] (Runs.step 4 tok hX (by simp; rfl) (Runs.mrgS 4 43 [1, 47] (by simp; rfl) (by rfl) (fun b9_4 => by (try simp at b9_4); exact (Runs.run tok hX (by simp [-atD_lt, -atL_lt, b9_4]; rfl))) (fun b9_4 => by (try simp at b9_4); exact (Runs.run tok hX (by simp [-atD_lt, -atL_lt]; rfl))) (by rfl) (by rfl) (Runs.step 1 tok hX (by simp; rfl) (Runs.mrgS 3 48 [51] (by simp; rfl) (by rfl) (fun b9_9 => by (try simp at b9_9); exact (Runs.step 1 tok hX (by simp [-atD_lt, -atL_lt, b9_9]; rfl) (Runs.call [] rfl (by simp) rfl (by simp [-atD_lt, -atL_lt, b9_9]; rfl) (by simp; rfl) (by apply ct_spec_l03Empty <;> first | assumption | omega | (simp at *; omega) | simp_all) cb_spec_l03Empty (by simp) (by simp) (by simp [-atD_lt, -atL_lt, b9_9]; rfl) (Runs.run tok hX (by simp [-atD_lt, -atL_lt]; rfl))))) (fun b9_9 => by (try simp at b9_9); exact (Runs.run tok hX (by simp [-atD_lt, -atL_lt]; rfl))) (by rfl) (by rfl) (Runs.run tok hX (by simp; rfl)))))) ?_
          refine W_ret ?_
          refine W_retR (by simp; rfl) (.of_eq ?_) rfl
          (try simp_all [insRight, insEmpty, isInt, init]) <;> grind
        · (try simp at h8)
          refine W_rseqK [1, 5, 52] (Runs.run tok hX (by simp; rfl)) ?_
          refine W_condS (by simp; rfl) (by rfl) (fun h10 => ?_) (fun h10 => ?_)
          · (try simp at h10)
            refine W_rseqK [2] (Runs.step 4 tok hX (by simp; rfl) (Runs.mrgS 4 57 [1, 61] (by simp; rfl) (by rfl) (fun b11_4 => by (try simp at b11_4); exact (Runs.step 2 tok hX (by simp [-atD_lt, -atL_lt]; rfl) (Runs.call [] rfl (by simp) rfl (by simp [-atD_lt, -atL_lt]; rfl) (by simp; rfl) (by apply ct_spec_NameRight <;> first | assumption | omega | (simp at *; omega) | simp_all) cb_spec_NameRight (by simp) (by simp) (by simp [-atD_lt, -atL_lt]; rfl) (Runs.run tok hX (by simp [-atD_lt, -atL_lt]; rfl))))) (fun b11_4 => by (try simp at b11_4); exact (Runs.run tok hX (by simp [-atD_lt, -atL_lt]; rfl))) (by rfl) (by rfl) (Runs.step 1 tok hX (by simp; rfl) (Runs.mrgS 4 62 [1, 66] (by simp; rfl) (by rfl) (fun b11_9 => by (try simp at b11_9); exact (Runs.run tok hX (by simp [-atD_lt, -atL_lt]; rfl))) (fun b11_9 => by (try simp at b11_9); exact (Runs.run tok hX (by simp [-atD_lt, -atL_lt]; rfl))) (by rfl) (by rfl) (Runs.step 1 tok hX (by simp; rfl) (Runs.mrgS 4 67 [71] (by simp; rfl) (by rfl) (fun b11_14 => by (try simp at b11_14); exact (Runs.run tok hX (by simp [-atD_lt, -atL_lt]; rfl))) (fun b11_14 => by (try simp at b11_14); exact (Runs.run tok hX (by simp [-atD_lt, -atL_lt]; rfl))) (by rfl) (by rfl) (Runs.run tok hX (by simp; rfl)))))))) ?_
            refine W_ret ?_
            refine W_retR (by simp; rfl) (.of_eq ?_) rfl
            (try simp_all [insRight, insEmpty, isInt, init]) <;> grind
          · (try simp at h10)
            refine W_rseqK [1, 5, 72] (Runs.run tok hX (by simp; rfl)) ?_
            refine W_condS (by simp; rfl) (by rfl) (fun h12 => ?_) (fun h12 => ?_)
            · (try simp at h12)
              refine W_rseqK [2] (Runs.step 4 tok hX (by simp; rfl) (Runs.mrgS 4 77 [1, 81] (by simp; rfl) (by rfl) (fun b13_4 => by (try simp at b13_4); exact (Runs.run tok hX (by simp [-atD_lt, -atL_lt]; rfl))) (fun b13_4 => by (try simp at b13_4); exact (Runs.run tok hX (by simp [-atD_lt, -atL_lt]; rfl))) (by rfl) (by rfl) (Runs.step 1 tok hX (by simp; rfl) (Runs.mrgS 4 82 [1, 86] (by simp; rfl) (by rfl) (fun b13_9 => by (try simp at b13_9); exact (Runs.run tok hX (by simp [-atD_lt, -atL_lt]; rfl))) (fun b13_9 => by (try simp at b13_9); exact (Runs.run tok hX (by simp [-atD_lt, -atL_lt]; rfl))) (by rfl) (by rfl) (Runs.step 1 tok hX (by simp; rfl) (Runs.mrgS 4 87 [1, 91] (by simp; rfl) (by rfl) (fun b13_14 => by (try simp at b13_14); exact (Runs.step 2 tok hX (by simp [-atD_lt, -atL_lt]; rfl) (Runs.call [] rfl (by simp) rfl (by simp [-atD_lt, -atL_lt]; rfl) (by simp; rfl) (by apply ct_spec_TypeRight <;> first | assumption | omega | (simp at *; omega) | simp_all) cb_spec_TypeRight (by simp) (by simp) (by simp [-atD_lt, -atL_lt]; rfl) (Runs.run tok hX (by simp [-atD_lt, -atL_lt]; rfl))))) (fun b13_14 => by (try simp at b13_14); exact (Runs.run tok hX (by simp [-atD_lt, -atL_lt]; rfl))) (by rfl) (by rfl) (Runs.step 1 tok hX (by simp; rfl) (Runs.mrgS 5 92 [97] (by simp; rfl) (by rfl) (fun b13_19 => by (try simp at b13_19); (have hlt := (len_of_typeRight b13_19.2).1; have hat := isAt_lt (n := 91) hlt); exact (Runs.run tok hX (by simp [-atD_lt, -atL_lt, hlt]; rfl))) (fun b13_19 => by (try simp at b13_19); exact (Runs.run tok hX (by simp [-atD_lt, -atL_lt]; rfl))) (by rfl) (by rfl) (Runs.run tok hX (by simp; rfl)))))))))) ?_
              refine W_ret ?_
              refine W_retR (by simp; rfl) (.of_eq ?_) rfl
              by_cases hd : typeRight x.desc = true
              · have hlt := (len_of_typeRight hd).1
                have hat := isAt_lt (n := 91) hlt
                have had := atD_lt hlt
                (try simp_all [insRight, insEmpty]) <;> grind
              · (try simp_all [insRight, insEmpty]) <;> grind
            · (try simp at h12)
              refine W_rseqK [1, 5, 98] (Runs.run tok hX (by simp; rfl)) ?_
              refine W_condS (by simp; rfl) (by rfl) (fun h14 => ?_) (fun h14 => ?_)
              · (try simp at h14)
                refine W_rseqK [2] (Runs.step 4 tok hX (by simp; rfl) (Runs.mrgS 4 103 [1, 107] (by simp; rfl) (by rfl) (fun b15_4 => by (try simp at b15_4); exact (Runs.step 2 tok hX (by simp [-atD_lt, -atL_lt]; rfl) (Runs.call [] rfl (by simp) rfl (by simp [-atD_lt, -atL_lt]; rfl) (by simp; rfl) (by apply ct_spec_NameRight <;> first | assumption | omega | (simp at *; omega) | simp_all) cb_spec_NameRight (by simp) (by simp) (by simp [-atD_lt, -atL_lt]; rfl) (Runs.run tok hX (by simp [-atD_lt, -atL_lt]; rfl))))) (fun b15_4 => by (try simp at b15_4); exact (Runs.run tok hX (by simp [-atD_lt, -atL_lt]; rfl))) (by rfl) (by rfl) (Runs.step 1 tok hX (by simp; rfl) (Runs.mrgS 4 108 [1, 112] (by simp; rfl) (by rfl) (fun b15_9 => by (try simp at b15_9); exact (Runs.step 2 tok hX (by simp [-atD_lt, -atL_lt]; rfl) (Runs.call [] rfl (by simp) rfl (by simp [-atD_lt, -atL_lt]; rfl) (by simp; rfl) (by apply ct_spec_NameRight <;> first | assumption | omega | (simp at *; omega) | simp_all) cb_spec_NameRight (by simp) (by simp) (by simp [-atD_lt, -atL_lt]; rfl) (Runs.run tok hX (by simp [-atD_lt, -atL_lt]; rfl))))) (fun b15_9 => by (try simp at b15_9); exact (Runs.run tok hX (by simp [-atD_lt, -atL_lt]; rfl))) (by rfl) (by rfl) (Runs.step 1 tok hX (by simp; rfl) (Runs.mrgS 4 113 [117] (by simp; rfl) (by rfl) (fun b15_14 => by (try simp at b15_14); exact (Runs.step 2 tok hX (by simp [-atD_lt, -atL_lt]; rfl) (Runs.call [] rfl (by simp) rfl (by simp [-atD_lt, -atL_lt]; rfl) (by simp; rfl) (by apply ct_spec_TypeRight <;> first | assumption | omega | (simp at *; omega) | simp_all) cb_spec_TypeRight (by simp) (by simp) (by simp [-atD_lt, -atL_lt]; rfl) (Runs.run tok hX (by simp [-atD_lt, -atL_lt]; rfl))))) (fun b15_14 => by (try simp at b15_14); exact (Runs.run tok hX (by simp [-atD_lt, -atL_lt]; rfl))) (by rfl) (by rfl) (Runs.run tok hX (by simp; rfl)))))))) ?_
                refine W_ret ?_
                refine W_retR (by simp; rfl) (.of_eq ?_) rfl
                (try simp_all [insRight, insEmpty, isInt, init]) <;> grind
              · (try simp at h14)
                refine W_rseqK [1, 118] (Runs.run tok hX (by simp; rfl)) ?_
                refine W_condS (by simp; rfl) (by rfl) (fun h16 => ?_) (fun h16 => ?_)
                · (try simp at h16)
                  refine W_rseqK [2] (Runs.step 4 tok hX (by simp; rfl) (Runs.mrgS 4 123 [1, 127] (by simp; rfl) (by rfl) (fun b17_4 => by (try simp at b17_4); exact (Runs.step 2 tok hX (by simp [-atD_lt, -atL_lt]; rfl) (Runs.call [] rfl (by simp) rfl (by simp [-atD_lt, -atL_lt]; rfl) (by simp; rfl) (by apply ct_spec_NameRight <;> first | assumption | omega | (simp at *; omega) | simp_all) cb_spec_NameRight (by simp) (by simp) (by simp [-atD_lt, -atL_lt]; rfl) (Runs.run tok hX (by simp [-atD_lt, -atL_lt]; rfl))))) (fun b17_4 => by (try simp at b17_4); exact (Runs.run tok hX (by simp [-atD_lt, -atL_lt]; rfl))) (by rfl) (by rfl) (Runs.step 1 tok hX (by simp; rfl) (Runs.mrgS 9 128 [1, 137] (by simp; rfl) (by rfl) (fun b17_9 => by (try simp at b17_9); exact (Runs.step 2 tok hX (by simp [-atD_lt, -atL_lt]; rfl) (Runs.call [] rfl (by simp) rfl (by simp [-atD_lt, -atL_lt]; rfl) (by simp; rfl) (by apply ct_spec_NameRight <;> first | assumption | omega | (simp at *; omega) | simp_all) cb_spec_NameRight (by simp) (by simp) (by simp [-atD_lt, -atL_lt]; rfl) (Runs.step 1 tok hX (by simp [-atD_lt, -atL_lt]; rfl) (Runs.mrgS 4 132 [1, 128, 136] (by simp; rfl) (by rfl) (fun b17_13 => by (try simp at b17_13); exact (Runs.run tok hX (by simp [-atD_lt, -atL_lt]; rfl))) (fun b17_13 => by (try simp at b17_13); exact (Runs.run tok hX (by simp [-atD_lt, -atL_lt]; rfl))) (by rfl) (by rfl) (Runs.run tok hX (by simp [-atD_lt, -atL_lt]; rfl))))))) (fun b17_9 => by (try simp at b17_9); exact (Runs.run tok hX (by simp [-atD_lt, -atL_lt]; rfl))) (by rfl) (by rfl) (Runs.step 1 tok hX (by simp; rfl) (Runs.mrgS 6 138 [144] (by simp; rfl) (by rfl) (fun b17_19 => by (try simp at b17_19); exact (Runs.step 2 tok hX (by simp [-atD_lt, -atL_lt]; rfl) (Runs.callF rfl (by simp) rfl (by simp [-atD_lt, -atL_lt]; rfl) (by apply ct_spec_DescRead <;> first | assumption | omega | (simp at *; omega) | simp_all) cb_spec_DescRead (by simp [-atD_lt, -atL_lt]; rfl) (Runs.run tok hX (by simp [-atD_lt, -atL_lt]; rfl))))) (fun b17_19 => by (try simp at b17_19); exact (Runs.run tok hX (by simp [-atD_lt, -atL_lt]; rfl))) (by rfl) (by rfl) (Runs.run tok hX (by simp; rfl)))))))) ?_
                  refine W_ret ?_
                  refine W_retR (by simp; rfl) (.of_eq ?_) rfl
                  (try simp_all [insRight, insEmpty, isInt, init]) <;> grind
                · (try simp at h16)
                  refine W_skip ?_
                  refine W_rseqK [2] (Runs.run tok hX (by simp; rfl)) ?_
                  refine W_ret ?_
                  refine W_retR (by simp; rfl) (.of_eq ?_) rfl
                  (try simp_all [insRight, insEmpty, isInt, init]) <;> grind
end Go.Proofs
namespace Go.Proofs
open Go Go.Ev


theorem cb_spec_l03Handler : Callable Tryz.prog 114 := ⟨_, Tryz.func114, by kernel_rfl, by kernel_rfl⟩
set_option maxHeartbeats 2000000 in
set_option maxRecDepth 100000 in
theorem ct_spec_l03Handler {x : Hdl} {n : Int} (h : x.cls.length ≤ 1099511627776) : Ct Tryz.prog 114 [eH x, .int .i64 n] [] (.bool (hdlRight n x)) [] := by
  refine Ct_bodyS tok Tryz.func114 rfl 37 (by kernel_rfl) (by kernel_rfl) fun X hX => ?_
  refine W_rseqK [1, 2] (Runs.run tok hX (by simp; rfl)) ?_
  refine W_rseqK [4] (Runs.step 4 tok hX (by simp; rfl) (Runs.mrgS 6 8 [1, 2, 14] (by simp; rfl) (by rfl) (fun b1_4 => by (try simp at b1_4); exact (Runs.run tok hX (by simp [-atD_lt, -atL_lt, b1_4]; rfl))) (fun b1_4 => by (try simp at b1_4); exact (Runs.run tok hX (by simp [-atD_lt, -atL_lt]; rfl))) (by rfl) (by rfl) (Runs.step 1 tok hX (by simp; rfl) (Runs.mrgS 5 15 [1, 2, 20] (by simp; rfl) (by rfl) (fun b1_11 => by (try simp at b1_11); exact (Runs.run tok hX (by simp [-atD_lt, -atL_lt, b1_11]; rfl))) (fun b1_11 => by (try simp at b1_11); exact (Runs.run tok hX (by simp [-atD_lt, -atL_lt]; rfl))) (by rfl) (by rfl) (Runs.step 1 tok hX (by simp; rfl) (Runs.mrgS 4 21 [1, 2, 25] (by simp; rfl) (by rfl) (fun b1_17 => by (try simp at b1_17); exact (Runs.run tok hX (by simp [-atD_lt, -atL_lt, b1_17]; rfl))) (fun b1_17 => by (try simp at b1_17); exact (Runs.run tok hX (by simp [-atD_lt, -atL_lt]; rfl))) (by rfl) (by rfl) (Runs.step 1 tok hX (by simp; rfl) (Runs.mrgS 5 26 [2, 31] (by simp; rfl) (by rfl) (fun b1_22 => by (try simp at b1_22); exact (Runs.run tok hX (by simp [-atD_lt, -atL_lt, b1_22]; rfl))) (fun b1_22 => by (try simp at b1_22); exact (Runs.run tok hX (by simp [-atD_lt, -atL_lt]; rfl))) (by rfl) (by rfl) (Runs.step 1 tok hX (by simp; rfl) (Runs.mrgS 4 32 [36] (by simp; rfl) (by rfl) (fun b1_28 => by (try simp at b1_28); exact (Runs.step 2 tok hX (by simp [-atD_lt, -atL_lt, b1_28]; rfl) (Runs.call [] rfl (by simp) rfl (by simp [-atD_lt, -atL_lt, b1_28]; rfl) (by simp; rfl) (by apply ct_spec_NameRight <;> first | assumption | omega | (simp at *; omega) | simp_all) cb_spec_NameRight (by simp) (by simp) (by simp [-atD_lt, -atL_lt, b1_28]; rfl) (Runs.run tok hX (by simp [-atD_lt, -atL_lt]; rfl))))) (fun b1_28 => by (try simp at b1_28); exact (Runs.run tok hX (by simp [-atD_lt, -atL_lt]; rfl))) (by rfl) (by rfl) (Runs.run tok hX (by simp; rfl)))))))))))) ?_
  refine W_ret ?_
  refine W_retR (by simp; rfl) (.of_eq ?_) rfl
  (try simp_all [hdlRight]) <;> grind
end Go.Proofs
namespace Go.Proofs
open Go Go.Ev


theorem cb_spec_MethodRight : Callable Tryz.prog 80 := ⟨_, Tryz.func80, by kernel_rfl, by kernel_rfl⟩
set_option maxHeartbeats 2000000 in
set_option maxRecDepth 100000 in
theorem ct_spec_MethodRight {x : Mth} (h : sizeM x ≤ 1099511627776) : Ct Tryz.prog 80 [eM x] [] (.bool (mthRight x)) [] := by
  simp only [sizeM] at h
  refine Ct_bodyS tok Tryz.func80 rfl 180 (by kernel_rfl) (by kernel_rfl) fun X hX => ?_
  refine W_rseqK [1] (Runs.run tok hX (by simp; rfl)) ?_
  refine W_rseqK [1, 3] (Runs.step 2 tok hX (by simp; rfl) (Runs.callF rfl (by simp) rfl (by simp; rfl) (by apply ct_spec_DescRead <;> first | assumption | omega | (have := mem_sum (f := sizeI) (List.getElem_mem (l := x.code) (n := i) (by omega)); simp only [sizeI] at *; omega) | (have := mem_sum (f := sizeH) (List.getElem_mem (l := x.hdls) (n := i) (by omega)); simp only [sizeH] at *; omega)) cb_spec_DescRead (by simp; rfl) (Runs.run tok hX (by simp; rfl)))) ?_
  refine W_seq ?_
  refine W_rseqK [1, 3, 44] (Runs.step 2 tok hX (by simp; rfl) (Runs.call [] rfl (by simp) rfl (by simp; rfl) (by simp; rfl) (by apply ct_spec_NameRight <;> first | assumption | omega | (have := mem_sum (f := sizeI) (List.getElem_mem (l := x.code) (n := i) (by omega)); simp only [sizeI] at *; omega) | (have := mem_sum (f := sizeH) (List.getElem_mem (l := x.hdls) (n := i) (by omega)); simp only [sizeH] at *; omega)) cb_spec_NameRight (by simp) (by simp) (by simp; rfl) (Runs.step 2 tok hX (by simp; rfl) (Runs.mrgS 4 15 [1, 3, 19] (by simp; rfl) (by rfl) (fun b2_5 => by (try simp at b2_5); exact (Runs.run tok hX (by simp [-atD_lt, -atL_lt]; rfl))) (fun b2_5 => by (try simp at b2_5); exact (Runs.run tok hX (by simp [-atD_lt, -atL_lt]; rfl))) (by rfl) (by rfl) (Runs.step 1 tok hX (by simp; rfl) (Runs.mrgS 4 20 [1, 3, 24] (by simp; rfl) (by rfl) (fun b2_10 => by (try simp at b2_10); exact (Runs.run tok hX (by simp [-atD_lt, -atL_lt]; rfl))) (fun b2_10 => by (try simp at b2_10); exact (Runs.run tok hX (by simp [-atD_lt, -atL_lt]; rfl))) (by rfl) (by rfl) (Runs.step 1 tok hX (by simp; rfl) (Runs.mrgS 4 25 [1, 3, 29] (by simp; rfl) (by rfl) (fun b2_15 => by (try simp at b2_15); exact (Runs.run tok hX (by simp [-atD_lt, -atL_lt]; rfl))) (fun b2_15 => by (try simp at b2_15); exact (Runs.run tok hX (by simp [-atD_lt, -atL_lt]; rfl))) (by rfl) (by rfl) (Runs.step 1 tok hX (by simp; rfl) (Runs.mrgS 4 30 [1, 3, 34] (by simp; rfl) (by rfl) (fun b2_20 => by (try simp at b2_20); exact (Runs.run tok hX (by simp [-atD_lt, -atL_lt]; rfl))) (fun b2_20 => by (try simp at b2_20); exact (Runs.run tok hX (by simp [-atD_lt, -atL_lt, b2_20]; rfl))) (by rfl) (by rfl) (Runs.step 1 tok hX (by simp; rfl) (Runs.mrgS 4 35 [1, 3, 39] (by simp; rfl) (by rfl) (fun b2_25 => by (try simp at b2_25); exact (Runs.run tok hX (by simp [-atD_lt, -atL_lt]; rfl))) (fun b2_25 => by (try simp at b2_25); exact (Runs.run tok hX (by simp [-atD_lt, -atL_lt, b2_25]; rfl))) (by rfl) (by rfl) (Runs.step 1 tok hX (by simp; rfl) (Runs.mrgS 4 40 [1, 3, 44] (by simp; rfl) (by rfl) (fun b2_30 => by (try simp at b2_30); exact (Runs.run tok hX (by simp [-atD_lt, -atL_lt]; rfl))) (fun b2_30 => by (try simp at b2_30); exact (Runs.run tok hX (by simp [-atD_lt, -atL_lt, b2_30]; rfl))) (by rfl) (by rfl) (Runs.fin (by (try simp); rfl)))))))))))))))) ?_
  refine W_condS (by simp; rfl) (by rfl) (fun h2 => ?_) (fun h2 => ?_)
  · (try simp at h2)
    have hh : mthHead x = false := by unfold mthHead init; grind
    refine W_rseqK [2] (Runs.run tok hX (by simp; rfl)) ?_
    refine W_ret ?_
    refine W_retR (by simp [h2]; rfl) (.of_eq ?_) rfl
    rw [mthRight_no hh]
  · (try simp at h2)
    have hh : mthHead x = true := by unfold mthHead init; grind
    refine W_skip ?_
    refine W_seq ?_
    refine W_rseqK [1, 3, 46] (Runs.run tok hX (by simp [h2]; rfl)) ?_
    refine W_condS (by simp; rfl) (by rfl) (fun h4 => ?_) (fun h4 => ?_)
    · (try simp at h4)
      refine W_rseqK [2] (Runs.step 4 tok hX (by simp [h2]; rfl) (Runs.mrgS 4 50 [1, 54] (by simp; rfl) (by rfl) (fun b5_4 => by (try simp at b5_4); exact (Runs.run tok hX (by simp [-atD_lt, -atL_lt, h2]; rfl))) (fun b5_4 => by (try simp at b5_4); exact (Runs.run tok hX (by simp [-atD_lt, -atL_lt]; rfl))) (by rfl) (by rfl) (Runs.step 1 tok hX (by simp; rfl) (Runs.mrgS 5 55 [1, 60] (by simp; rfl) (by rfl) (fun b5_9 => by (try simp at b5_9); exact (Runs.run tok hX (by simp [-atD_lt, -atL_lt, h2]; rfl))) (fun b5_9 => by (try simp at b5_9); exact (Runs.run tok hX (by simp [-atD_lt, -atL_lt]; rfl))) (by rfl) (by rfl) (Runs.step 1 tok hX (by simp; rfl) (Runs.mrgS 5 61 [1, 66] (by simp; rfl) (by rfl) (fun b5_15 => by (try simp at b5_15); exact (Runs.run tok hX (by simp [-atD_lt, -atL_lt, h2]; rfl))) (fun b5_15 => by (try simp at b5_15); exact (Runs.run tok hX (by simp [-atD_lt, -atL_lt]; rfl))) (by rfl) (by rfl) (Runs.step 1 tok hX (by simp; rfl) (Runs.mrgS 4 67 [1, 71] (by simp; rfl) (by rfl) (fun b5_21 => by (try simp at b5_21); exact (Runs.run tok hX (by simp [-atD_lt, -atL_lt, h2]; rfl))) (fun b5_21 => by (try simp at b5_21); exact (Runs.run tok hX (by simp [-atD_lt, -atL_lt]; rfl))) (by rfl) (by rfl) (Runs.step 1 tok hX (by simp; rfl) (Runs.mrgS 4 72 [1, 76] (by simp; rfl) (by rfl) (fun b5_26 => by (try simp at b5_26); exact (Runs.run tok hX (by simp [-atD_lt, -atL_lt, h2]; rfl))) (fun b5_26 => by (try simp at b5_26); exact (Runs.run tok hX (by simp [-atD_lt, -atL_lt]; rfl))) (by rfl) (by rfl) (Runs.step 1 tok hX (by simp; rfl) (Runs.mrgS 4 77 [81] (by simp; rfl) (by rfl) (fun b5_31 => by (try simp at b5_31); exact (Runs.run tok hX (by simp [-atD_lt, -atL_lt, h2]; rfl))) (fun b5_31 => by (try simp at b5_31); exact (Runs.run tok hX (by simp [-atD_lt, -atL_lt]; rfl))) (by rfl) (by rfl) (Runs.run tok hX (by simp; rfl)))))))))))))) ?_
      refine W_ret ?_
      refine W_retR (by simp [h2]; rfl) (.of_eq ?_) rfl
      rw [mthRight_abs hh h4]
      simp [init]; grind
    · (try simp at h4)
      refine W_skip ?_
      refine W_rseqK [1, 3, 4] (Runs.run tok hX (by simp [h2]; rfl)) ?_
      refine W_rseqK [1, 3, 4, 5] (Runs.run tok hX (by simp [h2]; rfl)) ?_
      refine W_seq ?_
      refine W_rseqK [1, 3, 4, 5, 91] (Runs.run tok hX (by simp [h2]; rfl)) ?_
      refine' W_condS3 [1, 3, 4, 5] (by simp; rfl) (by rfl) (fun h8 => ?a1_1) (fun h8 => ?a0_1) ?ak_1
      case a1_1 =>
        (try simp at h8)
        refine W_reg (Runs.run tok hX (by simp; (try (simp (disch := omega) only [wrap_i64]; (try simp))); rfl)) ?_
        exact ⟨rfl, Eq.trans (by (try simp); rfl) (by rfl)⟩
      case a0_1 =>
        (try simp at h8)
        refine W_skip ?_
        exact ⟨rfl, Eq.trans (by (try simp); rfl) (by rfl)⟩
      case ak_1 =>
        refine W_le (Le.of_eq (by simp; rfl)) ?_
        have hpl := descRead_le x.desc
        have hw : IntKind.i64.wrap (((descRead x.desc).params.length : Int) + 1) = (descRead x.desc).params.length + 1 := wrap_i64 (by omega) (by omega)
        simp only [hw]
        refine W_seq ?_
        refine W_rseqK [1, 3, 4, 111] (Runs.step 3 tok hX (by simp; rfl) (Runs.mrgS 3 96 [1, 3, 4, 5, 99] (by simp; rfl) (by rfl) (fun b10_3 => by (try simp at b10_3); exact (Runs.run tok hX (by simp [-atD_lt, -atL_lt]; rfl))) (fun b10_3 => by (try simp at b10_3); exact (Runs.run tok hX (by simp [-atD_lt, -atL_lt]; rfl))) (by rfl) (by rfl) (Runs.step 1 tok hX (by simp; rfl) (Runs.mrgS 5 100 [1, 3, 4, 105] (by simp; rfl) (by rfl) (fun b10_7 => by (try simp at b10_7); exact (Runs.run tok hX (by simp [-atD_lt, -atL_lt]; rfl))) (fun b10_7 => by (try simp at b10_7); exact (Runs.run tok hX (by simp [-atD_lt, -atL_lt, h2, b10_7]; rfl))) (by rfl) (by rfl) (Runs.step 1 tok hX (by simp; rfl) (Runs.mrgS 5 106 [1, 3, 4, 111] (by simp; rfl) (by rfl) (fun b10_13 => by (try simp at b10_13); exact (Runs.run tok hX (by simp [-atD_lt, -atL_lt]; rfl))) (fun b10_13 => by (try simp at b10_13); exact (Runs.run tok hX (by simp [-atD_lt, -atL_lt, h2, b10_13]; rfl))) (by rfl) (by rfl) (Runs.fin (by (try simp); rfl)))))))) ?_
        refine W_condS (by simp; rfl) (by rfl) (fun h10 => ?_) (fun h10 => ?_)
        · (try simp at h10)
          rw [mthRight_out h4 (by unfold needs; grind)]
          refine W_rseqK [2] (Runs.run tok hX (by simp; rfl)) ?_
          refine W_ret ?_
          refine W_retR (by simp [h2, h10]; rfl) (.of_eq ?_) rfl
          rfl
        · (try simp at h10)
          rw [mthRight_in hh h4 (by unfold needs; grind)]
          refine W_skip ?_
          refine W_seq ?_
          refine W_rseqK [1, 3, 4, 6] (Runs.run tok hX (by simp; rfl)) ?_
          refine W_block ?_
          -- loop 0: live [1, 3, 4, 6]
          refine W_loopU (α := Nat) [1, 3, 4, 6] (fun i => [(6, .int .i64 i)]) (fun i => []) (fun i => i ≤ x.code.length ∧ (x.code.drop i).all (codeOK x.code.length) = x.code.all (codeOK x.code.length)) (fun i => x.code.length - i) (0) (fun i => by simp; rfl) (by simp) ?_ ?_
          · simp
          rintro i ⟨hi, hI⟩
          refine W_seq ?_
          refine W_rseqK [1, 3, 4, 6, 116] (Runs.run tok hX (by simp [h2, h10]; rfl)) ?_
          refine W_condS (by simp; rfl) (by rfl) (fun h13 => ?_) (fun h13 => ?_)
          · (try simp at h13)
            rw [all_drop h13] at hI
            refine W_skip ?_
            refine W_seq ?_
            refine W_block ?_
            refine W_rseqK [1, 3, 4, 6, 145] (Runs.step 5 tok hX (by simp [h2, h10, h13]; rfl) (Runs.call [] rfl (by simp) rfl (by simp [h2, h10, h13]; rfl) (by simp; rfl) (by apply ct_spec_InsRight <;> first | assumption | omega | (have := mem_sum (f := sizeI) (List.getElem_mem (l := x.code) (n := i) (by omega)); simp only [sizeI] at *; omega) | (have := mem_sum (f := sizeH) (List.getElem_mem (l := x.hdls) (n := i) (by omega)); simp only [sizeH] at *; omega)) cb_spec_InsRight (by simp) (by simp) (by simp [h2, h10, h13]; rfl) (Runs.step 2 tok hX (by simp; rfl) (Runs.mrgS 19 126 [1, 3, 4, 6, 145] (by simp; rfl) (by rfl) (fun b15_8 => by (try simp at b15_8); exact (Runs.run tok hX (by simp [-atD_lt, -atL_lt]; rfl))) (fun b15_8 => by (try simp at b15_8); exact (Runs.step 6 tok hX (by simp [-atD_lt, -atL_lt, h2, h10, h13]; rfl) (Runs.call [] rfl (by simp) rfl (by simp [-atD_lt, -atL_lt, h2, h10, h13]; rfl) (by simp; rfl) (by apply ct_spec_OpForm <;> first | assumption | omega | (have := mem_sum (f := sizeI) (List.getElem_mem (l := x.code) (n := i) (by omega)); simp only [sizeI] at *; omega) | (have := mem_sum (f := sizeH) (List.getElem_mem (l := x.hdls) (n := i) (by omega)); simp only [sizeH] at *; omega)) cb_spec_OpForm (by simp) (by simp) (by simp [-atD_lt, -atL_lt, h2, h10, h13]; rfl) (Runs.step 2 tok hX (by simp [-atD_lt, -atL_lt]; rfl) (Runs.mrgS 9 135 [1, 3, 4, 6, 126, 144] (by simp; rfl) (by rfl) (fun b15_17 => by (try simp at b15_17); exact (Runs.run tok hX (by simp [-atD_lt, -atL_lt, h2, h10, h13]; rfl))) (fun b15_17 => by (try simp at b15_17); exact (Runs.run tok hX (by simp [-atD_lt, -atL_lt]; rfl))) (by rfl) (by rfl) (Runs.run tok hX (by simp [-atD_lt, -atL_lt]; rfl))))))) (by rfl) (by rfl) (Runs.fin (by (try simp); rfl)))))) ?_
            refine W_condS (by simp; rfl) (by rfl) (fun h15 => ?_) (fun h15 => ?_)
            · (try simp at h15)
              refine W_rseqK [2] (Runs.run tok hX (by simp; rfl)) ?_
              refine W_ret ?_
              refine W_retR (by simp [h2, h10, h13, h15]; rfl) (.of_eq ?_) rfl
              simp only [atL_lt h13] at h15
              have : codeOK x.code.length x.code[i] = false := by unfold codeOK; grind
              simp [← hI, this]
            · (try simp at h15)
              simp only [atL_lt h13] at h15
              have h15b : codeOK x.code.length x.code[i] = true := by unfold codeOK; grind
              rw [h15b, Bool.true_and] at hI
              refine W_skip ?_
              refine W_reg (Runs.run tok hX (by simp; (try (simp (disch := omega) only [wrap_i64]; (try simp))); rfl)) ?_
              refine round_end (i + 1) [1, 3, 4, 6] (by simp [h2, h10, h13, h15]; try (simp (disch := omega) only [wrap_i64])) ?_ ?_
              · exact ⟨by omega, hI⟩
              · omega
          · (try simp at h13)
            rw [List.drop_eq_nil_of_le h13] at hI
            refine W_exit ?_
            refine W_seq ?_
            refine W_rseqK [1, 3, 4, 7] (Runs.run tok hX (by simp; rfl)) ?_
            refine W_block ?_
            -- loop 1: live [1, 3, 4, 7]
            refine W_loopU (α := Nat) [1, 3, 4, 7] (fun i => [(7, .int .i64 i)]) (fun i => []) (fun i => i ≤ x.hdls.length ∧ (x.hdls.drop i).all (hdlRight x.code.length) = x.hdls.all (hdlRight x.code.length)) (fun i => x.hdls.length - i) (0) (fun i => by simp; rfl) (by simp) ?_ ?_
            · simp
            rintro i ⟨hi2, hI2⟩
            refine W_seq ?_
            refine W_rseqK [1, 3, 4, 7, 150] (Runs.run tok hX (by simp [h2, h10, h13]; rfl)) ?_
            refine W_condS (by simp; rfl) (by rfl) (fun h18 => ?_) (fun h18 => ?_)
            · (try simp at h18)
              rw [all_drop h18] at hI2
              refine W_skip ?_
              refine W_seq ?_
              refine W_block ?_
              refine W_rseqK [1, 3, 4, 7, 160] (Runs.step 6 tok hX (by simp [h2, h10, h13, h18]; rfl) (Runs.call [] rfl (by simp) rfl (by simp [h2, h10, h13, h18]; rfl) (by simp; rfl) (by apply ct_spec_l03Handler <;> first | assumption | omega | (have := mem_sum (f := sizeI) (List.getElem_mem (l := x.code) (n := i) (by omega)); simp only [sizeI] at *; omega) | (have := mem_sum (f := sizeH) (List.getElem_mem (l := x.hdls) (n := i) (by omega)); simp only [sizeH] at *; omega)) cb_spec_l03Handler (by simp) (by simp) (by simp [h2, h10, h13, h18]; rfl) (Runs.run tok hX (by simp; rfl)))) ?_
              refine W_condS (by simp; rfl) (by rfl) (fun h20 => ?_) (fun h20 => ?_)
              · (try simp at h20)
                refine W_rseqK [2] (Runs.run tok hX (by simp; rfl)) ?_
                refine W_ret ?_
                refine W_retR (by simp [h2, h10, h13, h18]; rfl) (.of_eq ?_) rfl
                simp [← hI2, h20]
              · (try simp at h20)
                rw [h20, Bool.true_and] at hI2
                refine W_skip ?_
                refine W_reg (Runs.run tok hX (by simp; (try (simp (disch := omega) only [wrap_i64]; (try simp))); rfl)) ?_
                refine round_end (i + 1) [1, 3, 4, 7] (by simp [h2, h10, h13, h18]; try (simp (disch := omega) only [wrap_i64])) ?_ ?_
                · exact ⟨by omega, hI2⟩
                · omega
            · (try simp at h18)
              rw [List.drop_eq_nil_of_le h18] at hI2
              refine W_exit ?_
              refine W_rseqK [2] (Runs.step 4 tok hX (by simp [h2, h10, h13, h18]; rfl) (Runs.mrgS 15 164 [179] (by simp; rfl) (by rfl) (fun b22_4 => by (try simp at b22_4); exact (Runs.run tok hX (by simp [-atD_lt, -atL_lt]; rfl))) (fun b22_4 => by (try simp at b22_4); exact (Runs.step 4 tok hX (by simp [-atD_lt, -atL_lt, h2, h10, h13, h18]; rfl) (Runs.mrgS 4 168 [3, 164, 172] (by simp; rfl) (by rfl) (fun b22_8 => by (try simp at b22_8); exact (Runs.run tok hX (by simp [-atD_lt, -atL_lt, h2, h10, h13, h18]; rfl))) (fun b22_8 => by (try simp at b22_8); exact (Runs.run tok hX (by simp [-atD_lt, -atL_lt]; rfl))) (by rfl) (by rfl) (Runs.step 1 tok hX (by simp [-atD_lt, -atL_lt]; rfl) (Runs.mrgS 5 173 [164, 178] (by simp; rfl) (by rfl) (fun b22_13 => by (try simp at b22_13); exact (Runs.run tok hX (by simp [-atD_lt, -atL_lt, h2, h10, h13, h18]; rfl))) (fun b22_13 => by (try simp at b22_13); exact (Runs.run tok hX (by simp [-atD_lt, -atL_lt]; rfl))) (by rfl) (by rfl) (Runs.run tok hX (by simp [-atD_lt, -atL_lt]; rfl))))))) (by rfl) (by rfl) (Runs.run tok hX (by simp; rfl)))) ?_
              refine W_ret ?_
              refine W_retR (by simp [h2, h10, h13, h18]; rfl) (.of_eq ?_) rfl
              simp [← hI, ← hI2, init]; grind
end Go.Proofs
namespace Go.Proofs
open Go Go.Ev


theorem cb_spec_ClassRight : Callable Tryz.prog 47 := ⟨_, Tryz.func47, by kernel_rfl, by kernel_rfl⟩
set_option maxHeartbeats 2000000 in
set_option maxRecDepth 100000 in
theorem ct_spec_ClassRight {x : Cls} (h : sizeC x ≤ 1099511627776) : Ct Tryz.prog 47 [eC x] [] (.bool (clsRight x)) [] := by
  simp only [sizeC] at h
  refine Ct_bodyS tok Tryz.func47 rfl 137 (by kernel_rfl) (by kernel_rfl) fun X hX => ?_
  refine W_rseqK [1] (Runs.run tok hX (by simp; rfl)) ?_
  refine W_seq ?_
  refine W_rseqK [1, 44] (Runs.step 2 tok hX (by simp; rfl) (Runs.call [] rfl (by simp) rfl (by simp; rfl) (by simp; rfl) (by apply ct_spec_NameRight <;> first | assumption | omega | (have := mem_sum (f := sizeF) (List.getElem_mem h4); simp only [sizeF] at *; (try simp only [atL_lt h4]); omega) | (have := mem_sum (f := sizeM) (List.getElem_mem h14); omega)) cb_spec_NameRight (by simp) (by simp) (by simp; rfl) (Runs.step 2 tok hX (by simp; rfl) (Runs.mrgS 5 12 [1, 17] (by simp; rfl) (by rfl) (fun b1_5 => by (try simp at b1_5); exact (Runs.run tok hX (by simp [-atD_lt, -atL_lt]; rfl))) (fun b1_5 => by (try simp at b1_5); exact (Runs.step 2 tok hX (by simp [-atD_lt, -atL_lt]; rfl) (Runs.call [] rfl (by simp) rfl (by simp [-atD_lt, -atL_lt]; rfl) (by simp; rfl) (by apply ct_spec_NameRight <;> first | assumption | omega | (have := mem_sum (f := sizeF) (List.getElem_mem h4); simp only [sizeF] at *; (try simp only [atL_lt h4]); omega) | (have := mem_sum (f := sizeM) (List.getElem_mem h14); omega)) cb_spec_NameRight (by simp) (by simp) (by simp [-atD_lt, -atL_lt]; rfl) (Runs.run tok hX (by simp [-atD_lt, -atL_lt]; rfl))))) (by rfl) (by rfl) (Runs.step 1 tok hX (by simp; rfl) (Runs.mrgS 6 18 [1, 24] (by simp; rfl) (by rfl) (fun b1_11 => by (try simp at b1_11); exact (Runs.run tok hX (by simp [-atD_lt, -atL_lt]; rfl))) (fun b1_11 => by (try simp at b1_11); exact (Runs.run tok hX (by simp [-atD_lt, -atL_lt]; rfl))) (by rfl) (by rfl) (Runs.step 1 tok hX (by simp; rfl) (Runs.mrgS 7 25 [1, 32] (by simp; rfl) (by rfl) (fun b1_18 => by (try simp at b1_18); exact (Runs.run tok hX (by simp [-atD_lt, -atL_lt]; rfl))) (fun b1_18 => by (try simp at b1_18); exact (Runs.step 3 tok hX (by simp [-atD_lt, -atL_lt]; rfl) (Runs.mrgS 3 28 [1, 25, 31] (by simp; rfl) (by rfl) (fun b1_21 => by (try simp at b1_21); exact (Runs.run tok hX (by simp [-atD_lt, -atL_lt]; rfl))) (fun b1_21 => by (try simp at b1_21); exact (Runs.run tok hX (by simp [-atD_lt, -atL_lt]; rfl))) (by rfl) (by rfl) (Runs.run tok hX (by simp [-atD_lt, -atL_lt]; rfl))))) (by rfl) (by rfl) (Runs.step 1 tok hX (by simp; rfl) (Runs.mrgS 5 33 [1, 38] (by simp; rfl) (by rfl) (fun b1_26 => by (try simp at b1_26); exact (Runs.run tok hX (by simp [-atD_lt, -atL_lt]; rfl))) (fun b1_26 => by (try simp at b1_26); exact (Runs.run tok hX (by simp [-atD_lt, -atL_lt]; rfl))) (by rfl) (by rfl) (Runs.step 1 tok hX (by simp; rfl) (Runs.mrgS 5 39 [1, 44] (by simp; rfl) (by rfl) (fun b1_32 => by (try simp at b1_32); exact (Runs.run tok hX (by simp [-atD_lt, -atL_lt]; rfl))) (fun b1_32 => by (try simp at b1_32); exact (Runs.run tok hX (by simp [-atD_lt, -atL_lt, b1_32]; rfl))) (by rfl) (by rfl) (Runs.fin (by (try simp); rfl)))))))))))))) ?_
  refine W_condS (by simp; rfl) (by rfl) (fun h1 => ?_) (fun h1 => ?_)
  · (try simp at h1)
    have hh : clsHead x = false := by unfold clsHead; grind
    refine W_rseqK [2] (Runs.run tok hX (by simp; rfl)) ?_
    refine W_ret ?_
    refine W_retR (by simp [h1]; rfl) (.of_eq ?_) rfl
    simp [clsRight, hh]
  · (try simp at h1)
    have hh : clsHead x = true := by unfold clsHead; grind
    rw [show clsRight x = (fldsR [] x.fields && mthsR x.abstr [] x.methods) from by simp [clsRight, hh]]
    refine W_skip ?_
    refine W_seq ?_
    refine W_rseqK [1, 3] (Runs.run tok hX (by simp; rfl)) ?_
    refine W_block ?_
    -- loop 0: live [1, 3]
    refine W_loopU (α := Nat) [1, 3] (fun i => [(3, .int .i64 i)]) (fun i => []) (fun i => i ≤ x.fields.length ∧ fldsR (x.fields.take i) (x.fields.drop i) = fldsR [] x.fields) (fun i => x.fields.length - i) (0) (fun i => by simp; rfl) (by simp) ?_ ?_
    · simp
    rintro i ⟨hi, hI⟩
    refine W_seq ?_
    refine W_rseqK [1, 3, 49] (Runs.run tok hX (by simp [h1]; rfl)) ?_
    refine W_condS (by simp; rfl) (by rfl) (fun h4 => ?_) (fun h4 => ?_)
    · (try simp at h4)
      rw [List.drop_eq_getElem_cons h4] at hI
      simp only [fldsR] at hI
      refine W_skip ?_
      refine W_seq ?_
      refine W_block ?_
      refine W_seq ?_
      refine W_rseqK [1, 3, 69] (Runs.step 6 tok hX (by simp [h1, h4]; rfl) (Runs.call [] rfl (by simp) rfl (by simp [h1, h4]; rfl) (by simp; rfl) (by apply ct_spec_NameRight <;> first | assumption | omega | (have := mem_sum (f := sizeF) (List.getElem_mem h4); simp only [sizeF] at *; (try simp only [atL_lt h4]); omega) | (have := mem_sum (f := sizeM) (List.getElem_mem h14); omega)) cb_spec_NameRight (by simp) (by simp) (by simp [h1, h4]; rfl) (Runs.step 2 tok hX (by simp; rfl) (Runs.mrgS 9 60 [1, 3, 69] (by simp; rfl) (by rfl) (fun b6_9 => by (try simp at b6_9); exact (Runs.run tok hX (by simp [-atD_lt, -atL_lt]; rfl))) (fun b6_9 => by (try simp at b6_9); exact (Runs.step 6 tok hX (by simp [-atD_lt, -atL_lt, h1, h4]; rfl) (Runs.call [] rfl (by simp) rfl (by simp [-atD_lt, -atL_lt, h1, h4]; rfl) (by simp; rfl) (by apply ct_spec_TypeRight <;> first | assumption | omega | (have := mem_sum (f := sizeF) (List.getElem_mem h4); simp only [sizeF] at *; (try simp only [atL_lt h4]); omega) | (have := mem_sum (f := sizeM) (List.getElem_mem h14); omega)) cb_spec_TypeRight (by simp) (by simp) (by simp [-atD_lt, -atL_lt, h1, h4]; rfl) (Runs.run tok hX (by simp [-atD_lt, -atL_lt]; rfl))))) (by rfl) (by rfl) (Runs.fin (by (try simp); rfl)))))) ?_
      refine W_condS (by simp; rfl) (by rfl) (fun h6 => ?_) (fun h6 => ?_)
      · (try simp at h6)
        refine W_rseqK [2] (Runs.run tok hX (by simp; rfl)) ?_
        refine W_ret ?_
        refine W_retR (by simp [h1, h4]; rfl) (.of_eq ?_) rfl
        have h6b : (nameRight x.fields[i].name && typeRight x.fields[i].type) = false := by simp only [atL_lt h4] at h6; grind
        simp [← hI, h6b]
      · (try simp at h6)
        have h6b : (nameRight x.fields[i].name && typeRight x.fields[i].type) = true := by simp only [atL_lt h4] at h6; grind
        refine W_skip ?_
        refine W_rseqK [1, 3, 4] (Runs.run tok hX (by simp; rfl)) ?_
        refine W_block ?_
        -- loop 1: live [1, 3, 4]
        refine W_loopU (α := Nat) [1, 3, 4] (fun k => [(4, .int .i64 k)]) (fun k => []) (fun k => k ≤ i ∧ ((x.fields.take i).drop k).all (fun g => !decide (g.name = x.fields[i].name)) = (x.fields.take i).all (fun g => !decide (g.name = x.fields[i].name))) (fun k => i - k) (0) (fun k => by simp; rfl) (by simp) ?_ ?_
        · simp
        rintro k ⟨hk, hK⟩
        refine W_seq ?_
        refine W_rseqK [1, 3, 4, 72] (Runs.run tok hX (by simp; rfl)) ?_
        refine W_condS (by simp; rfl) (by rfl) (fun h9 => ?_) (fun h9 => ?_)
        · (try simp at h9)
          have hkl : k < (x.fields.take i).length := by simp; omega
          have hkf : k < x.fields.length := by omega
          rw [all_drop hkl, List.getElem_take] at hK
          refine W_skip ?_
          refine W_seq ?_
          refine W_block ?_
          refine W_dseqK [1, 3, 4, 87] hmo (by kernel_rfl) (RunsQ.run (n0 := 0) tok (by simp [h1, h4, h9, hkf]; rfl)) ?_
          refine W_condS (by simp; rfl) (by rfl) (fun h11 => ?_) (fun h11 => ?_)
          · (try simp at h11)
            refine W_rseqK [2] (Runs.run tok hX (by simp; rfl)) ?_
            refine W_ret ?_
            refine W_retR (by simp [h1, h4, h9, hkf]; rfl) (.of_eq ?_) rfl
            simp [← hI, ← hK, h11]
          · (try simp at h11)
            simp only [h11, decide_false, Bool.not_false, Bool.true_and] at hK
            refine W_skip ?_
            refine W_reg (Runs.run tok hX (by simp; (try (simp (disch := omega) only [wrap_i64]; (try simp))); rfl)) ?_
            refine round_end (k + 1) [1, 3, 4] (by simp [h1, h4, h9, hkf]; try (simp (disch := omega) only [wrap_i64])) ?_ ?_
            · exact ⟨by omega, hK⟩
            · omega
        · (try simp at h9)
          rw [List.drop_eq_nil_of_le (by simp; omega)] at hK
          simp only [List.all_nil] at hK
          refine W_exit ?_
          refine W_reg (Runs.run tok hX (by simp; (try (simp (disch := omega) only [wrap_i64]; (try simp))); rfl)) ?_
          refine round_end (i + 1) [1, 3] (by simp [h1, h4, h9]; try (simp (disch := omega) only [wrap_i64])) ?_ ?_
          · exact ⟨by omega, by rw [List.take_succ_eq_append_getElem h4, ← hI, h6b, ← hK]; simp⟩
          · omega
    · (try simp at h4)
      rw [List.drop_eq_nil_of_le h4] at hI
      simp only [fldsR] at hI
      rw [← hI, Bool.true_and]
      refine W_exit ?_
      refine W_seq ?_
      refine W_rseqK [1, 5] (Runs.run tok hX (by simp; rfl)) ?_
      refine W_block ?_
      -- loop 2: live [1, 5]
      refine W_loopU (α := Nat) [1, 5] (fun i => [(5, .int .i64 i)]) (fun i => []) (fun i => i ≤ x.methods.length ∧ mthsR x.abstr (x.methods.take i) (x.methods.drop i) = mthsR x.abstr [] x.methods) (fun i => x.methods.length - i) (0) (fun i => by simp; rfl) (by simp) ?_ ?_
      · simp
      rintro i ⟨hi2, hI2⟩
      refine W_seq ?_
      refine W_rseqK [1, 5, 92] (Runs.run tok hX (by simp [h1, h4]; rfl)) ?_
      refine W_condS (by simp; rfl) (by rfl) (fun h14 => ?_) (fun h14 => ?_)
      · (try simp at h14)
        rw [List.drop_eq_getElem_cons h14] at hI2
        simp only [mthsR] at hI2
        refine W_skip ?_
        refine W_seq ?_
        refine W_block ?_
        refine W_rseqK [1, 5, 6] (Runs.run tok hX (by simp [h1, h4, h14]; rfl)) ?_
        refine W_seq ?_
        refine W_rseqK [1, 5, 6, 111] (Runs.step 1 tok hX (by simp [h1, h4, h14]; rfl) (Runs.call [] rfl (by simp) rfl (by simp [h1, h4, h14]; rfl) (by simp; rfl) (by apply ct_spec_MethodRight <;> first | assumption | omega | (have := mem_sum (f := sizeF) (List.getElem_mem h4); simp only [sizeF] at *; (try simp only [atL_lt h4]); omega) | (have := mem_sum (f := sizeM) (List.getElem_mem h14); omega)) cb_spec_MethodRight (by simp) (by simp) (by simp [h1, h4, h14]; rfl) (Runs.step 2 tok hX (by simp; rfl) (Runs.mrgS 8 103 [1, 5, 6, 111] (by simp; rfl) (by rfl) (fun b17_4 => by (try simp at b17_4); exact (Runs.run tok hX (by simp [-atD_lt, -atL_lt]; rfl))) (fun b17_4 => by (try simp at b17_4); exact (Runs.step 3 tok hX (by simp [-atD_lt, -atL_lt, h1, h4, h14]; rfl) (Runs.mrgS 4 106 [1, 5, 6, 103, 110] (by simp; rfl) (by rfl) (fun b17_7 => by (try simp at b17_7); exact (Runs.run tok hX (by simp [-atD_lt, -atL_lt, h1, h4, h14]; rfl))) (fun b17_7 => by (try simp at b17_7); exact (Runs.run tok hX (by simp [-atD_lt, -atL_lt]; rfl))) (by rfl) (by rfl) (Runs.run tok hX (by simp [-atD_lt, -atL_lt]; rfl))))) (by rfl) (by rfl) (Runs.fin (by (try simp); rfl)))))) ?_
        refine W_condS (by simp; rfl) (by rfl) (fun h17 => ?_) (fun h17 => ?_)
        · (try simp at h17)
          refine W_rseqK [2] (Runs.run tok hX (by simp; rfl)) ?_
          refine W_ret ?_
          refine W_retR (by simp [h1, h4, h14]; rfl) (.of_eq ?_) rfl
          have h17b : (mthRight x.methods[i] && !(x.methods[i].abstr && !x.abstr)) = false := by grind
          rw [← hI2, h17b, Bool.false_and, Bool.false_and]
        · (try simp at h17)
          have h17b : (mthRight x.methods[i] && !(x.methods[i].abstr && !x.abstr)) = true := by grind
          refine W_skip ?_
          refine W_rseqK [1, 5, 6, 7] (Runs.run tok hX (by simp; rfl)) ?_
          refine W_block ?_
          -- loop 3: live [1, 5, 6, 7]
          refine W_loopU (α := Nat) [1, 5, 6, 7] (fun k => [(7, .int .i64 k)]) (fun k => []) (fun k => k ≤ i ∧ ((x.methods.take i).drop k).all (fun g => !(decide (g.name = x.methods[i].name) && decide (g.desc = x.methods[i].desc))) = (x.methods.take i).all (fun g => !(decide (g.name = x.methods[i].name) && decide (g.desc = x.methods[i].desc)))) (fun k => i - k) (0) (fun k => by simp; rfl) (by simp) ?_ ?_
          · simp
          rintro k ⟨hk2, hK2⟩
          refine W_seq ?_
          refine W_rseqK [1, 5, 6, 7, 114] (Runs.run tok hX (by simp; rfl)) ?_
          refine W_condS (by simp; rfl) (by rfl) (fun h20 => ?_) (fun h20 => ?_)
          · (try simp at h20)
            have hkl : k < (x.methods.take i).length := by simp; omega
            have hkf : k < x.methods.length := by omega
            rw [all_drop hkl, List.getElem_take] at hK2
            refine W_skip ?_
            refine W_seq ?_
            refine W_block ?_
            refine W_dseqK [1, 5, 6, 7, 136] hmo (by kernel_rfl) (RunsQ.step (n0 := 0) 10 tok (by simp [h1, h4, h14, h20, hkf]; rfl) (RunsQ.mrgS 10 126 [1, 5, 6, 7, 136] (by simp; rfl) (by rfl) (fun b22_10 => by (try simp at b22_10); exact (RunsQ.run (n0 := 0) tok (by simp [-atD_lt, -atL_lt, h1, h4, h14, h20, hkf]; rfl))) (fun b22_10 => by (try simp at b22_10); exact (RunsQ.run (n0 := 0) tok (by simp [-atD_lt, -atL_lt]; rfl))) (by rfl) (by rfl) (RunsQ.fin (by (try simp); rfl)))) ?_
            refine W_condS (by simp; rfl) (by rfl) (fun h22 => ?_) (fun h22 => ?_)
            · (try simp at h22)
              refine W_rseqK [2] (Runs.run tok hX (by simp; rfl)) ?_
              refine W_ret ?_
              refine W_retR (by simp [h1, h4, h14, h20, hkf]; rfl) (.of_eq ?_) rfl
              simp only [atL_lt hkf] at h22
              rw [← hI2, ← hK2, decide_eq_true h22.1, decide_eq_true h22.2]
              simp
            · (try simp at h22)
              simp only [atL_lt hkf] at h22
              have h22b : (!(decide (x.methods[k].name = x.methods[i].name) && decide (x.methods[k].desc = x.methods[i].desc))) = true := by simp; exact Decidable.not_or_of_imp h22
              rw [h22b, Bool.true_and] at hK2
              refine W_skip ?_
              refine W_reg (Runs.run tok hX (by simp; (try (simp (disch := omega) only [wrap_i64]; (try simp))); rfl)) ?_
              refine round_end (k + 1) [1, 5, 6, 7] (by simp [h1, h4, h14, h20, hkf]; try (simp (disch := omega) only [wrap_i64])) ?_ ?_
              · exact ⟨by omega, hK2⟩
              · omega
          · (try simp at h20)
            rw [List.drop_eq_nil_of_le (by simp; omega)] at hK2
            simp only [List.all_nil] at hK2
            refine W_exit ?_
            refine W_reg (Runs.run tok hX (by simp; (try (simp (disch := omega) only [wrap_i64]; (try simp))); rfl)) ?_
            refine round_endT (i + 1) [1, 5] 1 (by simp [hX]) (by simp) (by simp [h1, h4, h14, h20]; try (simp (disch := omega) only [wrap_i64])) ?_ ?_
            · exact ⟨by omega, by rw [List.take_succ_eq_append_getElem h14, ← hI2, h17b, ← hK2]; simp⟩
            · omega
      · (try simp at h14)
        rw [List.drop_eq_nil_of_le h14] at hI2
        simp only [mthsR] at hI2
        rw [← hI2]
        refine W_exit ?_
        refine W_rseqK [2] (Runs.run tok hX (by simp; rfl)) ?_
        refine W_ret ?_
        refine W_retR (by simp [h1, h4, h14]; rfl) (.of_eq ?_) rfl
        simp
end Go.Proofs
namespace Go.Proofs
open Go Go.Ev


theorem cb_spec_TypeClass : Callable Tryz.prog 115 := ⟨_, Tryz.func115, by kernel_rfl, by kernel_rfl⟩
set_option maxHeartbeats 2000000 in
set_option maxRecDepth 100000 in
theorem ct_spec_TypeClass {t : Str} (ht : t.length ≤ 1099511627776) : Ct Tryz.prog 115 [.str t] [] (.str (typeClass t)) [] := by
  refine Ct_bodyS tok Tryz.func115 rfl 24 (by kernel_rfl) (by kernel_rfl) fun X hX => ?_
  refine W_rseqK [0] (Runs.run tok hX (by simp; rfl)) ?_
  refine W_seq ?_
  refine W_rseqK [0, 10] (Runs.step 4 tok hX (by simp; rfl) (Runs.mrgS 4 6 [0, 10] (by simp; rfl) (by rfl) (fun b1_4 => by (try simp at b1_4); exact (Runs.run tok hX (by simp [-atD_lt, -atL_lt]; rfl))) (fun b1_4 => by (try simp at b1_4); exact (Runs.step 1 tok hX (by simp [-atD_lt, -atL_lt]; rfl) (Runs.call [] rfl (by simp) rfl (by simp [-atD_lt, -atL_lt, b1_4]; rfl) (by simp; rfl) (by apply ct_spec_TypeRight <;> first | assumption | omega | (simp at *; omega) | simp_all) cb_spec_TypeRight (by simp) (by simp) (by simp [-atD_lt, -atL_lt, b1_4]; rfl) (Runs.run tok hX (by simp [-atD_lt, -atL_lt]; rfl))))) (by rfl) (by rfl) (Runs.fin (by (try simp); rfl)))) ?_
  refine W_condS (by simp; rfl) (by rfl) (fun h1 => ?_) (fun h1 => ?_)
  · (try simp at h1)
    have hx : typeClass t = [] := by
      rw [typeClass, if_neg]
      rintro e
      have := (len_of_typeRight e).2
      rcases h1 with h1 | h1
      · omega
      · rw [h1] at e; cases e
    refine W_rseqK [2] (Runs.run tok hX (by simp; rfl)) ?_
    refine W_ret ?_
    refine W_retR (by simp [h1]; rfl) (.of_eq ?_) rfl
    rw [hx]
  · (try simp at h1)
    have hlt := (len_of_typeRight h1.2).1
    have hlt1 : 1 ≤ t.length := hlt
    have hlong := typeRight_long h1.2
    refine W_skip ?_
    refine W_seq ?_
    refine W_rseqK [0, 13] (Runs.run tok hX (by simp [h1, hlt, hlt1]; rfl)) ?_
    refine' W_condS3 [0] (by simp; rfl) (by rfl) (fun h3 => ?a1_1) (fun h3 => ?a0_1) ?ak_1
    case a1_1 =>
      (try simp at h3)
      refine W_reg (Runs.run tok hX (by simp [h1, hlt, hlt1]; rfl)) ?_
      exact ⟨rfl, Eq.trans (by (try simp); rfl) (by rfl)⟩
    case a0_1 =>
      (try simp at h3)
      refine W_skip ?_
      exact ⟨rfl, Eq.trans (by (try simp); rfl) (by rfl)⟩
    case ak_1 =>
      refine W_le (Le.of_eq (by simp; rfl)) ?_
      generalize hu : (bif _ then _ else t) = u
      have hu2 : u = if isAt t 0 91 then t.drop 1 else t := by rw [← hu, isAt_lt hlt]; simp [cond_eq_ite]
      have hx : typeClass t = tClass u := by rw [typeClass, if_pos h1.2, hu2]; split <;> rfl
      rw [hx]
      clear hu hx
      have hu0 : 0 < u.length := by
        rw [hu2]
        split
        · rename_i hb
          have := hlong.1 hb
          simp; omega
        · exact hlt
      have hul : u.length ≤ t.length := by rw [hu2]; split <;> simp
      have hu3 : isAt u 0 73 = false → 2 < u.length := by
        intro hb
        rw [hu2] at hb ⊢
        split at hb
        · rename_i hc
          rw [isAt_drop] at hb
          have := hlong.2.1 hc hb
          rw [if_pos hc]; simp; omega
        · rename_i hc
          rw [if_neg hc]
          exact hlong.2.2 (by simpa using hc) hb
      have hat := isAt_lt (n := 73) hu0
      refine W_seq ?_
      refine W_rseqK [0, 18] (Runs.run tok hX (by simp [h1, hlt, hlt1, hu0]; rfl)) ?_
      refine W_condS (by simp; rfl) (by rfl) (fun h5 => ?_) (fun h5 => ?_)
      · (try simp at h5)
        refine W_rseqK [2] (Runs.run tok hX (by simp; rfl)) ?_
        refine W_ret ?_
        refine W_retR (by simp [h1, hlt, hlt1, hu0]; rfl) (.of_eq ?_) rfl
        rw [tClass, if_pos (by rw [hat]; simpa using h5)]
      · (try simp at h5)
        have hat2 : isAt u 0 73 = false := by rw [hat]; simpa using h5
        have hu4 := hu3 hat2
        have hs1 : 0 ≤ (u.length : Int) - 1 := by omega
        have hs2 : ((u.length : Int) - 1).toNat = u.length - 1 := by omega
        have hs3 : u.length - 1 ≤ u.length := by omega
        have hs4 : 1 ≤ u.length - 1 := by omega
        have hs5 : 1 ≤ u.length := hu0
        refine W_skip ?_
        refine W_rseqK [2] (Runs.run tok hX (by simp [h1, hlt, hlt1, hu0, hs1, hs2, hs3, hs4, hs5]; (try (simp (disch := omega) only [wrap_i64]; (try simp [h1, hlt, hlt1, hu0, hs1, hs2, hs3, hs4, hs5]))); rfl)) ?_
        refine W_ret ?_
        refine W_retR (by simp [h1, hlt, hlt1, hu0, hs1, hs2, hs3, hs4, hs5]; rfl) (.of_eq ?_) rfl
        rw [tClass, if_neg (by simp [hat2])]
        simp [seg]
end Go.Proofs
namespace Go.Proofs
open Go Go.Ev


theorem cb_spec_l05Type : Callable Tryz.prog 82 := ⟨_, Tryz.func82, by kernel_rfl, by kernel_rfl⟩
set_option maxHeartbeats 2000000 in
set_option maxRecDepth 100000 in
theorem ct_spec_l05Type {l : List Cls} {t : Str} (hl : l.length ≤ 1099511627776) (ht : t.length ≤ 1099511627776) : Ct Tryz.prog 82 [.lst false 6 (l.map eC), .str t] [] (.bool (typeK l t)) [] := by
  refine Ct_bodyS tok Tryz.func82 rfl 15 (by kernel_rfl) (by kernel_rfl) fun X hX => ?_
  refine W_rseqK [0, 1] (Runs.run tok hX (by simp; rfl)) ?_
  refine W_rseqK [0, 5] (Runs.step 1 tok hX (by simp; rfl) (Runs.call [] rfl (by simp) rfl (by simp; rfl) (by simp; rfl) (by apply ct_spec_TypeClass <;> first | assumption | omega | (simp at *; omega) | simp_all) cb_spec_TypeClass (by simp) (by simp) (by simp; rfl) (Runs.run tok hX (by simp; rfl)))) ?_
  refine W_rseqK [4] (Runs.step 3 tok hX (by simp; rfl) (Runs.mrgS 4 10 [14] (by simp; rfl) (by rfl) (fun b2_3 => by (try simp at b2_3); exact (Runs.run tok hX (by simp [-atD_lt, -atL_lt]; rfl))) (fun b2_3 => by (try simp at b2_3); exact (Runs.step 2 tok hX (by simp [-atD_lt, -atL_lt]; rfl) (Runs.call [] rfl (by simp) rfl (by simp [-atD_lt, -atL_lt]; rfl) (by simp; rfl) (by apply ct_spec_l05Known <;> first | assumption | omega | (simp at *; omega) | simp_all) cb_spec_l05Known (by simp) (by simp) (by simp [-atD_lt, -atL_lt]; rfl) (Runs.run tok hX (by simp [-atD_lt, -atL_lt]; rfl))))) (by rfl) (by rfl) (Runs.run tok hX (by simp; rfl)))) ?_
  refine W_ret ?_
  refine W_retR (by simp; rfl) (.of_eq ?_) rfl
  (try simp_all [typeK])
end Go.Proofs
namespace Go.Proofs
open Go Go.Ev


theorem cb_spec_l05Desc : Callable Tryz.prog 83 := ⟨_, Tryz.func83, by kernel_rfl, by kernel_rfl⟩
set_option maxHeartbeats 2000000 in
set_option maxRecDepth 100000 in
theorem ct_spec_l05Desc {l : List Cls} {t : Str} (hl : l.length ≤ 1099511627776) (ht : t.length ≤ 1099511627776) : Ct Tryz.prog 83 [.lst false 6 (l.map eC), .str t] [] (.bool (descK l t)) [] := by
  have hpl := descRead_le t
  have hps := descRead_parts t
  refine Ct_bodyS tok Tryz.func83 rfl 29 (by kernel_rfl) (by kernel_rfl) fun X hX => ?_
  refine W_rseqK [0, 1] (Runs.run tok hX (by simp; rfl)) ?_
  refine W_rseqK [0, 5] (Runs.step 1 tok hX (by simp; rfl) (Runs.callF rfl (by simp) rfl (by simp; rfl) (by apply ct_spec_DescRead <;> first | assumption | omega | exact Nat.le_trans (hps.2 _ (List.getElem_mem _)) ht) cb_spec_DescRead (by simp; rfl) (Runs.run tok hX (by simp; rfl)))) ?_
  refine W_seq ?_
  refine W_rseqK [0, 5, 6] (Runs.run tok hX (by simp; rfl)) ?_
  refine W_block ?_
  -- loop 0: live [0, 5, 6]
  refine W_loopU (α := Nat) [0, 5, 6] (fun i => [(6, .int .i64 i)]) (fun i => []) (fun i => i ≤ (descRead t).params.length ∧ ((descRead t).params.drop i).all (typeK l) = (descRead t).params.all (typeK l)) (fun i => (descRead t).params.length - i) (0) (fun i => by simp; rfl) (by simp) ?_ ?_
  · simp
  rintro i ⟨hi, hI⟩
  refine W_seq ?_
  refine W_rseqK [0, 5, 6, 14] (Runs.run tok hX (by simp; rfl)) ?_
  refine W_condS (by simp; rfl) (by rfl) (fun h3 => ?_) (fun h3 => ?_)
  · (try simp at h3)
    rw [all_drop h3] at hI
    refine W_skip ?_
    refine W_seq ?_
    refine W_block ?_
    refine W_rseqK [0, 5, 6, 24] (Runs.step 6 tok hX (by simp [h3]; rfl) (Runs.call [] rfl (by simp) rfl (by simp [h3]; rfl) (by simp; rfl) (by apply ct_spec_l05Type <;> first | assumption | omega | exact Nat.le_trans (hps.2 _ (List.getElem_mem _)) ht) cb_spec_l05Type (by simp) (by simp) (by simp [h3]; rfl) (Runs.run tok hX (by simp; rfl)))) ?_
    refine W_condS (by simp; rfl) (by rfl) (fun h5 => ?_) (fun h5 => ?_)
    · (try simp at h5)
      refine W_rseqK [4] (Runs.run tok hX (by simp; rfl)) ?_
      refine W_ret ?_
      refine W_retR (by simp [h3]; rfl) (.of_eq ?_) rfl
      simp [descK, ← hI, h5]
    · (try simp at h5)
      rw [h5, Bool.true_and] at hI
      refine W_skip ?_
      refine W_reg (Runs.run tok hX (by simp; (try (simp (disch := omega) only [wrap_i64]; (try simp))); rfl)) ?_
      refine round_end (i + 1) [0, 5, 6] (by simp [h3]; try (simp (disch := omega) only [wrap_i64])) ?_ ?_
      · exact ⟨by omega, hI⟩
      · omega
  · (try simp at h3)
    rw [List.drop_eq_nil_of_le h3] at hI
    refine W_exit ?_
    refine W_rseqK [4] (Runs.step 3 tok hX (by simp [h3]; rfl) (Runs.call [] rfl (by simp) rfl (by simp [h3]; rfl) (by simp; rfl) (by apply ct_spec_l05Type <;> first | assumption | omega | exact Nat.le_trans (hps.2 _ (List.getElem_mem _)) ht) cb_spec_l05Type (by simp) (by simp) (by simp [h3]; rfl) (Runs.run tok hX (by simp; rfl)))) ?_
    refine W_ret ?_
    refine W_retR (by simp [h3]; rfl) (.of_eq ?_) rfl
    simp [descK, ← hI]
end Go.Proofs
namespace Go.Proofs
open Go Go.Ev


theorem cb_spec_l05Types : Callable Tryz.prog 50 := ⟨_, Tryz.func50, by kernel_rfl, by kernel_rfl⟩
set_option maxHeartbeats 2000000 in
set_option maxRecDepth 100000 in
theorem ct_spec_l05Types {l : List Cls} {x : Cls} (hl : l.length ≤ 1099511627776) (h : sizeC x ≤ 1099511627776) : Ct Tryz.prog 50 [.lst false 6 (l.map eC), eC x] [] (.bool (clsK l x)) [] := by
  simp only [sizeC] at h
  refine Ct_bodyS tok Tryz.func50 rfl 39 (by kernel_rfl) (by kernel_rfl) fun X hX => ?_
  refine W_rseqK [0, 3] (Runs.run tok hX (by simp; rfl)) ?_
  refine W_seq ?_
  refine W_rseqK [0, 3, 5] (Runs.run tok hX (by simp; rfl)) ?_
  refine W_block ?_
  -- loop 0: live [0, 3, 5]
  refine W_loopU (α := Nat) [0, 3, 5] (fun i => [(5, .int .i64 i)]) (fun i => []) (fun i => i ≤ x.fields.length ∧ (x.fields.drop i).all (fun f => typeK l f.type) = x.fields.all (fun f => typeK l f.type)) (fun i => x.fields.length - i) (0) (fun i => by simp; rfl) (by simp) ?_ ?_
  · simp
  rintro i ⟨hi, hI⟩
  refine W_seq ?_
  refine W_rseqK [0, 3, 5, 11] (Runs.run tok hX (by simp; rfl)) ?_
  refine W_condS (by simp; rfl) (by rfl) (fun h2 => ?_) (fun h2 => ?_)
  · (try simp at h2)
    rw [all_drop h2] at hI
    refine W_skip ?_
    refine W_seq ?_
    refine W_block ?_
    refine W_rseqK [0, 3, 5, 22] (Runs.step 7 tok hX (by simp [h2]; rfl) (Runs.call [] rfl (by simp) rfl (by simp [h2]; rfl) (by simp; rfl) (by apply ct_spec_l05Type <;> first | assumption | omega | (have := mem_sum (f := sizeF) (List.getElem_mem h2); simp only [sizeF] at *; omega) | (have := mem_sum (f := sizeM) (List.getElem_mem h7); simp only [sizeM] at *; omega)) cb_spec_l05Type (by simp) (by simp) (by simp [h2]; rfl) (Runs.run tok hX (by simp; rfl)))) ?_
    refine W_condS (by simp; rfl) (by rfl) (fun h4 => ?_) (fun h4 => ?_)
    · (try simp at h4)
      refine W_rseqK [4] (Runs.run tok hX (by simp; rfl)) ?_
      refine W_ret ?_
      refine W_retR (by simp [h2]; rfl) (.of_eq ?_) rfl
      simp [clsK, ← hI, h4]
    · (try simp at h4)
      rw [h4, Bool.true_and] at hI
      refine W_skip ?_
      refine W_reg (Runs.run tok hX (by simp; (try (simp (disch := omega) only [wrap_i64]; (try simp))); rfl)) ?_
      refine round_end (i + 1) [0, 3, 5] (by simp [h2]; try (simp (disch := omega) only [wrap_i64])) ?_ ?_
      · exact ⟨by omega, hI⟩
      · omega
  · (try simp at h2)
    rw [List.drop_eq_nil_of_le h2] at hI
    refine W_exit ?_
    refine W_seq ?_
    refine W_rseqK [0, 3, 6] (Runs.run tok hX (by simp; rfl)) ?_
    refine W_block ?_
    -- loop 1: live [0, 3, 6]
    refine W_loopU (α := Nat) [0, 3, 6] (fun i => [(6, .int .i64 i)]) (fun i => []) (fun i => i ≤ x.methods.length ∧ (x.methods.drop i).all (fun m => descK l m.desc) = x.methods.all (fun m => descK l m.desc)) (fun i => x.methods.length - i) (0) (fun i => by simp; rfl) (by simp) ?_ ?_
    · simp
    rintro i ⟨hi2, hI2⟩
    refine W_seq ?_
    refine W_rseqK [0, 3, 6, 27] (Runs.run tok hX (by simp [h2]; rfl)) ?_
    refine W_condS (by simp; rfl) (by rfl) (fun h7 => ?_) (fun h7 => ?_)
    · (try simp at h7)
      rw [all_drop h7] at hI2
      refine W_skip ?_
      refine W_seq ?_
      refine W_block ?_
      refine W_rseqK [0, 3, 6, 38] (Runs.step 7 tok hX (by simp [h2, h7]; rfl) (Runs.call [] rfl (by simp) rfl (by simp [h2, h7]; rfl) (by simp; rfl) (by apply ct_spec_l05Desc <;> first | assumption | omega | (have := mem_sum (f := sizeF) (List.getElem_mem h2); simp only [sizeF] at *; omega) | (have := mem_sum (f := sizeM) (List.getElem_mem h7); simp only [sizeM] at *; omega)) cb_spec_l05Desc (by simp) (by simp) (by simp [h2, h7]; rfl) (Runs.run tok hX (by simp; rfl)))) ?_
      refine W_condS (by simp; rfl) (by rfl) (fun h9 => ?_) (fun h9 => ?_)
      · (try simp at h9)
        refine W_rseqK [4] (Runs.run tok hX (by simp; rfl)) ?_
        refine W_ret ?_
        refine W_retR (by simp [h2, h7]; rfl) (.of_eq ?_) rfl
        simp [clsK, ← hI2, h9]
      · (try simp at h9)
        rw [h9, Bool.true_and] at hI2
        refine W_skip ?_
        refine W_reg (Runs.run tok hX (by simp; (try (simp (disch := omega) only [wrap_i64]; (try simp))); rfl)) ?_
        refine round_end (i + 1) [0, 3, 6] (by simp [h2, h7]; try (simp (disch := omega) only [wrap_i64])) ?_ ?_
        · exact ⟨by omega, hI2⟩
        · omega
    · (try simp at h7)
      rw [List.drop_eq_nil_of_le h7] at hI2
      refine W_exit ?_
      refine W_rseqK [4] (Runs.run tok hX (by simp; rfl)) ?_
      refine W_ret ?_
      refine W_retR (by simp [h2, h7]; rfl) (.of_eq ?_) rfl
      simp [clsK, ← hI, ← hI2]
end Go.Proofs
namespace Go.Proofs
open Go Go.Ev


theorem cb_spec_l05Method : Callable Tryz.prog 84 := ⟨_, Tryz.func84, by kernel_rfl, by kernel_rfl⟩
set_option maxHeartbeats 2000000 in
set_option maxRecDepth 100000 in
theorem ct_spec_l05Method {x : Cls} {n d : Str} (h : sizeC x ≤ 1099511627776) : Ct Tryz.prog 84 [eC x, .str n, .str d] [] (.int .i64 (mthFrom n d x.methods 0)) [] := by
  simp only [sizeC] at h
  refine Ct_bodyS tok Tryz.func84 rfl 34 (by kernel_rfl) (by kernel_rfl) fun X hX => ?_
  refine W_rseqK [1, 2, 3] (Runs.run tok hX (by simp; rfl)) ?_
  refine W_seq ?_
  refine W_rseqK [1, 2, 3, 7] (Runs.run tok hX (by simp; rfl)) ?_
  refine W_block ?_
  -- loop 0: live [1, 2, 3, 7]
  refine W_loopU (α := Nat) [1, 2, 3, 7] (fun i => [(7, .int .i64 i)]) (fun i => []) (fun i => i ≤ x.methods.length ∧ mthFrom n d (x.methods.drop i) i = mthFrom n d x.methods 0) (fun i => x.methods.length - i) (0) (fun i => by simp; rfl) (by simp) ?_ ?_
  · simp
  rintro i ⟨hi, hI⟩
  refine W_seq ?_
  refine W_rseqK [1, 2, 3, 7, 12] (Runs.run tok hX (by simp; rfl)) ?_
  refine W_condS (by simp; rfl) (by rfl) (fun h2 => ?_) (fun h2 => ?_)
  · (try simp at h2)
    rw [List.drop_eq_getElem_cons h2] at hI
    simp only [mthFrom] at hI
    refine W_skip ?_
    refine W_seq ?_
    refine W_block ?_
    refine W_rseqK [1, 2, 3, 7, 32] (Runs.step 9 tok hX (by simp [h2]; rfl) (Runs.mrgS 9 23 [1, 2, 3, 7, 32] (by simp; rfl) (by rfl) (fun b4_9 => by (try simp at b4_9); exact (Runs.run tok hX (by simp [-atD_lt, -atL_lt, h2]; rfl))) (fun b4_9 => by (try simp at b4_9); exact (Runs.run tok hX (by simp [-atD_lt, -atL_lt]; rfl))) (by rfl) (by rfl) (Runs.fin (by (try simp); rfl)))) ?_
    refine W_condS (by simp; rfl) (by rfl) (fun h4 => ?_) (fun h4 => ?_)
    · (try simp at h4)
      refine W_rseqK [6] (Runs.run tok hX (by simp; rfl)) ?_
      refine W_ret ?_
      refine W_retR (by simp [h2]; rfl) (.of_eq ?_) rfl
      simp only [atL_lt h2] at h4
      rw [← hI, if_pos h4]
    · (try simp at h4)
      simp only [atL_lt h2] at h4
      have h4c : ¬ (x.methods[i].name = n ∧ x.methods[i].desc = d) := fun e => h4 e.1 e.2
      refine W_skip ?_
      refine W_reg (Runs.run tok hX (by simp; (try (simp (disch := omega) only [wrap_i64]; (try simp))); rfl)) ?_
      refine round_end (i + 1) [1, 2, 3, 7] (by simp [h2]; try (simp (disch := omega) only [wrap_i64])) ?_ ?_
      · exact ⟨by omega, by rw [← hI, if_neg h4c]⟩
      · omega
  · (try simp at h2)
    refine W_exit ?_
    refine W_rseqK [6] (Runs.run tok hX (by simp; rfl)) ?_
    refine W_ret ?_
    refine W_retR (by simp [h2]; rfl) (.of_eq ?_) rfl
    simp [← hI, List.drop_eq_nil_of_le h2, mthFrom]
end Go.Proofs
namespace Go.Proofs
open Go Go.Ev


theorem cb_spec_l05Access : Callable Tryz.prog 51 := ⟨_, Tryz.func51, by kernel_rfl, by kernel_rfl⟩
set_option maxHeartbeats 2000000 in
set_option maxRecDepth 100000 in
theorem ct_spec_l05Access {l : List Cls} {i : Nat} (hl : sizeL l ≤ 1099511627776) (hi : i < l.length) (hu : findFrom l[i].name l 0 = i) (hEn : ∀ j : Nat, j < l.length → Ends l (l.length + 1) j) : Ct Tryz.prog 51 [.lst false 6 (l.map eC), eC l[i]] [] (.bool (accOK l i)) [] := by
  have hll : l.length ≤ 1099511627776 := by unfold sizeL at hl; omega
  have hsz : ∀ {k : Nat} (h : k < l.length), sizeC l[k] ≤ 1099511627776 := fun h => Nat.le_trans (sizeL_at h) hl
  have hE0 : Ends l l.length (nxt l i) := by obtain ⟨g, h1, h2⟩ := Ends_nat (hEn i hi); rw [show l.length = g from by omega]; exact h2
  refine Ct_bodyS tok Tryz.func51 rfl 112 (by kernel_rfl) (by kernel_rfl) fun X hX => ?_
  refine W_rseqK [0, 3] (Runs.run tok hX (by simp; rfl)) ?_
  refine W_seq ?_
  refine W_rseqK [0, 3, 5] (Runs.step 3 tok hX (by simp; rfl) (Runs.call [] rfl (by simp) rfl (by simp; rfl) (by simp; rfl) (by apply ct_spec_l05Find <;> first | assumption | omega | exact hsz (by assumption) | (rw [atL_lt (by assumption)]; exact hsz (by assumption)) | (have := hsz hp; simp only [sizeC] at this; omega) | (have := hsz hq; simp only [sizeC] at this; omega)) cb_spec_l05Find (by simp) (by simp) (by simp; rfl) (Runs.run tok hX (by simp; rfl)))) ?_
  refine W_block ?_
  -- loop 0: live [0, 3, 5]
  refine W_loopU (α := Nat × Int) [0, 3, 5] (fun a => [(5, .int .i64 a.2)]) (fun a => []) (fun a => Ends l a.1 a.2 ∧ (-1 ≤ a.2 ∧ a.2 < l.length) ∧ (∀ u ∈ ups l a.1 a.2, u ∈ ups l (l.length + 1) i) ∧ (ups l a.1 a.2).all (fun u => (atL l u).methods.all (okPair l l[i] i)) = accOK l i) (fun a => a.1) ((l.length, nxt l i)) (fun a => by simp; rfl) (by simp [nxt_nat, atL_lt hi]) ?_ ?_
  · exact ⟨hE0, @nxt_ge l i, fun u h => by rw [ups_nat]; exact List.mem_cons_of_mem _ h, by simp only [accOK, atL_lt hi]⟩
  rintro ⟨f, up⟩ ⟨hE, hup, hS, hI⟩
  simp only at hE hup hS hI
  refine W_seq ?_
  refine W_rseqK [0, 3, 5, 15] (Runs.run tok hX (by simp; rfl)) ?_
  refine W_condS (by simp; rfl) (by rfl) (fun h2 => ?_) (fun h2 => ?_)
  · (try simp at h2)
    obtain ⟨p, rfl⟩ : ∃ k : Nat, up = k := ⟨up.toNat, by omega⟩
    have hp : p < l.length := by omega
    obtain ⟨f, rfl, hE2⟩ := Ends_nat hE
    rw [ups_nat] at hI
    simp only [List.all_cons, atL_lt hp] at hI
    have hml : l[p].methods.length ≤ 1099511627776 := by have := hsz hp; simp only [sizeC] at this; omega
    refine W_skip ?_
    refine W_seq ?_
    refine W_block ?_
    refine W_rseqK [0, 3, 5, 6] (Runs.run tok hX (by simp; rfl)) ?_
    refine W_block ?_
    -- loop 1: live [0, 3, 5, 6]
    refine W_loopU (α := Nat) [0, 3, 5, 6] (fun j => [(6, .int .i64 j)]) (fun j => []) (fun j => j ≤ l[p].methods.length ∧ (l[p].methods.drop j).all (okPair l l[i] i) = l[p].methods.all (okPair l l[i] i)) (fun j => l[p].methods.length - j) (0) (fun j => by simp; rfl) (by simp) ?_ ?_
    · simp
    rintro j ⟨hj, hJ⟩
    refine W_seq ?_
    refine W_rseqK [0, 3, 5, 6, 30] (Runs.run tok hX (by simp [h2, hp]; rfl)) ?_
    refine W_condS (by simp; rfl) (by rfl) (fun h5 => ?_) (fun h5 => ?_)
    · (try simp at h5)
      rw [all_drop h5] at hJ
      refine W_skip ?_
      refine W_seq ?_
      refine W_block ?_
      refine W_rseqK [0, 3, 5, 6, 7] (Runs.run tok hX (by simp [h2, hp, h5]; rfl)) ?_
      refine W_seq ?_
      refine W_rseqK [0, 3, 5, 6, 7, 43] (Runs.run tok hX (by simp [h2, hp, h5]; rfl)) ?_
      refine W_condS (by simp; rfl) (by rfl) (fun h8 => ?_) (fun h8 => ?_)
      · (try simp at h8)
        have hq8 : okPair l l[i] i l[p].methods[j] = true := by simp [okPair, h8, init]
        have hJ2 := hJ
        rw [hq8, Bool.true_and] at hJ2
        refine W_exit ?_
        refine W_reg (Runs.run tok hX (by simp; (try (simp (disch := omega) only [wrap_i64]; (try simp))); rfl)) ?_
        refine round_endT (j + 1) [0, 3, 5, 6] 1 (by simp [hX]) (by simp) (by simp; try (simp (disch := omega) only [wrap_i64])) ?_ ?_
        · exact ⟨by omega, hJ2⟩
        · omega
      · (try simp at h8)
        refine W_skip ?_
        refine W_rseqK [0, 3, 5, 6, 7, 8] (Runs.step 5 tok hX (by simp [h2, hp, h5]; rfl) (Runs.call [] rfl (by simp) rfl (by simp [h2, hp, h5]; rfl) (by simp; rfl) (by apply ct_spec_l05Method <;> first | assumption | omega | exact hsz (by assumption) | (rw [atL_lt (by assumption)]; exact hsz (by assumption)) | (have := hsz hp; simp only [sizeC] at this; omega) | (have := hsz hq; simp only [sizeC] at this; omega)) cb_spec_l05Method (by simp) (by simp) (by simp [h2, hp, h5]; rfl) (Runs.run tok hX (by simp; rfl)))) ?_
        refine W_seq ?_
        refine W_dseqK [0, 3, 5, 6, 7, 66] hmo (by kernel_rfl) (RunsQ.step (n0 := 0) 3 tok (by simp; rfl) (RunsQ.mrgS 14 52 [0, 3, 5, 6, 7, 66] (by simp; rfl) (by rfl) (fun b10_3 => by (try simp at b10_3); (have hk8 := mthFrom_lt b10_3); exact (RunsQ.step (n0 := 0) 3 tok (by simp [-atD_lt, -atL_lt, h2, hp, h5, b10_3, hk8, hi]; rfl) (RunsQ.mrgS 10 55 [0, 3, 5, 6, 7, 52, 65] (by simp; rfl) (by rfl) (fun b10_6 => by (try simp at b10_6); exact (RunsQ.run (n0 := 0) tok (by simp [-atD_lt, -atL_lt]; rfl))) (fun b10_6 => by (try simp at b10_6); exact (RunsQ.run (n0 := 0) tok (by simp [-atD_lt, -atL_lt, h2, hp, h5, b10_3, hk8, hi]; rfl))) (by rfl) (by rfl) (RunsQ.run (n0 := 0) tok (by simp [-atD_lt, -atL_lt]; rfl))))) (fun b10_3 => by (try simp at b10_3); exact (RunsQ.run (n0 := 0) tok (by simp [-atD_lt, -atL_lt]; rfl))) (by rfl) (by rfl) (RunsQ.fin (by (try simp); rfl)))) ?_
        refine W_condS (by simp; rfl) (by rfl) (fun h10 => ?_) (fun h10 => ?_)
        · (try simp at h10)
          have hq10 : okPair l l[i] i l[p].methods[j] = false := by simp only [okPair, decide_eq_false (show ¬ l[p].methods[j].name = init from h8)]; simp; grind
          refine W_rseqK [4] (Runs.run tok hX (by simp; rfl)) ?_
          refine W_ret ?_
          refine W_retR (by simp [h2, hp, h5, h10]; rfl) (.of_eq ?_) rfl
          rw [← hI, ← hJ, hq10]; simp
        · (try simp at h10)
          have hq10 : okPair l l[i] i l[p].methods[j] = !(l[p].methods[j].abstr && !l[i].abstr && near l l[p].methods[j].name l[p].methods[j].desc (l.length + 1) i) := by simp only [okPair, decide_eq_false (show ¬ l[p].methods[j].name = init from h8)]; simp; grind
          refine W_skip ?_
          refine W_rseqK [0, 3, 5, 6, 7, 73] (Runs.step 3 tok hX (by simp [h2, hp, h5, h10]; rfl) (Runs.mrgS 4 69 [0, 3, 5, 6, 7, 73] (by simp; rfl) (by rfl) (fun b12_3 => by (try simp at b12_3); exact (Runs.run tok hX (by simp [-atD_lt, -atL_lt, h2, hp, h5, h10]; rfl))) (fun b12_3 => by (try simp at b12_3); exact (Runs.run tok hX (by simp [-atD_lt, -atL_lt]; rfl))) (by rfl) (by rfl) (Runs.fin (by (try simp); rfl)))) ?_
          refine W_condS (by simp; rfl) (by rfl) (fun h12 => ?_) (fun h12 => ?_)
          · (try simp at h12)
            refine W_rseqK [0, 3, 5, 6, 7, 9] (Runs.step 3 tok hX (by simp [h2, hp, h5, h10]; rfl) (Runs.call [] rfl (by simp) rfl (by simp [h2, hp, h5, h10]; rfl) (by simp; rfl) (by apply ct_spec_l05Find <;> first | assumption | omega | exact hsz (by assumption) | (rw [atL_lt (by assumption)]; exact hsz (by assumption)) | (have := hsz hp; simp only [sizeC] at this; omega) | (have := hsz hq; simp only [sizeC] at this; omega)) cb_spec_l05Find (by simp) (by simp) (by simp [h2, hp, h5, h10]; rfl) (Runs.run tok hX (by simp; rfl)))) ?_
            refine W_seq ?_
            refine W_block ?_
            -- loop 2: live [0, 3, 5, 6, 7, 9]
            refine W_loopU (α := Nat × Int) [0, 3, 5, 6, 7, 9] (fun a => [(9, .int .i64 a.2)]) (fun a => []) (fun a => Ends l a.1 a.2 ∧ (0 ≤ a.2 ∧ a.2 < l.length) ∧ near l l[p].methods[j].name l[p].methods[j].desc a.1 a.2 = near l l[p].methods[j].name l[p].methods[j].desc (l.length + 1) i ∧ ∃ u ∈ ups l a.1 a.2, 0 ≤ mthFrom l[p].methods[j].name l[p].methods[j].desc (atL l u).methods 0) (fun a => a.1) ((l.length + 1, (i : Int))) (fun a => by simp; rfl) (by simp [hu]) ?_ ?_
            · exact ⟨hEn i hi, by omega, rfl, p, hS p (by rw [ups_nat]; simp), by rw [atL_lt hp]; exact mthFrom_has h5⟩
            rintro ⟨g, q⟩ ⟨gE, gq, gN, gU⟩
            simp only at gE gq gN gU
            obtain ⟨q, rfl⟩ : ∃ k : Nat, q = k := ⟨q.toNat, by omega⟩
            have hq : q < l.length := by omega
            obtain ⟨g, rfl, gE2⟩ := Ends_nat gE
            rw [near_nat, atL_lt hq] at gN
            rw [ups_nat] at gU
            refine W_seq ?_
            refine W_dseqK [0, 3, 5, 6, 7, 9, 87] hmo (by kernel_rfl) (RunsQ.step (n0 := 0) 8 tok (by simp [h2, hp, h5, h10, hq]; rfl) (RunsQ.call rfl (by simp) rfl (by simp [h2, hp, h5, h10, hq]; rfl) (by apply ct_spec_l05Method <;> first | assumption | omega | exact hsz (by assumption) | (rw [atL_lt (by assumption)]; exact hsz (by assumption)) | (have := hsz hp; simp only [sizeC] at this; omega) | (have := hsz hq; simp only [sizeC] at this; omega)) cb_spec_l05Method rfl (RunsQ.run (n0 := 0) tok (by simp; rfl)))) ?_
            refine W_condS (by simp; rfl) (by rfl) (fun h14 => ?_) (fun h14 => ?_)
            · (try simp at h14)
              rw [if_neg (by (try simp only [atL_lt hq] at h14); omega)] at gN
              have gU2 : ∃ u ∈ ups l g (nxt l q), 0 ≤ mthFrom l[p].methods[j].name l[p].methods[j].desc (atL l u).methods 0 := by
                obtain ⟨u, h1, h2⟩ := gU
                rcases List.mem_cons.1 h1 with rfl | h1
                · rw [atL_lt hq] at h2; (try simp only [atL_lt hq] at h14); omega
                · exact ⟨u, h1, h2⟩
              have gP : 0 ≤ nxt l q := by
                obtain ⟨u, h1, _⟩ := gU2
                rcases Int.lt_or_le (nxt l q) 0 with h | h
                · cases g <;> simp [ups, h] at h1
                · exact h
              refine W_skip ?_
              refine W_block ?_
              refine W_reg (Runs.step 6 tok hX (by simp [h2, hp, h5, h10, hq, h14]; rfl) (Runs.call [] rfl (by simp) rfl (by simp [h2, hp, h5, h10, hq, h14]; rfl) (by simp; rfl) (by apply ct_spec_l05Find <;> first | assumption | omega | exact hsz (by assumption) | (rw [atL_lt (by assumption)]; exact hsz (by assumption)) | (have := hsz hp; simp only [sizeC] at this; omega) | (have := hsz hq; simp only [sizeC] at this; omega)) cb_spec_l05Find (by simp) (by simp) (by simp [h2, hp, h5, h10, hq, h14]; rfl) (Runs.run tok hX (by simp; rfl)))) ?_
              refine round_end ((g, nxt l q)) [0, 3, 5, 6, 7, 9] (by simp [nxt_nat, hq]) ?_ ?_
              · exact ⟨gE2, ⟨gP, (@nxt_ge l q).2⟩, gN, gU2⟩
              · simp
            · (try simp at h14)
              have h14b := mthFrom_lt h14
              rw [if_pos h14, atL_lt h14b] at gN
              refine W_exit ?_
              refine W_dseqK [0, 3, 5, 6, 111] hmo (by kernel_rfl) (RunsQ.step (n0 := 0) 13 tok (by simp [h2, hp, h5, h10, hq, h14, hq, h14b, h14]; rfl) (RunsQ.call rfl (by simp) rfl (by simp [h2, hp, h5, h10, hq, h14, hq, h14b, h14]; rfl) (by apply ct_spec_l05Method <;> first | assumption | omega | exact hsz (by assumption) | (rw [atL_lt (by assumption)]; exact hsz (by assumption)) | (have := hsz hp; simp only [sizeC] at this; omega) | (have := hsz hq; simp only [sizeC] at this; omega)) cb_spec_l05Method rfl (RunsQ.run (n0 := 0) tok (by simp [h2, hp, h5, h10, hq, h14, hq, h14b, h14]; rfl)))) ?_
              refine W_condS (by simp; rfl) (by rfl) (fun h16 => ?_) (fun h16 => ?_)
              · (try simp at h16)
                have hq16 : okPair l l[i] i l[p].methods[j] = false := by rw [hq10, ← gN, h16]; grind
                refine W_rseqK [4] (Runs.run tok hX (by simp; rfl)) ?_
                refine W_ret ?_
                refine W_retR (by simp [h2, hp, h5, h10, hq, h14, hq, h14b, h14]; rfl) (.of_eq ?_) rfl
                rw [← hI, ← hJ, hq16]; simp
              · (try simp at h16)
                have hq16 : okPair l l[i] i l[p].methods[j] = true := by rw [hq10, ← gN, h16]; simp
                have hJ2 := hJ
                rw [hq16, Bool.true_and] at hJ2
                refine W_skip ?_
                refine W_reg (Runs.run tok hX (by simp; (try (simp (disch := omega) only [wrap_i64]; (try simp))); rfl)) ?_
                refine round_endT (j + 1) [0, 3, 5, 6] 1 (by simp [hX]) (by simp) (by simp; try (simp (disch := omega) only [wrap_i64])) ?_ ?_
                · exact ⟨by omega, hJ2⟩
                · omega
          · (try simp at h12)
            have hJ2 := hJ
            rw [hq10, show (l[p].methods[j].abstr && !l[i].abstr) = false from by grind] at hJ2
            simp only [Bool.false_and, Bool.not_false, Bool.true_and] at hJ2
            refine W_skip ?_
            refine W_reg (Runs.run tok hX (by simp; (try (simp (disch := omega) only [wrap_i64]; (try simp))); rfl)) ?_
            refine round_endT (j + 1) [0, 3, 5, 6] 1 (by simp [hX]) (by simp) (by simp; try (simp (disch := omega) only [wrap_i64])) ?_ ?_
            · exact ⟨by omega, hJ2⟩
            · omega
    · (try simp at h5)
      rw [List.drop_eq_nil_of_le h5] at hJ
      simp only [List.all_nil] at hJ
      rw [← hJ, Bool.true_and] at hI
      refine W_exit ?_
      refine W_reg (Runs.step 6 tok hX (by simp [h2, hp, h5]; rfl) (Runs.call [] rfl (by simp) rfl (by simp [h2, hp, h5]; rfl) (by simp; rfl) (by apply ct_spec_l05Find <;> first | assumption | omega | exact hsz (by assumption) | (rw [atL_lt (by assumption)]; exact hsz (by assumption)) | (have := hsz hp; simp only [sizeC] at this; omega) | (have := hsz hq; simp only [sizeC] at this; omega)) cb_spec_l05Find (by simp) (by simp) (by simp [h2, hp, h5]; rfl) (Runs.run tok hX (by simp; rfl)))) ?_
      refine round_end ((f, nxt l p)) [0, 3, 5] (by simp [nxt_nat, hp]) ?_ ?_
      · exact ⟨hE2, @nxt_ge l p, fun u h => hS u (by rw [ups_nat]; exact List.mem_cons_of_mem _ h), hI⟩
      · simp
  · (try simp at h2)
    have hnil : ups l f up = [] := by cases f <;> simp [ups, h2]
    rw [hnil] at hI
    refine W_exit ?_
    refine W_rseqK [4] (Runs.run tok hX (by simp; rfl)) ?_
    refine W_ret ?_
    refine W_retR (by simp [h2]; rfl) (.of_eq ?_) rfl
    simp [← hI]
end Go.Proofs
namespace Go.Proofs
open Go Go.Ev


theorem cb_spec_WorldCheck : Callable Tryz.prog 20 := ⟨_, Tryz.func20, by kernel_rfl, by kernel_rfl⟩
set_option maxHeartbeats 2000000 in
set_option maxRecDepth 100000 in
theorem ct_spec_WorldCheck {l : List Cls} (hl : sizeL l ≤ 1099511627776) : Ct Tryz.prog 20 [.lst false 6 (l.map eC)] [] (.agg [.int .i64 (worldCheck l).1, .int .i64 (worldCheck l).2]) [] := by
  have hll : l.length ≤ 1099511627776 := by unfold sizeL at hl; omega
  have hsz : ∀ {k : Nat} (h : k < l.length), sizeC l[k] ≤ 1099511627776 := fun h => Nat.le_trans (sizeL_at h) hl
  refine Ct_bodyS tok Tryz.func20 rfl 162 (by kernel_rfl) (by kernel_rfl) fun X hX => ?_
  refine W_rseqK [0, 2] (Runs.run tok hX (by simp; rfl)) ?_
  refine W_seq ?_
  refine W_rseqK [0, 2, 13] (Runs.run tok hX (by simp; rfl)) ?_
  refine W_condS (by simp; rfl) (by rfl) (fun h1 => ?_) (fun h1 => ?_)
  · (try simp at h1)
    refine W_rseqK [2] (Runs.run tok hX (by simp [h1]; rfl)) ?_
    refine W_ret ?_
    refine W_retR (by simp [h1]; rfl) (.of_eq ?_) rfl
    simp [worldCheck, h1]
  · (try simp at h1)
    refine W_skip ?_
    refine W_seq ?_
    refine W_rseqK [0, 2, 17] (Runs.run tok hX (by simp [h1]; rfl)) ?_
    refine W_condS (by simp; rfl) (by rfl) (fun h3 => ?_) (fun h3 => ?_)
    · (try simp at h3)
      refine W_rseqK [2] (Runs.run tok hX (by simp [h1, h3]; rfl)) ?_
      refine W_ret ?_
      refine W_retR (by simp [h1, h3]; rfl) (.of_eq ?_) rfl
      have h1b : ¬ 400 < l.length := by omega
      simp [worldCheck, h1b, h3]
    · (try simp at h3)
      rw [show worldCheck l = checkAll l from by unfold worldCheck; rw [if_neg (by omega), if_neg (by omega)]]
      refine W_skip ?_
      refine W_seq ?_
      refine W_rseqK [0, 2, 3] (Runs.run tok hX (by simp; rfl)) ?_
      refine W_block ?_
      -- loop 0: live [0, 2, 3]
      refine W_loopU (α := Nat) [0, 2, 3] (fun i => [(3, .int .i64 i)]) (fun i => []) (fun i => i ≤ l.length ∧ firstBad (pass1 l) (l.length - i) i = firstBad (pass1 l) l.length 0) (fun i => l.length - i) (0) (fun i => by simp; rfl) (by simp) ?_ ?_
      · simp
      rintro i ⟨hi1, hI1⟩
      refine W_seq ?_
      refine W_rseqK [0, 2, 3, 22] (Runs.run tok hX (by simp [h1, h3]; rfl)) ?_
      refine W_condS (by simp; rfl) (by rfl) (fun h6 => ?_) (fun h6 => ?_)
      · (try simp at h6)
        rw [show l.length - i = (l.length - (i + 1)) + 1 from by omega] at hI1
        simp only [firstBad] at hI1
        refine W_skip ?_
        refine W_seq ?_
        refine W_block ?_
        refine W_seq ?_
        refine W_rseqK [0, 2, 3, 30] (Runs.step 4 tok hX (by simp [h1, h3, h6]; rfl) (Runs.call [] rfl (by simp) rfl (by simp [h1, h3, h6]; rfl) (by simp; rfl) (by apply ct_spec_ClassRight <;> first | assumption | omega | exact hsz (by assumption) | (rw [atL_lt (by assumption)]; exact hsz (by assumption)) | (have := hsz h22; simp only [sizeC] at this; omega) | (have := hsz h13; simp only [sizeC] at this; omega) | (have := hsz h6; simp only [sizeC] at this; (try simp only [atL_lt h6]); omega)| (have := hsz h26; simp only [sizeC] at this; (try simp only [atL_lt h26]); omega) | (have := hsz h30q; simp only [sizeC] at this; omega)) cb_spec_ClassRight (by simp) (by simp) (by simp [h1, h3, h6]; rfl) (Runs.run tok hX (by simp; rfl)))) ?_
        refine W_condS (by simp; rfl) (by rfl) (fun h8 => ?_) (fun h8 => ?_)
        · (try simp at h8)
          refine W_rseqK [2] (Runs.run tok hX (by simp [h1, h3, h6]; rfl)) ?_
          refine W_ret ?_
          refine W_retR (by simp [h1, h3, h6]; rfl) (.of_eq ?_) rfl
          have hp : pass1 l i = 1 := by simp [pass1, atL_lt h6, h8]
          rw [if_neg (by rw [hp]; simp), hp] at hI1
          simp [checkAll, ← hI1]
        · (try simp at h8)
          refine W_skip ?_
          refine W_rseqK [0, 2, 3, 50] (Runs.step 5 tok hX (by simp [h1, h3, h6]; rfl) (Runs.call [] rfl (by simp) rfl (by simp [h1, h3, h6]; rfl) (by simp; rfl) (by apply ct_spec_l05Built <;> first | assumption | omega | exact hsz (by assumption) | (rw [atL_lt (by assumption)]; exact hsz (by assumption)) | (have := hsz h22; simp only [sizeC] at this; omega) | (have := hsz h13; simp only [sizeC] at this; omega) | (have := hsz h6; simp only [sizeC] at this; (try simp only [atL_lt h6]); omega)| (have := hsz h26; simp only [sizeC] at this; (try simp only [atL_lt h26]); omega) | (have := hsz h30q; simp only [sizeC] at this; omega)) cb_spec_l05Built (by simp) (by simp) (by simp [h1, h3, h6]; rfl) (Runs.step 2 tok hX (by simp; rfl) (Runs.mrgS 10 40 [0, 2, 3, 50] (by simp; rfl) (by rfl) (fun b10_8 => by (try simp at b10_8); exact (Runs.run tok hX (by simp [-atD_lt, -atL_lt]; rfl))) (fun b10_8 => by (try simp at b10_8); exact (Runs.step 6 tok hX (by simp [-atD_lt, -atL_lt, h1, h3, h6, b10_8]; rfl) (Runs.call [] rfl (by simp) rfl (by simp [-atD_lt, -atL_lt, h1, h3, h6, b10_8]; rfl) (by simp; rfl) (by apply ct_spec_l05Find <;> first | assumption | omega | exact hsz (by assumption) | (rw [atL_lt (by assumption)]; exact hsz (by assumption)) | (have := hsz h22; simp only [sizeC] at this; omega) | (have := hsz h13; simp only [sizeC] at this; omega) | (have := hsz h6; simp only [sizeC] at this; (try simp only [atL_lt h6]); omega)| (have := hsz h26; simp only [sizeC] at this; (try simp only [atL_lt h26]); omega) | (have := hsz h30q; simp only [sizeC] at this; omega)) cb_spec_l05Find (by simp) (by simp) (by simp [-atD_lt, -atL_lt, h1, h3, h6, b10_8]; rfl) (Runs.run tok hX (by simp [-atD_lt, -atL_lt]; rfl))))) (by rfl) (by rfl) (Runs.fin (by (try simp); rfl)))))) ?_
          refine W_condS (by simp; rfl) (by rfl) (fun h10 => ?_) (fun h10 => ?_)
          · (try simp at h10)
            refine W_rseqK [2] (Runs.run tok hX (by simp [h1, h3, h6, h10]; rfl)) ?_
            refine W_ret ?_
            refine W_retR (by simp [h1, h3, h6, h10]; rfl) (.of_eq ?_) rfl
            have hp : pass1 l i = 7 := by simp only [pass1, atL_lt h6, h8, if_true]; rw [if_pos (by simpa [atL_lt h6] using h10)]
            rw [if_neg (by rw [hp]; simp), hp] at hI1
            simp [checkAll, ← hI1]
          · (try simp at h10)
            have hp : pass1 l i = 0 := by simp only [pass1, atL_lt h6, h8, if_true]; rw [if_neg (by simp [atL_lt h6] at h10 ⊢; omega)]
            rw [if_pos hp] at hI1
            have hJ := hI1
            refine W_skip ?_
            refine W_reg (Runs.run tok hX (by simp; (try (simp (disch := omega) only [wrap_i64]; (try simp))); rfl)) ?_
            refine round_end (i + 1) [0, 2, 3] (by simp [h1, h3, h6, h10]; try (simp (disch := omega) only [wrap_i64])) ?_ ?_
            · exact ⟨by omega, hJ⟩
            · omega
      · (try simp at h6)
        rw [show l.length - i = 0 from by omega] at hI1
        simp only [firstBad] at hI1
        refine W_exit ?_
        refine W_seq ?_
        refine W_rseqK [0, 2, 4] (Runs.run tok hX (by simp; rfl)) ?_
        refine W_block ?_
        -- loop 1: live [0, 2, 4]
        refine W_loopU (α := Nat) [0, 2, 4] (fun i => [(4, .int .i64 i)]) (fun i => []) (fun i => i ≤ l.length ∧ firstBad (pass2 l) (l.length - i) i = firstBad (pass2 l) l.length 0) (fun i => l.length - i) (0) (fun i => by simp; rfl) (by simp) ?_ ?_
        · simp
        rintro i ⟨hi2, hI2⟩
        refine W_seq ?_
        refine W_rseqK [0, 2, 4, 56] (Runs.run tok hX (by simp [h1, h3, h6]; rfl)) ?_
        refine W_condS (by simp; rfl) (by rfl) (fun h13 => ?_) (fun h13 => ?_)
        · (try simp at h13)
          rw [show l.length - i = (l.length - (i + 1)) + 1 from by omega] at hI2
          simp only [firstBad] at hI2
          refine W_skip ?_
          refine W_seq ?_
          refine W_block ?_
          refine W_rseqK [0, 2, 4, 5] (Runs.step 6 tok hX (by simp [h1, h3, h6, h13]; rfl) (Runs.call [] rfl (by simp) rfl (by simp [h1, h3, h6, h13]; rfl) (by simp; rfl) (by apply ct_spec_l05Find <;> first | assumption | omega | exact hsz (by assumption) | (rw [atL_lt (by assumption)]; exact hsz (by assumption)) | (have := hsz h22; simp only [sizeC] at this; omega) | (have := hsz h13; simp only [sizeC] at this; omega) | (have := hsz h6; simp only [sizeC] at this; (try simp only [atL_lt h6]); omega)| (have := hsz h26; simp only [sizeC] at this; (try simp only [atL_lt h26]); omega) | (have := hsz h30q; simp only [sizeC] at this; omega)) cb_spec_l05Find (by simp) (by simp) (by simp [h1, h3, h6, h13]; rfl) (Runs.run tok hX (by simp; rfl)))) ?_
          refine W_seq ?_
          refine W_rseqK [0, 2, 4, 5, 73] (Runs.step 6 tok hX (by simp [h1, h3, h6, h13]; rfl) (Runs.call [] rfl (by simp) rfl (by simp [h1, h3, h6, h13]; rfl) (by simp; rfl) (by apply ct_spec_l05Known <;> first | assumption | omega | exact hsz (by assumption) | (rw [atL_lt (by assumption)]; exact hsz (by assumption)) | (have := hsz h22; simp only [sizeC] at this; omega) | (have := hsz h13; simp only [sizeC] at this; omega) | (have := hsz h6; simp only [sizeC] at this; (try simp only [atL_lt h6]); omega)| (have := hsz h26; simp only [sizeC] at this; (try simp only [atL_lt h26]); omega) | (have := hsz h30q; simp only [sizeC] at this; omega)) cb_spec_l05Known (by simp) (by simp) (by simp [h1, h3, h6, h13]; rfl) (Runs.run tok hX (by simp; rfl)))) ?_
          refine W_condS (by simp; rfl) (by rfl) (fun h16 => ?_) (fun h16 => ?_)
          · (try simp at h16)
            refine W_rseqK [2] (Runs.run tok hX (by simp [h1, h3, h6, h13]; rfl)) ?_
            refine W_ret ?_
            refine W_retR (by simp [h1, h3, h6, h13]; rfl) (.of_eq ?_) rfl
            have hp : pass2 l i = 8 := by simp [pass2, atL_lt h13, h16]
            rw [if_neg (by rw [hp]; simp), hp] at hI2
            simp [checkAll, ← hI1, ← hI2]
          · (try simp at h16)
            refine W_skip ?_
            refine W_rseqK [0, 2, 4, 93] (Runs.step 5 tok hX (by simp [h1, h3, h6, h13]; rfl) (Runs.call [] rfl (by simp) rfl (by simp [h1, h3, h6, h13]; rfl) (by simp; rfl) (by apply ct_spec_l05Built <;> first | assumption | omega | exact hsz (by assumption) | (rw [atL_lt (by assumption)]; exact hsz (by assumption)) | (have := hsz h22; simp only [sizeC] at this; omega) | (have := hsz h13; simp only [sizeC] at this; omega) | (have := hsz h6; simp only [sizeC] at this; (try simp only [atL_lt h6]); omega)| (have := hsz h26; simp only [sizeC] at this; (try simp only [atL_lt h26]); omega) | (have := hsz h30q; simp only [sizeC] at this; omega)) cb_spec_l05Built (by simp) (by simp) (by simp [h1, h3, h6, h13]; rfl) (Runs.step 2 tok hX (by simp; rfl) (Runs.mrgS 10 83 [0, 2, 4, 93] (by simp; rfl) (by rfl) (fun b18_8 => by (try simp at b18_8); exact (Runs.run tok hX (by simp [-atD_lt, -atL_lt]; rfl))) (fun b18_8 => by (try simp at b18_8); exact (Runs.step 3 tok hX (by simp [-atD_lt, -atL_lt]; rfl) (Runs.mrgS 6 86 [0, 2, 4, 83, 92] (by simp; rfl) (by rfl) (fun b18_11 => by (try simp at b18_11); (have hfl := findFrom_lt (l := l) b18_11); exact (Runs.run tok hX (by simp [-atD_lt, -atL_lt, h1, h3, h6, h13, b18_8, b18_11, hfl, b18_11]; rfl))) (fun b18_11 => by (try simp at b18_11); exact (Runs.run tok hX (by simp [-atD_lt, -atL_lt]; rfl))) (by rfl) (by rfl) (Runs.run tok hX (by simp [-atD_lt, -atL_lt]; rfl))))) (by rfl) (by rfl) (Runs.fin (by (try simp); rfl)))))) ?_
            refine W_condS (by simp; rfl) (by rfl) (fun h18 => ?_) (fun h18 => ?_)
            · (try simp at h18)
              refine W_rseqK [2] (Runs.run tok hX (by simp [h1, h3, h6, h13, h18]; rfl)) ?_
              refine W_ret ?_
              refine W_retR (by simp [h1, h3, h6, h13, h18]; rfl) (.of_eq ?_) rfl
              have hp : pass2 l i = 14 := by simp only [pass2, atL_lt h13, h16, if_true]; rw [if_pos (by simpa using h18)]
              rw [if_neg (by rw [hp]; simp), hp] at hI2
              simp [checkAll, ← hI1, ← hI2]
            · (try simp at h18)
              have hp : pass2 l i = 0 := by simp only [pass2, atL_lt h13, h16, if_true]; rw [if_neg (by simp at h18 ⊢; exact h18)]
              rw [if_pos hp] at hI2
              have hJ := hI2
              refine W_skip ?_
              refine W_reg (Runs.run tok hX (by simp; (try (simp (disch := omega) only [wrap_i64]; (try simp))); rfl)) ?_
              refine round_end (i + 1) [0, 2, 4] (by simp [h1, h3, h6, h13, h18]; try (simp (disch := omega) only [wrap_i64])) ?_ ?_
              · exact ⟨by omega, hJ⟩
              · omega
        · (try simp at h13)
          rw [show l.length - i = 0 from by omega] at hI2
          simp only [firstBad] at hI2
          refine W_exit ?_
          refine W_seq ?_
          refine W_rseqK [0, 2, 6] (Runs.run tok hX (by simp; rfl)) ?_
          refine W_block ?_
          -- loop 2: live [0, 2, 6]
          refine W_loopU (α := Nat) [0, 2, 6] (fun i => [(6, .int .i64 i)]) (fun i => []) (fun i => i ≤ l.length ∧ firstBad (pass3 l) (l.length - i) i = firstBad (pass3 l) l.length 0) (fun i => l.length - i) (0) (fun i => by simp; rfl) (by simp) ?_ ?_
          · simp
          rintro i ⟨hi3, hI3⟩
          refine W_seq ?_
          refine W_rseqK [0, 2, 6, 99] (Runs.run tok hX (by simp [h1, h3, h6, h13]; rfl)) ?_
          refine W_condS (by simp; rfl) (by rfl) (fun h21 => ?_) (fun h21 => ?_)
          · (try simp at h21)
            rw [show l.length - i = (l.length - (i + 1)) + 1 from by omega] at hI3
            simp only [firstBad] at hI3
            refine W_skip ?_
            refine W_seq ?_
            refine W_block ?_
            refine W_rseqK [0, 2, 6, 108] (Runs.step 5 tok hX (by simp [h1, h3, h6, h13, h21]; rfl) (Runs.call [] rfl (by simp) rfl (by simp [h1, h3, h6, h13, h21]; rfl) (by simp; rfl) (by apply ct_spec_l05Types <;> first | assumption | omega | exact hsz (by assumption) | (rw [atL_lt (by assumption)]; exact hsz (by assumption)) | (have := hsz h22; simp only [sizeC] at this; omega) | (have := hsz h13; simp only [sizeC] at this; omega) | (have := hsz h6; simp only [sizeC] at this; (try simp only [atL_lt h6]); omega)| (have := hsz h26; simp only [sizeC] at this; (try simp only [atL_lt h26]); omega) | (have := hsz h30q; simp only [sizeC] at this; omega)) cb_spec_l05Types (by simp) (by simp) (by simp [h1, h3, h6, h13, h21]; rfl) (Runs.run tok hX (by simp; rfl)))) ?_
            refine W_condS (by simp; rfl) (by rfl) (fun h23 => ?_) (fun h23 => ?_)
            · (try simp at h23)
              refine W_rseqK [2] (Runs.run tok hX (by simp [h1, h3, h6, h13, h21]; rfl)) ?_
              refine W_ret ?_
              refine W_retR (by simp [h1, h3, h6, h13, h21]; rfl) (.of_eq ?_) rfl
              have hp : pass3 l i = 6 := by simp [pass3, atL_lt h21, h23]
              rw [if_neg (by rw [hp]; simp), hp] at hI3
              simp [checkAll, ← hI1, ← hI2, ← hI3]
            · (try simp at h23)
              have hp : pass3 l i = 0 := by simp [pass3, atL_lt h21, h23]
              rw [if_pos hp] at hI3
              have hJ := hI3
              refine W_skip ?_
              refine W_reg (Runs.run tok hX (by simp; (try (simp (disch := omega) only [wrap_i64]; (try simp))); rfl)) ?_
              refine round_end (i + 1) [0, 2, 6] (by simp [h1, h3, h6, h13, h21]; try (simp (disch := omega) only [wrap_i64])) ?_ ?_
              · exact ⟨by omega, hJ⟩
              · omega
          · (try simp at h21)
            rw [show l.length - i = 0 from by omega] at hI3
            simp only [firstBad] at hI3
            refine W_exit ?_
            refine W_seq ?_
            refine W_rseqK [0, 2, 7] (Runs.run tok hX (by simp; rfl)) ?_
            refine W_block ?_
            -- loop 3: live [0, 2, 7]
            refine W_loopU (α := Nat) [0, 2, 7] (fun i => [(7, .int .i64 i)]) (fun i => []) (fun i => i ≤ l.length ∧ firstBad (pass4 l) (l.length - i) i = firstBad (pass4 l) l.length 0) (fun i => l.length - i) (0) (fun i => by simp; rfl) (by simp) ?_ ?_
            · simp
            rintro i ⟨hi4, hI4⟩
            refine W_seq ?_
            refine W_rseqK [0, 2, 7, 114] (Runs.run tok hX (by simp [h1, h3, h6, h13, h21]; rfl)) ?_
            refine W_condS (by simp; rfl) (by rfl) (fun h26 => ?_) (fun h26 => ?_)
            · (try simp at h26)
              rw [show l.length - i = (l.length - (i + 1)) + 1 from by omega] at hI4
              simp only [firstBad] at hI4
              refine W_skip ?_
              refine W_seq ?_
              refine W_block ?_
              refine W_rseqK [0, 2, 7, 8] (Runs.step 6 tok hX (by simp [h1, h3, h6, h13, h21, h26]; rfl) (Runs.call [] rfl (by simp) rfl (by simp [h1, h3, h6, h13, h21, h26]; rfl) (by simp; rfl) (by apply ct_spec_l05Find <;> first | assumption | omega | exact hsz (by assumption) | (rw [atL_lt (by assumption)]; exact hsz (by assumption)) | (have := hsz h22; simp only [sizeC] at this; omega) | (have := hsz h13; simp only [sizeC] at this; omega) | (have := hsz h6; simp only [sizeC] at this; (try simp only [atL_lt h6]); omega)| (have := hsz h26; simp only [sizeC] at this; (try simp only [atL_lt h26]); omega) | (have := hsz h30q; simp only [sizeC] at this; omega)) cb_spec_l05Find (by simp) (by simp) (by simp [h1, h3, h6, h13, h21, h26]; rfl) (Runs.run tok hX (by simp; rfl)))) ?_
              refine W_rseqK [0, 2, 7, 8, 9] (Runs.run tok hX (by simp; rfl)) ?_
              refine W_block ?_
              -- loop 4: live [0, 2, 7, 8, 9]
              refine W_loopU (α := Nat × Int) [0, 2, 7, 8, 9] (fun a => [(8, .int .i64 a.2), (9, .int .i64 a.1)]) (fun a => []) (fun a => a.1 ≤ l.length + 1 ∧ (-1 ≤ a.2 ∧ a.2 < l.length) ∧ cycF l i (l.length + 1 - a.1) a.2 = cyc l i) (fun a => l.length + 1 - a.1) ((0, nxt l i)) (fun a => by simp; rfl) (by simp [nxt_nat, atL_lt h26]) ?_ ?_
              · exact ⟨by simp, @nxt_ge l i, rfl⟩
              rintro ⟨s, up⟩ ⟨hs, hup, hC⟩
              simp only at hs hup hC
              refine W_seq ?_
              refine W_rseqK [0, 2, 7, 8, 9, 131] (Runs.step 5 tok hX (by simp [h1, h3, h6, h13, h21, h26]; rfl) (Runs.mrgS 3 128 [0, 2, 7, 8, 9, 131] (by simp; rfl) (by rfl) (fun b30_5 => by (try simp at b30_5); exact (Runs.run tok hX (by simp [-atD_lt, -atL_lt]; rfl))) (fun b30_5 => by (try simp at b30_5); exact (Runs.run tok hX (by simp [-atD_lt, -atL_lt]; rfl))) (by rfl) (by rfl) (Runs.fin (by (try simp); rfl)))) ?_
              refine W_condS (by simp; rfl) (by rfl) (fun h30 => ?_) (fun h30 => ?_)
              · (try simp at h30)
                obtain ⟨p, rfl⟩ : ∃ k : Nat, up = k := ⟨up.toNat, by omega⟩
                have h30q : p < l.length := by omega
                rw [show l.length + 1 - s = (l.length + 1 - (s + 1)) + 1 from by omega] at hC
                simp only [cycF] at hC
                rw [if_neg (by omega)] at hC
                refine W_skip ?_
                refine W_seq ?_
                refine W_block ?_
                refine W_seq ?_
                refine W_rseqK [0, 2, 7, 8, 9, 136] (Runs.run tok hX (by simp; rfl)) ?_
                refine W_condS (by simp; rfl) (by rfl) (fun h32 => ?_) (fun h32 => ?_)
                · (try simp at h32)
                  refine W_rseqK [2] (Runs.run tok hX (by simp [h1, h3, h6, h13, h21, h26, h30, h30q]; rfl)) ?_
                  refine W_ret ?_
                  refine W_retR (by simp [h1, h3, h6, h13, h21, h26, h30, h30q]; rfl) (.of_eq ?_) rfl
                  rw [if_pos (by simpa using h32)] at hC
                  have hp : pass4 l i = 9 := by simp [pass4, ← hC]
                  rw [if_neg (by rw [hp]; simp), hp] at hI4
                  simp [checkAll, ← hI1, ← hI2, ← hI3, ← hI4]
                · (try simp at h32)
                  rw [if_neg (by simpa using h32)] at hC
                  refine W_skip ?_
                  refine W_reg (Runs.step 6 tok hX (by simp [h1, h3, h6, h13, h21, h26, h30, h30q]; rfl) (Runs.call [] rfl (by simp) rfl (by simp [h1, h3, h6, h13, h21, h26, h30, h30q]; rfl) (by simp; rfl) (by apply ct_spec_l05Find <;> first | assumption | omega | exact hsz (by assumption) | (rw [atL_lt (by assumption)]; exact hsz (by assumption)) | (have := hsz h22; simp only [sizeC] at this; omega) | (have := hsz h13; simp only [sizeC] at this; omega) | (have := hsz h6; simp only [sizeC] at this; (try simp only [atL_lt h6]); omega)| (have := hsz h26; simp only [sizeC] at this; (try simp only [atL_lt h26]); omega) | (have := hsz h30q; simp only [sizeC] at this; omega)) cb_spec_l05Find (by simp) (by simp) (by simp [h1, h3, h6, h13, h21, h26, h30, h30q]; rfl) (Runs.run tok hX (by simp; rfl)))) ?_
                  refine W_reg (Runs.run tok hX (by simp; (try (simp (disch := omega) only [wrap_i64]; (try simp))); rfl)) ?_
                  refine round_end ((s + 1, nxt l p)) [0, 2, 7, 8, 9] (by simp [nxt_nat, h30q]; (try (simp (disch := omega) only [wrap_i64]))) ?_ ?_
                  · exact ⟨by omega, @nxt_ge l p, hC⟩
                  · simp; omega
              · (try simp at h30)
                have hcy : cyc l i = false := by
                  rw [← hC]
                  rcases Nat.lt_or_ge s (l.length + 1) with h | h
                  · rw [show l.length + 1 - s = (l.length - s) + 1 from by omega, cycF, if_pos (by omega)]
                  · rw [show l.length + 1 - s = 0 from by omega, cycF]
                have hp : pass4 l i = 0 := by simp [pass4, hcy]
                rw [if_pos hp] at hI4
                have hJ := hI4
                refine W_exit ?_
                refine W_reg (Runs.run tok hX (by simp; (try (simp (disch := omega) only [wrap_i64]; (try simp))); rfl)) ?_
                refine round_end (i + 1) [0, 2, 7] (by simp [h1, h3, h6, h13, h21, h26, h30]; try (simp (disch := omega) only [wrap_i64])) ?_ ?_
                · exact ⟨by omega, hJ⟩
                · omega
            · (try simp at h26)
              rw [show l.length - i = 0 from by omega] at hI4
              simp only [firstBad] at hI4
              have hu : ∀ {j : Nat} (h : j < l.length), findFrom l[j].name l 0 = j := fun h => uniq_of_pass1 h (firstBad_none hI1.symm _ (Nat.zero_le _) (by omega))
              have hEn : ∀ j : Nat, j < l.length → Ends l (l.length + 1) j := fun j h => ends_of_noCyc (fun k hk => by have := firstBad_none hI4.symm k (Nat.zero_le _) (by omega); simp only [pass4] at this; split at this <;> simp_all) h
              refine W_exit ?_
              refine W_seq ?_
              refine W_rseqK [0, 2, 10] (Runs.run tok hX (by simp; rfl)) ?_
              refine W_block ?_
              -- loop 5: live [0, 2, 10]
              refine W_loopU (α := Nat) [0, 2, 10] (fun i => [(10, .int .i64 i)]) (fun i => []) (fun i => i ≤ l.length ∧ firstBad (pass5 l) (l.length - i) i = firstBad (pass5 l) l.length 0) (fun i => l.length - i) (0) (fun i => by simp; rfl) (by simp) ?_ ?_
              · simp
              rintro i ⟨hi5, hI5⟩
              refine W_seq ?_
              refine W_rseqK [0, 2, 10, 149] (Runs.run tok hX (by simp [h1, h3, h6, h13, h21, h26]; rfl)) ?_
              refine W_condS (by simp; rfl) (by rfl) (fun h36 => ?_) (fun h36 => ?_)
              · (try simp at h36)
                rw [show l.length - i = (l.length - (i + 1)) + 1 from by omega] at hI5
                simp only [firstBad] at hI5
                have hu36 := hu h36
                refine W_skip ?_
                refine W_seq ?_
                refine W_block ?_
                refine W_rseqK [0, 2, 10, 158] (Runs.step 5 tok hX (by simp [h1, h3, h6, h13, h21, h26, h36]; rfl) (Runs.call [] rfl (by simp) rfl (by simp [h1, h3, h6, h13, h21, h26, h36]; rfl) (by simp; rfl) (by apply ct_spec_l05Access <;> first | assumption | omega | exact hsz (by assumption) | (rw [atL_lt (by assumption)]; exact hsz (by assumption)) | (have := hsz h22; simp only [sizeC] at this; omega) | (have := hsz h13; simp only [sizeC] at this; omega) | (have := hsz h6; simp only [sizeC] at this; (try simp only [atL_lt h6]); omega)| (have := hsz h26; simp only [sizeC] at this; (try simp only [atL_lt h26]); omega) | (have := hsz h30q; simp only [sizeC] at this; omega)) cb_spec_l05Access (by simp) (by simp) (by simp [h1, h3, h6, h13, h21, h26, h36]; rfl) (Runs.run tok hX (by simp; rfl)))) ?_
                refine W_condS (by simp; rfl) (by rfl) (fun h38 => ?_) (fun h38 => ?_)
                · (try simp at h38)
                  refine W_rseqK [2] (Runs.run tok hX (by simp [h1, h3, h6, h13, h21, h26, h36]; rfl)) ?_
                  refine W_ret ?_
                  refine W_retR (by simp [h1, h3, h6, h13, h21, h26, h36]; rfl) (.of_eq ?_) rfl
                  have hp : pass5 l i = 14 := by simp [pass5, h38]
                  rw [if_neg (by rw [hp]; simp), hp] at hI5
                  simp [checkAll, ← hI1, ← hI2, ← hI3, ← hI4, ← hI5]
                · (try simp at h38)
                  have hp : pass5 l i = 0 := by simp [pass5, h38]
                  rw [if_pos hp] at hI5
                  have hJ := hI5
                  refine W_skip ?_
                  refine W_reg (Runs.run tok hX (by simp; (try (simp (disch := omega) only [wrap_i64]; (try simp))); rfl)) ?_
                  refine round_end (i + 1) [0, 2, 10] (by simp [h1, h3, h6, h13, h21, h26, h36]; try (simp (disch := omega) only [wrap_i64])) ?_ ?_
                  · exact ⟨by omega, hJ⟩
                  · omega
              · (try simp at h36)
                rw [show l.length - i = 0 from by omega] at hI5
                simp only [firstBad] at hI5
                refine W_exit ?_
                refine W_rseqK [2] (Runs.run tok hX (by simp [h1, h3, h6, h13, h21, h26, h36]; rfl)) ?_
                refine W_ret ?_
                refine W_retR (by simp [h1, h3, h6, h13, h21, h26, h36]; rfl) (.of_eq ?_) rfl
                simp [checkAll, ← hI1, ← hI2, ← hI3, ← hI4, ← hI5]
end Go.Proofs
namespace Go.Proofs
open Go Go.Ev


theorem cb_impl_isList_impl_Class : Callable Tryz.prog 52 := ⟨_, Tryz.func52, by kernel_rfl, by kernel_rfl⟩
set_option maxHeartbeats 2000000 in
set_option maxRecDepth 100000 in
theorem ct_impl_isList_impl_Class {l : List Cls} : Ct Tryz.prog 52 [.lst false 6 (l.map eC)] [] (.bool (decide (l.length ≤ 400))) [] := by
  refine Ct_bodyS tok Tryz.func52 rfl 6 (by kernel_rfl) (by kernel_rfl) fun X hX => ?_
  refine W_rseqK [0] (Runs.run tok hX (by simp; rfl)) ?_
  refine W_rseqK [2] (Runs.run tok hX (by simp; rfl)) ?_
  refine W_ret ?_
  refine W_retR (by simp; rfl) (.of_eq ?_) rfl
  simp
end Go.Proofs
namespace Go.Proofs
open Go Go.Ev
theorem plc_next {l : List Cls} {es : List (Str × Int)} {i : Nat} (h : i < l.length) :
    plc es i (l.drop i) = plc (if (lookM es l[i].name).isSome then es else es ++ [(l[i].name, (i : Int))]) (i + 1) (l.drop (i + 1)) := by
  rw [List.drop_eq_getElem_cons h]; rfl
abbrev wob (l : List Cls) (bm : Nat) : Ob := some (2, [.agg [.lst false 6 (l.map eC), .raw (.map (some bm))]])
abbrev wst (l : List Cls) (bm : Nat) (a : Nat × List (Str × Int)) : St := ⟨sp 40 [(3, .ptr 0 0 0), (12, .lst false 6 (l.map eC)), (13, .int .i64 l.length), (14, .int .i64 a.1)], [wob l bm]⟩
theorem cb_impl_worldOf : Callable Tryz.prog 53 := ⟨_, Tryz.func53, by kernel_rfl, by kernel_rfl⟩
set_option maxHeartbeats 2000000 in
set_option maxRecDepth 100000 in
theorem ct_impl_worldOf {l : List Cls} (hl : l.length ≤ 1099511627776) : Ct Tryz.prog 53 [.lst false 6 (l.map eC)] [] (wv l) [] := by
  refine Ct_bodyS tok Tryz.func53 rfl 40 (by kernel_rfl) (by kernel_rfl) fun X hX => ?_
  refine W_rseqK [0] (Runs.run tok hX (by simp; rfl)) ?_
  refine W_le (Le.of_eq (by simp; rfl)) ?_
  refine W_mono2 (W_makeMap (F := places l) (x := .lst false 6 (l.map eC)) (t2 := 2) (Qj := fun bm e s es => e = .ret ∧ s = ⟨sp 40 [(2, .ptr 0 0 0)], [wob l bm]⟩ ∧ es = places l) hX (by rfl)
    (by intro X hX; exact opB_ok tok hX (by simp; rfl)) (by rfl) (by simp; rfl) (by rfl) (by rfl) (by rfl) (by rfl) (by simp [V.fz]) (by rfl) ?_ ?_) ?_
  · intro X1 bm hX1
    refine WLJ_lift fun X' hX' hmk => ?_
    refine WL_runsK [3, 0] (Runs.run tok hX' (by simp; rfl)) ⟨rfl, ?_⟩
    refine WJ_seq ?_
    refine WJ_seq ?_
    refine WJ_lift fun X' hX' hmk => ?_
    refine W_regK [3, 12, 13, 14] (Runs.run tok hX' (by simp; rfl)) ?_
    simp only [thenJ]
    refine WJ_block ?_
    refine WJ_loop (α := Nat × List (Str × Int)) (wst l bm) (fun a => a.2) (fun a => a.1 ≤ l.length ∧ plc a.2 a.1 (l.drop a.1) = places l) (fun a => l.length - a.1) (0, []) (by simp) rfl ⟨by simp, rfl⟩ ?_
    rintro ⟨i, es⟩ ⟨hi, hI⟩
    simp only at hi hI
    refine WJ_seq ?_
    refine WJ_lift fun X' hX' hmk => ?_
    refine W_regK [3, 12, 13, 14, 15] (Runs.run tok hX' (by simp; rfl)) ?_
    simp only [thenJ]
    refine WJ_seq ?_
    refine WJ_cond (by simp; rfl) (fun h => ?_) (fun h => ?_)
    · simp at h
      refine WJ_lift fun X' hX' hmk => W_skip ?_
      simp only [thenJ]
      refine WJ_seq ?_
      refine WJ_block ?_
      refine WJ_seq ?_
      refine WJ_lift fun X' hX' hmk => ?_
      refine W_regK [3, 12, 13, 14, 4, 5] (Runs.run tok hX' (by simp [h]; rfl)) ?_
      simp only [thenJ]
      refine WJ_seq ?_
      refine WJ_lift fun X' hX' hmk => ?_
      refine W_drawnK [3, 12, 13, 14, 4, 5, 7] hmo (by kernel_rfl) (RunsQ.step (n0 := 0) 6 tok (by simp; rfl) (RunsQ.lookR tok hmk (by rfl) (by rfl) (by rfl) (by rfl) (by rfl) (by rfl) (by rfl) (by rfl) (by simp) (by simp; rfl) (RunsQ.run (n0 := 0) tok (by simp; rfl)))) ?_
      simp only [thenJ]
      refine WJ_seq ?_
      refine WJ_lift fun X' hX' hmk => ?_
      refine W_regK [3, 12, 13, 14, 4, 5, 30] (Runs.run tok hX' (by simp; rfl)) ?_
      simp only [thenJ]
      have hnx := plc_next (es := es) h
      have hw : IntKind.i64.wrap ((i : Int) + 1) = ((i + 1 : Nat) : Int) := by rw [wrap_i64 (by omega) (by omega)]; simp
      refine WJ_cond (by simp; rfl) (fun h2 => ?_) (fun h2 => ?_)
      · have hn : lookM es l[i].name = none := by simpa using h2
        refine WJ_mapSet (s := l[i].name) (i := (i : Int)) 7 tok hmo (by kernel_rfl) (RunsS.run (n0 := 0) tok (by simp; rfl)) (by rfl) (by rfl) (by rfl) (by rfl) (by rfl) (by rfl) (by rfl) (by rfl) (by simp) (by simp) (by simp) hn ?_
        simp only [blockJ, thenJ]
        refine WJ_trimK 1 (by rw [hX1]; omega) (by simp) (by simp; rfl) ?_
        refine WJ_lift fun X' hX' hmk => ?_
        refine W_regK [3, 12, 13, 14] (Runs.run tok hX' (by simp; rfl)) ?_
        simp only [thenJ]
        refine ⟨(i + 1, es ++ [(l[i].name, (i : Int))]), by simp [hw], rfl, ⟨by simp; omega, ?_⟩, by simp; omega⟩
        rw [hnx, hn] at hI
        exact hI
      · have hn : (lookM es l[i].name).isSome = true := by simpa using h2
        refine WJ_lift fun X' hX' hmk => W_skip ?_
        simp only [blockJ, thenJ]
        refine WJ_trimK 1 (by rw [hX1]; omega) (by simp) (by simp; rfl) ?_
        refine WJ_lift fun X' hX' hmk => ?_
        refine W_regK [3, 12, 13, 14] (Runs.run tok hX' (by simp; rfl)) ?_
        simp only [thenJ]
        refine ⟨(i + 1, es), by simp [hw], rfl, ⟨by simp; omega, ?_⟩, by simp; omega⟩
        rw [hnx, if_pos hn] at hI
        exact hI
    · simp at h
      refine WJ_lift fun X' hX' hmk => W_exit ?_
      simp only [thenJ, blockJ]
      rw [if_pos trivial]
      rw [List.drop_eq_nil_of_le h] at hI
      simp only [plc] at hI
      subst hI
      refine WJ_seq ?_
      refine WJ_lift fun X' hX' hmk => ?_
      refine W_regK [2] (Runs.run tok hX' (by simp; rfl)) ?_
      simp only [thenJ]
      exact WJ_lift fun X' hX' hmk => W_ret ⟨rfl, by simp, rfl⟩
  · rintro bm e s es ⟨rfl, rfl, rfl⟩
    exact ⟨.inl rfl, rfl, by simp, by simp [sp_length], rfl⟩
  · rintro e s ⟨he, rfl⟩
    rcases he with rfl | rfl
    · exact W_retR (by simp; rfl) (.of_eq (by rfl)) rfl
    · exact W_endR (by simp; rfl) (.of_eq (by rfl)) rfl
end Go.Proofs

namespace Go.Proofs
open Go Go.Ev


theorem cb_slices_Index_string_string : Callable Tryz.prog 127 := ⟨_, Tryz.func127, by kernel_rfl, by kernel_rfl⟩
set_option maxHeartbeats 2000000 in
set_option maxRecDepth 100000 in
theorem ct_slices_Index_string_string {l : List Str} {t : Str} (hl : l.length ≤ 1099511627776) : Ct Tryz.prog 127 [.lst false 1 (l.map V.str), .str t] [] (.int .i64 (fix (fun x => decide (t = x)) l)) [] := by
  refine Ct_bodyS tok Tryz.func127 rfl 19 (by kernel_rfl) (by kernel_rfl) fun X hX => ?_
  refine W_rseqK [0, 1] (Runs.run tok hX (by simp; rfl)) ?_
  refine W_seq ?_
  refine W_rseqK [0, 1, 7, 8] (Runs.run tok hX (by simp; rfl)) ?_
  refine W_block ?_
  -- loop 0: live [0, 1, 7, 8]
  refine W_loopU (α := Nat) [0, 1, 7, 8] (fun i => [(8, .int .i64 i)]) (fun i => []) (fun i => i ≤ l.length ∧ ∀ x ∈ l.take i, (fun x => decide (t = x)) x = false) (fun i => l.length - i) (0) (fun i => by simp; rfl) (by simp) ?_ ?_
  · simp
  rintro i ⟨hi, hI⟩
  refine W_rseqK [0, 1, 7, 8, 9] (Runs.run tok hX (by simp; rfl)) ?_
  refine W_seq ?_
  refine W_condS (by simp; rfl) (by rfl) (fun h2 => ?_) (fun h2 => ?_)
  · (try simp at h2)
    refine W_skip ?_
    refine W_seq ?_
    refine W_block ?_
    refine W_rseqK [0, 1, 5, 7, 8] (Runs.run tok hX (by simp; rfl)) ?_
    refine W_rseqK [0, 1, 5, 7, 8, 16] (Runs.run tok hX (by simp [h2]; rfl)) ?_
    refine W_condS (by simp; rfl) (by rfl) (fun h4 => ?_) (fun h4 => ?_)
    · (try simp at h4)
      refine W_rseqK [4] (Runs.run tok hX (by simp; rfl)) ?_
      refine W_ret ?_
      refine W_retR (by simp [h2]; rfl) (.of_eq ?_) rfl
      rw [fix_hit h2 hI (by simpa using h4)]
    · (try simp at h4)
      refine W_skip ?_
      refine W_reg (Runs.run tok hX (by simp; (try (simp (disch := omega) only [wrap_i64]; (try simp))); rfl)) ?_
      refine round_end (i + 1) [0, 1, 7, 8] (by simp [h2]; try (simp (disch := omega) only [wrap_i64])) ?_ ?_
      · exact ⟨by omega, take_not h2 hI (by simpa using h4)⟩
      · omega
  · (try simp at h2)
    refine W_exit ?_
    refine W_rseqK [4] (Runs.run tok hX (by simp; rfl)) ?_
    refine W_ret ?_
    refine W_retR (by simp [h2]; rfl) (.of_eq ?_) rfl
    rw [fix_none (p := fun x => decide (t = x)) (fun x hx => hI x (by rw [List.take_of_length_le h2]; exact hx))]
end Go.Proofs
namespace Go.Proofs
open Go Go.Ev


theorem cb_slices_Contains_string_string : Callable Tryz.prog 97 := ⟨_, Tryz.func97, by kernel_rfl, by kernel_rfl⟩
set_option maxHeartbeats 2000000 in
set_option maxRecDepth 100000 in
theorem ct_slices_Contains_string_string {l : List Str} {t : Str} (hl : l.length ≤ 1099511627776) : Ct Tryz.prog 97 [.lst false 1 (l.map V.str), .str t] [] (.bool (l.any (fun x => decide (t = x)))) [] := by
  refine Ct_bodyS tok Tryz.func97 rfl 9 (by kernel_rfl) (by kernel_rfl) fun X hX => ?_
  refine W_rseqK [0, 1] (Runs.run tok hX (by simp; rfl)) ?_
  refine W_rseqK [4] (Runs.step 2 tok hX (by simp; rfl) (Runs.call [] rfl (by simp) rfl (by simp; rfl) (by simp; rfl) (by apply ct_slices_Index_string_string <;> first | assumption | omega | (simp at *; omega) | simp_all) cb_slices_Index_string_string (by simp) (by simp) (by simp; rfl) (Runs.run tok hX (by simp; rfl)))) ?_
  refine W_ret ?_
  refine W_retR (by simp; rfl) (.of_eq ?_) rfl
  rw [← fix_ge]
end Go.Proofs
namespace Go.Proofs
open Go Go.Ev


theorem cb_impl_builtIn : Callable Tryz.prog 106 := ⟨_, Tryz.func106, by kernel_rfl, by kernel_rfl⟩
set_option maxHeartbeats 2000000 in
set_option maxRecDepth 100000 in
theorem ct_impl_builtIn  : Ct Tryz.prog 106 [] [] (.lst true 1 (builtIn.map V.str)) [] := by
  refine Ct_bodyS tok Tryz.func106 rfl 2 (by kernel_rfl) (by kernel_rfl) fun X hX => ?_
  refine W_rseqK [] (Runs.run tok hX (by simp; rfl)) ?_
  refine W_rseqK [0] (Runs.run tok hX (by simp; rfl)) ?_
  refine W_ret ?_
  refine W_retR (by simp; rfl) (.of_eq ?_) rfl
  simp [builtIn]
end Go.Proofs
namespace Go.Proofs
open Go Go.Ev


theorem cb_impl_isBuiltIn : Callable Tryz.prog 75 := ⟨_, Tryz.func75, by kernel_rfl, by kernel_rfl⟩
set_option maxHeartbeats 2000000 in
set_option maxRecDepth 100000 in
theorem ct_impl_isBuiltIn {n : Str} : Ct Tryz.prog 75 [.str n] [] (.bool (bIn n)) [] := by
  refine Ct_bodyS tok Tryz.func75 rfl 6 (by kernel_rfl) (by kernel_rfl) fun X hX => ?_
  refine W_rseqK [0] (Runs.run tok hX (by simp; rfl)) ?_
  refine W_rseqK [2] (Runs.call [] rfl (by simp) rfl (by simp; rfl) (by simp; rfl) (by apply ct_impl_builtIn <;> first | assumption | omega | (simp at *; omega) | simp_all) cb_impl_builtIn (by simp) (by simp) (by simp; rfl) (Runs.step 1 tok hX (by simp; rfl) (Runs.callB rfl (by simp) rfl (by simp; rfl) (by apply (ct_slices_Contains_string_string (l := builtIn)) <;> first | decide | simp) cb_slices_Contains_string_string (by simp) (by simp; rfl) (Runs.run tok hX (by simp; rfl))))) ?_
  refine W_ret ?_
  refine W_retR (by simp; rfl) (.of_eq ?_) rfl
  rw [bIn_any]
end Go.Proofs
namespace Go.Proofs
open Go Go.Ev


theorem cb_impl_within : Callable Tryz.prog 65 := ⟨_, Tryz.func65, by kernel_rfl, by kernel_rfl⟩
set_option maxHeartbeats 2000000 in
set_option maxRecDepth 100000 in
theorem ct_impl_within {n a b : Int} : Ct Tryz.prog 65 [.int .i64 n, .int .i64 a, .int .i64 b] [] (.bool (decide (a ≤ n ∧ n ≤ b))) [] := by
  refine Ct_bodyS tok Tryz.func65 rfl 15 (by kernel_rfl) (by kernel_rfl) fun X hX => ?_
  refine W_rseqK [0, 1, 2] (Runs.run tok hX (by simp; rfl)) ?_
  refine W_rseqK [6] (Runs.step 4 tok hX (by simp; rfl) (Runs.mrgS 4 10 [14] (by simp; rfl) (by rfl) (fun b1_4 => by (try simp at b1_4); exact (Runs.run tok hX (by simp [-atD_lt, -atL_lt]; rfl))) (fun b1_4 => by (try simp at b1_4); exact (Runs.run tok hX (by simp [-atD_lt, -atL_lt]; rfl))) (by rfl) (by rfl) (Runs.run tok hX (by simp; rfl)))) ?_
  refine W_ret ?_
  refine W_retR (by simp; rfl) (.of_eq ?_) rfl
  (try simp_all) <;> grind
end Go.Proofs
namespace Go.Proofs
open Go Go.Ev


theorem cb_internal_stringslite_IndexByte : Callable Tryz.prog 170 := ⟨_, Tryz.func170, by kernel_rfl, by kernel_rfl⟩
set_option maxHeartbeats 2000000 in
set_option maxRecDepth 100000 in
theorem ct_internal_stringslite_IndexByte {t : Str} {c : UInt8} : Ct Tryz.prog 170 [.str t, .int .u8 c.toNat] [] (.int .i64 (ixL c t)) [] := by
  refine Ct_bodyS tok Tryz.func170 rfl 8 (by kernel_rfl) (by kernel_rfl) fun X hX => ?_
  refine W_rseqK [0, 1] (Runs.run tok hX (by simp; rfl)) ?_
  refine W_rseqK [4] (Runs.step 2 tok hX (by simp; rfl) (Runs.extIB rfl (by simp) (by simp; rfl) (by simp; rfl) ext_IB (by simp; rfl) (Runs.run tok hX (by simp; rfl)))) ?_
  refine W_ret ?_
  refine W_retR (by simp; rfl) (.of_eq ?_) rfl
  simp
end Go.Proofs
namespace Go.Proofs
open Go Go.Ev


theorem cb_strings_IndexByte : Callable Tryz.prog 161 := ⟨_, Tryz.func161, by kernel_rfl, by kernel_rfl⟩
set_option maxHeartbeats 2000000 in
set_option maxRecDepth 100000 in
theorem ct_strings_IndexByte {t : Str} {c : UInt8} : Ct Tryz.prog 161 [.str t, .int .u8 c.toNat] [] (.int .i64 (ixL c t)) [] := by
  refine Ct_bodyS tok Tryz.func161 rfl 8 (by kernel_rfl) (by kernel_rfl) fun X hX => ?_
  refine W_rseqK [0, 1] (Runs.run tok hX (by simp; rfl)) ?_
  refine W_rseqK [4] (Runs.step 2 tok hX (by simp; rfl) (Runs.call [] rfl (by simp) rfl (by simp; rfl) (by simp; rfl) (by apply ct_internal_stringslite_IndexByte <;> first | assumption | omega | (simp at *; omega) | simp_all) cb_internal_stringslite_IndexByte (by simp) (by simp) (by simp; rfl) (Runs.run tok hX (by simp; rfl)))) ?_
  refine W_ret ?_
  refine W_retR (by simp; rfl) (.of_eq ?_) rfl
  simp
end Go.Proofs
namespace Go.Proofs
open Go Go.Ev


theorem cb_impl_isNameByte : Callable Tryz.prog 140 := ⟨_, Tryz.func140, by kernel_rfl, by kernel_rfl⟩
set_option maxHeartbeats 2000000 in
set_option maxRecDepth 100000 in
theorem ct_impl_isNameByte {c : UInt8} {n : Int} : Ct Tryz.prog 140 [.int .u8 c.toNat, .int .i64 n] [] (.bool (nameByte c (decide (n ≤ 0)))) [] := by
  obtain ⟨k1, k2⟩ := nameTable_byte c
  rw [show nameTable = [48, 49, 50, 51, 52, 53, 54, 55, 56, 57, 97, 98, 99, 100, 101, 102, 103, 104, 105, 106, 107, 108, 109, 110, 111, 112, 113, 114, 115, 116, 117, 118, 119, 120, 121, 122, 65, 66, 67, 68, 69, 70, 71, 72, 73, 74, 75, 76, 77, 78, 79, 80, 81, 82, 83, 84, 85, 86, 87, 88, 89, 90, 36] from rfl] at k1 k2
  refine Ct_bodyS tok Tryz.func140 rfl 18 (by kernel_rfl) (by kernel_rfl) fun X hX => ?_
  refine W_rseqK [0, 1] (Runs.run tok hX (by simp; rfl)) ?_
  refine W_rseqK [1, 5] (Runs.step 1 tok hX (by simp; rfl) (Runs.call [] rfl (by simp) rfl (by simp; rfl) (by simp; rfl) (by apply ct_strings_IndexByte <;> first | assumption | omega | (simp at *; omega) | simp_all) cb_strings_IndexByte (by simp) (by simp) (by simp; rfl) (Runs.run tok hX (by simp; rfl)))) ?_
  refine W_rseqK [4] (Runs.step 3 tok hX (by simp; rfl) (Runs.mrgS 7 10 [17] (by simp; rfl) (by rfl) (fun b2_3 => by (try simp at b2_3); exact (Runs.run tok hX (by simp [-atD_lt, -atL_lt]; rfl))) (fun b2_3 => by (try simp at b2_3); exact (Runs.step 3 tok hX (by simp [-atD_lt, -atL_lt]; rfl) (Runs.mrgS 3 13 [10, 16] (by simp; rfl) (by rfl) (fun b2_6 => by (try simp at b2_6); exact (Runs.run tok hX (by simp [-atD_lt, -atL_lt]; rfl))) (fun b2_6 => by (try simp at b2_6); exact (Runs.run tok hX (by simp [-atD_lt, -atL_lt]; rfl))) (by rfl) (by rfl) (Runs.run tok hX (by simp [-atD_lt, -atL_lt]; rfl))))) (by rfl) (by rfl) (Runs.run tok hX (by simp; rfl)))) ?_
  refine W_ret ?_
  refine W_retR (by simp; rfl) (.of_eq ?_) rfl
  by_cases hn : n ≤ 0
  · rw [decide_eq_true hn, ← k1]; simp; omega
  · have hp : 0 < n := by omega
    rw [decide_eq_false hn, ← k2]; simp [hp]; grind
end Go.Proofs
namespace Go.Proofs
open Go Go.Ev


theorem cb_impl_length : Callable Tryz.prog 141 := ⟨_, Tryz.func141, by kernel_rfl, by kernel_rfl⟩
set_option maxHeartbeats 2000000 in
set_option maxRecDepth 100000 in
theorem ct_impl_length {t : Str} : Ct Tryz.prog 141 [.str t] [] (.int .i64 t.length) [] := by
  refine Ct_bodyS tok Tryz.func141 rfl 5 (by kernel_rfl) (by kernel_rfl) fun X hX => ?_
  refine W_rseqK [0] (Runs.run tok hX (by simp; rfl)) ?_
  refine W_rseqK [2] (Runs.run tok hX (by simp; rfl)) ?_
  refine W_ret ?_
  refine W_retR (by simp; rfl) (.of_eq ?_) rfl
  simp
end Go.Proofs
namespace Go.Proofs
open Go Go.Ev


theorem cb_impl_NameRight : Callable Tryz.prog 116 := ⟨_, Tryz.func116, by kernel_rfl, by kernel_rfl⟩
set_option maxHeartbeats 2000000 in
set_option maxRecDepth 100000 in
theorem ct_impl_NameRight {t : Str} (ht : t.length ≤ 1099511627776) : Ct Tryz.prog 116 [.str t] [] (.bool (nameRight t)) [] := by
  refine Ct_bodyS tok Tryz.func116 rfl 19 (by kernel_rfl) (by kernel_rfl) fun X hX => ?_
  refine W_rseqK [0] (Runs.run tok hX (by simp; rfl)) ?_
  refine W_seq ?_
  refine W_rseqK [0, 5, 6] (Runs.run tok hX (by simp; rfl)) ?_
  refine W_block ?_
  -- loop 0: live [0, 5, 6]
  refine W_loopU (α := Nat) [0, 5, 6] (fun i => [(6, .int .i64 i)]) (fun i => []) (fun i => i ≤ t.length ∧ nameFrom (decide (i = 0)) (t.drop i) = nameFrom true t) (fun i => t.length - i) (0) (fun i => by simp; rfl) (by simp) ?_ ?_
  · simp
  rintro i ⟨hi, hI⟩
  refine W_rseqK [0, 5, 6, 7] (Runs.run tok hX (by simp; rfl)) ?_
  refine W_seq ?_
  refine W_condS (by simp; rfl) (by rfl) (fun h2 => ?_) (fun h2 => ?_)
  · (try simp at h2)
    rw [List.drop_eq_getElem_cons h2] at hI
    simp only [nameFrom] at hI
    refine W_skip ?_
    refine W_seq ?_
    refine W_block ?_
    refine W_rseqK [0, 3, 5, 6] (Runs.run tok hX (by simp; rfl)) ?_
    refine W_rseqK [0, 5, 6, 14] (Runs.step 4 tok hX (by simp [h2]; rfl) (Runs.call [] rfl (by simp) rfl (by simp [h2]; rfl) (by simp; rfl) (by apply ct_impl_isNameByte <;> first | assumption | omega | (simp at *; omega) | simp_all) cb_impl_isNameByte (by simp) (by simp) (by simp [h2]; rfl) (Runs.run tok hX (by simp; rfl)))) ?_
    refine W_condS (by simp; rfl) (by rfl) (fun h4 => ?_) (fun h4 => ?_)
    · (try simp at h4)
      refine W_rseqK [2] (Runs.run tok hX (by simp; rfl)) ?_
      refine W_ret ?_
      refine W_retR (by simp [h2]; rfl) (.of_eq ?_) rfl
      rw [nameRight, ← hI, h4]; simp
    · (try simp at h4)
      rw [h4, Bool.true_and] at hI
      refine W_skip ?_
      refine W_reg (Runs.run tok hX (by simp; (try (simp (disch := omega) only [wrap_i64]; (try simp))); rfl)) ?_
      refine round_end (i + 1) [0, 5, 6] (by simp [h2]; try (simp (disch := omega) only [wrap_i64])) ?_ ?_
      · exact ⟨by omega, by simpa using hI⟩
      · omega
  · (try simp at h2)
    rw [List.drop_eq_nil_of_le h2] at hI
    simp only [nameFrom] at hI
    refine W_exit ?_
    refine W_rseqK [2] (Runs.step 1 tok hX (by simp; rfl) (Runs.call [] rfl (by simp) rfl (by simp [h2]; rfl) (by simp; rfl) (by apply ct_impl_length <;> first | assumption | omega | (simp at *; omega) | simp_all) cb_impl_length (by simp) (by simp) (by simp [h2]; rfl) (Runs.call [] rfl (by simp) rfl (by simp [h2]; rfl) (by simp; rfl) (by apply ct_impl_within <;> first | assumption | omega | (simp at *; omega) | simp_all) cb_impl_within (by simp) (by simp) (by simp [h2]; rfl) (Runs.run tok hX (by simp; rfl))))) ?_
    refine W_ret ?_
    refine W_retR (by simp [h2]; rfl) (.of_eq ?_) rfl
    rw [nameRight, ← hI]; simp
end Go.Proofs
namespace Go.Proofs
open Go Go.Ev


theorem cb_impl_reader_is : Callable Tryz.prog 169 := ⟨_, Tryz.func169, by kernel_rfl, by kernel_rfl⟩
set_option maxHeartbeats 2000000 in
set_option maxRecDepth 100000 in
theorem ct_impl_reader_is {t : Str} {p : Nat} {b : Bool} {n : Int} (ht : t.length ≤ 1099511627776) (hp : p ≤ t.length) (hn0 : 0 ≤ n) (hn1 : n < 256) : Ct Tryz.prog 169 [.ptr 0 0 0, .int .u8 n] [rdr t p b] (.bool (hit t p b n.toNat)) [rdr t p b] := by
  obtain ⟨m, rfl⟩ : ∃ m : Nat, n = m := ⟨n.toNat, by omega⟩
  refine Ct_bodyS tok Tryz.func169 rfl 35 (by kernel_rfl) (by kernel_rfl) fun X hX => ?_
  refine W_rseqK [0, 1] (Runs.run tok hX (by simp; rfl)) ?_
  refine W_dseqK [4] hmo (by kernel_rfl) (RunsQ.step (n0 := 0) 6 tok (by simp; rfl) (RunsQ.mrgS 11 10 [0, 1, 21] (by simp; rfl) (by rfl) (fun b1_6 => by (try simp at b1_6); exact (RunsQ.step (n0 := 0) 8 tok (by simp [-atD_lt, -atL_lt]; rfl) (RunsQ.call rfl (by simp) rfl (by simp [-atD_lt, -atL_lt]; rfl) (by apply ct_impl_length <;> first | assumption | omega | (simp at *; omega) | simp_all) cb_impl_length rfl (RunsQ.run (n0 := 0) tok (by simp [-atD_lt, -atL_lt]; rfl))))) (fun b1_6 => by (try simp at b1_6); exact (RunsQ.run (n0 := 0) tok (by simp [-atD_lt, -atL_lt]; rfl))) (by rfl) (by rfl) (RunsQ.step (n0 := 0) 1 tok (by simp; rfl) (RunsQ.mrgS 12 22 [34] (by simp; rfl) (by rfl) (fun b1_18 => by (try simp at b1_18); exact (RunsQ.run (n0 := 0) tok (by simp [-atD_lt, -atL_lt, b1_18]; rfl))) (fun b1_18 => by (try simp at b1_18); exact (RunsQ.run (n0 := 0) tok (by simp [-atD_lt, -atL_lt]; rfl))) (by rfl) (by rfl) (RunsQ.run (n0 := 0) tok (by simp; rfl)))))) ?_
  refine W_ret ?_
  refine W_retR (by simp; rfl) (.of_eq ?_) rfl
  rcases Nat.lt_or_ge p t.length with h | h
  · (simp [hit, isAt_lt h, h]) <;> grind
  · (simp [hit, isAt_ge h]) <;> omega
end Go.Proofs
namespace Go.Proofs
open Go Go.Ev


theorem cb_impl_reader_take : Callable Tryz.prog 152 := ⟨_, Tryz.func152, by kernel_rfl, by kernel_rfl⟩
set_option maxHeartbeats 2000000 in
set_option maxRecDepth 100000 in
theorem ct_impl_reader_take {t : Str} {p : Nat} {b : Bool} {n : Int} (ht : t.length ≤ 1099511627776) (hp : p ≤ t.length) (hn0 : 0 ≤ n) (hn1 : n < 256) : Ct Tryz.prog 152 [.ptr 0 0 0, .int .u8 n] [rdr t p b] (.bool (hit t p b n.toNat)) [rdr t (adv (hit t p b n.toNat) p) b] := by
  refine Ct_bodyS tok Tryz.func152 rfl 16 (by kernel_rfl) (by kernel_rfl) fun X hX => ?_
  refine W_rseqK [0, 1] (Runs.run tok hX (by simp; rfl)) ?_
  refine W_seq ?_
  refine W_rseqK [0, 8] (Runs.step 2 tok hX (by simp; rfl) (Runs.call [0] rfl (by simp) rfl (by simp; rfl) (by simp; rfl) (by apply ct_impl_reader_is <;> first | assumption | omega | (simp at *; omega) | simp_all) cb_impl_reader_is (by simp) (by simp) (by simp; rfl) (Runs.run tok hX (by simp; rfl)))) ?_
  refine W_condS (by simp; rfl) (by rfl) (fun h1 => ?_) (fun h1 => ?_)
  · (try simp at h1)
    refine W_rseqK [4] (Runs.run tok hX (by simp; rfl)) ?_
    refine W_ret ?_
    refine W_retR2 (by simp; rfl) (by rfl) (.of_eq ?_) ?_
    all_goals clear hX
    · skip
      simp_all
    · skip
      simp_all
  · (try simp at h1)
    refine W_skip ?_
    refine W_rseqK [] (Runs.run tok hX (by simp; (try (simp (disch := omega) only [wrap_i64]; (try simp))); rfl)) ?_
    refine W_rseqK [4] (Runs.run tok hX (by simp; rfl)) ?_
    refine W_ret ?_
    refine W_retR2 (by simp; rfl) (by rfl) (.of_eq ?_) ?_
    all_goals clear hX
    · skip
      simp_all
    · skip
      simp_all
end Go.Proofs
namespace Go.Proofs
open Go Go.Ev


theorem cb_impl_reader_want : Callable Tryz.prog 151 := ⟨_, Tryz.func151, by kernel_rfl, by kernel_rfl⟩
set_option maxHeartbeats 2000000 in
set_option maxRecDepth 100000 in
theorem ct_impl_reader_want {t : Str} {p : Nat} {b : Bool} {n : Int} (ht : t.length ≤ 1099511627776) (hp : p ≤ t.length) (hn0 : 0 ≤ n) (hn1 : n < 256) : Ct Tryz.prog 151 [.ptr 0 0 0, .int .u8 n] [rdr t p b] (.tup []) [rdr t (adv (hit t p b n.toNat) p) (b || !hit t p b n.toNat)] := by
  refine Ct_bodyS tok Tryz.func151 rfl 11 (by kernel_rfl) (by kernel_rfl) fun X hX => ?_
  refine W_rseqK [0, 7] (Runs.step 2 tok hX (by simp; rfl) (Runs.call [0] rfl (by simp) rfl (by simp; rfl) (by simp; rfl) (by apply ct_impl_reader_take <;> first | assumption | omega | (simp at *; omega) | simp_all) cb_impl_reader_take (by simp) (by simp) (by simp; rfl) (Runs.run tok hX (by simp; rfl)))) ?_
  refine W_condS (by simp; rfl) (by rfl) (fun h0 => ?_) (fun h0 => ?_)
  · (try simp at h0)
    refine W_reg (Runs.run tok hX (by simp; rfl)) ?_
    refine W_endR2 (by simp; rfl) (by rfl) (.of_eq ?_) ?_
    all_goals clear hX
    · skip
      rfl
    · skip
      simp_all
  · (try simp at h0)
    refine W_skip ?_
    refine W_endR2 (by simp; rfl) (by rfl) (.of_eq ?_) ?_
    all_goals clear hX
    · skip
      rfl
    · skip
      simp_all
end Go.Proofs
