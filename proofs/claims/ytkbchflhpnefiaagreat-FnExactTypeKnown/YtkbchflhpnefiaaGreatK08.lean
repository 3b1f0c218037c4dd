/- Part 9 of what the proofs lean on: what the functions of the program and of the reference compute. Conditions: none. -/
import Derived.Test.YtkbchflhpnefiaaGreatK07
set_option linter.all false
set_option linter.unusedVariables false
set_option linter.unusedSimpArgs false
namespace Go.Proofs
open Go Go.Ev


theorem cb_slices_IndexFunc_string_string : Callable Tryz.prog 153 := ⟨_, Tryz.func153, by kernel_rfl, by kernel_rfl⟩
set_option maxHeartbeats 2000000 in
set_option maxRecDepth 100000 in
theorem ct_slices_IndexFunc_string_string {cs : List Cls} (hc : cs.length ≤ 1099511627776) {l : List Str} (hl : l.length ≤ 1099511627776) (hs : ∀ x ∈ l, x.length ≤ 1099511627776) : Ct Tryz.prog 153 [.lst false 1 (l.map V.str), .clo (.func 125) [] [.fp [.clo (.func 121) [] [.fp [wv cs]]]]] [] (.int .i64 (fix (fun t => !typeK cs t) l)) [] := by
  refine Ct_bodyS tok Tryz.func153 rfl 19 (by kernel_rfl) (by kernel_rfl) fun X hX => ?_
  refine W_rseqK [0, 1] (Runs.run tok hX (by simp; rfl)) ?_
  refine W_seq ?_
  refine W_rseqK [0, 1, 7, 8] (Runs.run tok hX (by simp; rfl)) ?_
  refine W_block ?_
  -- loop 0: live [0, 1, 7, 8]
  refine W_loopU (α := Nat) [0, 1, 7, 8] (fun i => [(8, .int .i64 i)]) (fun i => []) (fun i => i ≤ l.length ∧ ∀ x ∈ l.take i, (fun t => !typeK cs t) x = false) (fun i => l.length - i) (0) (fun i => by simp; rfl) (by simp) ?_ ?_
  · simp
  rintro i ⟨hi, hI⟩
  refine W_rseqK [0, 1, 7, 8, 9] (Runs.run tok hX (by simp; rfl)) ?_
  refine W_seq ?_
  refine W_condS (by simp; rfl) (by rfl) (fun h2 => ?_) (fun h2 => ?_)
  · (try simp at h2)
    refine W_skip ?_
    refine W_seq ?_
    refine W_block ?_
    refine W_rseqK [0, 1, 5, 7, 8] (Runs.run tok hX (by simp; rfl)) ?_
    refine W_rseqK [0, 1, 5, 7, 8, 16] (Runs.step 5 tok hX (by simp [h2]; rfl) (Runs.call [] rfl (by simp) rfl (by simp [h2]; rfl) (by simp; rfl) (by apply ct_impl_world_namesOK_2 <;> first | assumption | exact hs _ (List.getElem_mem h2) | omega) cb_impl_world_namesOK_2 (by simp) (by simp) (by simp [h2]; rfl) (Runs.fin (by (try simp); rfl)))) ?_
    refine W_condS (by simp; rfl) (by rfl) (fun h4 => ?_) (fun h4 => ?_)
    · (try simp at h4)
      refine W_rseqK [4] (Runs.run tok hX (by simp; rfl)) ?_
      refine W_ret ?_
      refine W_retR (by simp [h2]; rfl) (.of_eq ?_) rfl
      rw [fix_hit h2 hI (by simpa using h4)]
    · (try simp at h4)
      refine W_skip ?_
      refine W_reg (Runs.run tok hX (by simp; (try (simp (disch := omega) only [wrap_i64]; (try simp))); rfl)) ?_
      refine round_end (i + 1) [0, 1, 7, 8] (by simp [h2]; try (simp (disch := omega) only [wrap_i64])) ?_ ?_
      · exact ⟨by omega, take_not h2 hI (by simpa using h4)⟩
      · omega
  · (try simp at h2)
    refine W_exit ?_
    refine W_rseqK [4] (Runs.run tok hX (by simp; rfl)) ?_
    refine W_ret ?_
    refine W_retR (by simp [h2]; rfl) (.of_eq ?_) rfl
    rw [fix_none (p := fun t => !typeK cs t) (fun x hx => hI x (by rw [List.take_of_length_le h2]; exact hx))]
end Go.Proofs
namespace Go.Proofs
open Go Go.Ev


theorem cb_slices_ContainsFunc_string_string : Callable Tryz.prog 124 := ⟨_, Tryz.func124, by kernel_rfl, by kernel_rfl⟩
set_option maxHeartbeats 2000000 in
set_option maxRecDepth 100000 in
theorem ct_slices_ContainsFunc_string_string {cs : List Cls} (hc : cs.length ≤ 1099511627776) {l : List Str} (hl : l.length ≤ 1099511627776) (hs : ∀ x ∈ l, x.length ≤ 1099511627776) : Ct Tryz.prog 124 [.lst false 1 (l.map V.str), .clo (.func 125) [] [.fp [.clo (.func 121) [] [.fp [wv cs]]]]] [] (.bool (l.any (fun t => !typeK cs t))) [] := by
  refine Ct_bodyS tok Tryz.func124 rfl 9 (by kernel_rfl) (by kernel_rfl) fun X hX => ?_
  refine W_rseqK [0, 1] (Runs.run tok hX (by simp; rfl)) ?_
  refine W_rseqK [4] (Runs.step 2 tok hX (by simp; rfl) (Runs.call [] rfl (by simp) rfl (by simp; rfl) (by simp; rfl) (by apply ct_slices_IndexFunc_string_string <;> first | assumption | omega | (simp at *; omega) | simp_all) cb_slices_IndexFunc_string_string (by simp) (by simp) (by simp; rfl) (Runs.run tok hX (by simp; rfl)))) ?_
  refine W_ret ?_
  refine W_retR (by simp; rfl) (.of_eq ?_) rfl
  rw [← fix_ge]
end Go.Proofs
namespace Go.Proofs
open Go Go.Ev


theorem cb_impl_world_namesOK : Callable Tryz.prog 91 := ⟨_, Tryz.func91, by kernel_rfl, by kernel_rfl⟩
set_option maxHeartbeats 2000000 in
set_option maxRecDepth 100000 in
theorem ct_impl_world_namesOK {l : List Cls} (hl : l.length ≤ 1099511627776) {c : Cls} (h : sizeC c ≤ 1099511627776) : Ct Tryz.prog 91 [wv l, eC c] [] (.bool (clsKI l c)) [] := by
  simp only [sizeC] at h
  refine Ct_bodyS tok Tryz.func91 rfl 48 (by kernel_rfl) (by kernel_rfl) fun X hX => ?_
  refine W_rseqK [2, 3] (Runs.run tok hX (by simp; rfl)) ?_
  refine W_rseqK [3, 5] (Runs.run tok hX (by simp; rfl)) ?_
  refine W_seq ?_
  refine W_rseqK [3, 5, 13, 14, 15] (Runs.run tok hX (by simp; rfl)) ?_
  refine W_block ?_
  -- loop 0: live [3, 5, 13, 14, 15]
  refine W_loopU (α := Nat) [3, 5, 13, 14, 15] (fun i => [(15, .int .i64 i)]) (fun i => []) (fun i => i ≤ c.fields.length ∧ (c.fields.drop i).all (fun f => typeK l f.type) = c.fields.all (fun f => typeK l f.type)) (fun i => c.fields.length - i) (0) (fun i => by simp; rfl) (by simp) ?_ ?_
  · simp
  rintro i ⟨hi, hI⟩
  refine W_rseqK [3, 5, 13, 14, 15, 16] (Runs.run tok hX (by simp; rfl)) ?_
  refine W_seq ?_
  refine W_condS (by simp; rfl) (by rfl) (fun h3 => ?_) (fun h3 => ?_)
  · (try simp at h3)
    rw [all_drop h3] at hI
    refine W_skip ?_
    refine W_seq ?_
    refine W_block ?_
    refine W_rseqK [3, 5, 7, 13, 14, 15] (Runs.run tok hX (by simp [h3]; rfl)) ?_
    refine W_rseqK [3, 5, 13, 14, 15, 23] (Runs.step 3 tok hX (by simp [h3]; rfl) (Runs.callB rfl (by simp) rfl (by simp [h3]; rfl) (by apply ct_impl_world_namesOK_1 <;> first | assumption | omega | (have := mem_sum (f := sizeF) (List.getElem_mem h3); simp only [sizeF] at *; (try simp only [atL_lt h3]); omega) | (have := mem_sum (f := sizeM) (List.getElem_mem h9); simp only [sizeM] at *; (try simp only [atL_lt h9]); omega)) cb_impl_world_namesOK_1 (by simp) (by simp [h3]; rfl) (Runs.run tok hX (by simp; rfl)))) ?_
    refine W_condS (by simp; rfl) (by rfl) (fun h5 => ?_) (fun h5 => ?_)
    · (try simp at h5)
      refine W_rseqK [4] (Runs.run tok hX (by simp; rfl)) ?_
      refine W_ret ?_
      refine W_retR (by simp [h3]; rfl) (.of_eq ?_) rfl
      simp [clsKI, ← hI, h5]
    · (try simp at h5)
      rw [h5, Bool.true_and] at hI
      refine W_skip ?_
      refine W_reg (Runs.run tok hX (by simp; (try (simp (disch := omega) only [wrap_i64]; (try simp))); rfl)) ?_
      refine round_endT (i + 1) [3, 5, 13, 14, 15] 3 (by simp [hX]) (by simp) (by simp [h3]; try (simp (disch := omega) only [wrap_i64])) ?_ ?_
      · exact ⟨by omega, hI⟩
      · omega
  · (try simp at h3)
    rw [List.drop_eq_nil_of_le h3] at hI
    refine W_exit ?_
    refine W_seq ?_
    refine W_rseqK [5, 26, 27, 28] (Runs.run tok hX (by simp [h3]; rfl)) ?_
    refine W_block ?_
    -- loop 1: live [5, 26, 27, 28]
    refine W_loopU (α := Nat) [5, 26, 27, 28] (fun i => [(28, .int .i64 i)]) (fun i => []) (fun i => i ≤ c.methods.length ∧ (c.methods.drop i).all (fun m => descKI l m.desc) = c.methods.all (fun m => descKI l m.desc)) (fun i => c.methods.length - i) (0) (fun i => by simp; rfl) (by simp) ?_ ?_
    · simp
    rintro i ⟨hi2, hI2⟩
    refine W_rseqK [5, 26, 27, 28, 29] (Runs.run tok hX (by simp; rfl)) ?_
    refine W_seq ?_
    refine W_condS (by simp; rfl) (by rfl) (fun h9 => ?_) (fun h9 => ?_)
    · (try simp at h9)
      rw [all_drop h9] at hI2
      have hdp := dRead_parts c.methods[i].desc
      have hd8 := dRead_le c.methods[i].desc
      have hdl : c.methods[i].desc.length ≤ 1099511627776 := by have := mem_sum (f := sizeM) (List.getElem_mem h9); simp only [sizeM] at *; omega
      refine W_skip ?_
      refine W_seq ?_
      refine W_block ?_
      refine W_rseqK [5, 9, 26, 27, 28] (Runs.run tok hX (by simp [h3, h9]; rfl)) ?_
      refine W_rseqK [5, 10, 26, 27, 28] (Runs.step 2 tok hX (by simp [h3, h9]; rfl) (Runs.callF rfl (by simp) rfl (by simp [h3, h9]; rfl) (by apply ct_impl_descRead <;> first | assumption | omega | (have := mem_sum (f := sizeF) (List.getElem_mem h3); simp only [sizeF] at *; (try simp only [atL_lt h3]); omega) | (have := mem_sum (f := sizeM) (List.getElem_mem h9); simp only [sizeM] at *; (try simp only [atL_lt h9]); omega)) cb_impl_descRead (by simp [h3, h9]; rfl) (Runs.run tok hX (by simp [h3, h9]; rfl)))) ?_
      refine W_rseqK [5, 26, 27, 28, 46] (Runs.step 3 tok hX (by simp [h3, h9]; rfl) (Runs.callB rfl (by simp) rfl (by simp [h3, h9]; rfl) (by apply ct_impl_world_namesOK_1 <;> first | assumption | exact Nat.le_trans hdp.1 hdl) cb_impl_world_namesOK_1 (by simp) (by simp [h3, h9]; rfl) (Runs.step 2 tok hX (by simp; rfl) (Runs.mrgS 5 41 [5, 26, 27, 28, 46] (by simp; rfl) (by rfl) (fun b12_6 => by (try simp at b12_6); exact (Runs.run tok hX (by simp [-atD_lt, -atL_lt]; rfl))) (fun b12_6 => by (try simp at b12_6); exact (Runs.step 3 tok hX (by simp [-atD_lt, -atL_lt, h3, h9]; rfl) (Runs.callB2 rfl (by simp) rfl (by simp [-atD_lt, -atL_lt, h3, h9]; rfl) (by apply ct_slices_ContainsFunc_string_string <;> first | assumption | omega | exact fun x hx => Nat.le_trans (hdp.2 x hx) hdl) cb_slices_ContainsFunc_string_string (by simp) (by simp [-atD_lt, -atL_lt, h3, h9]; rfl) (Runs.run tok hX (by simp [-atD_lt, -atL_lt]; rfl))))) (by rfl) (by rfl) (Runs.fin (by (try simp); rfl)))))) ?_
      refine W_condS (by simp; rfl) (by rfl) (fun h12 => ?_) (fun h12 => ?_)
      · (try simp at h12)
        refine W_rseqK [4] (Runs.run tok hX (by simp; rfl)) ?_
        refine W_ret ?_
        refine W_retR (by simp [h3, h9]; rfl) (.of_eq ?_) rfl
        have h12b : descKI l c.methods[i].desc = false := by
          rw [Bool.eq_false_iff]
          intro e
          simp only [descKI, Bool.and_eq_true, List.all_eq_true] at e
          rcases h12 with h | ⟨x, hx, h⟩
          · rw [e.1] at h; cases h
          · rw [e.2 x hx] at h; cases h
        simp [clsKI, ← hI2, h12b]
      · (try simp at h12)
        have h12b : descKI l c.methods[i].desc = true := by
          simp only [descKI, Bool.and_eq_true, List.all_eq_true]
          exact h12
        rw [h12b, Bool.true_and] at hI2
        refine W_skip ?_
        refine W_reg (Runs.run tok hX (by simp; (try (simp (disch := omega) only [wrap_i64]; (try simp))); rfl)) ?_
        refine round_endT (i + 1) [5, 26, 27, 28] 3 (by simp [hX]) (by simp) (by simp [h3, h9]; try (simp (disch := omega) only [wrap_i64])) ?_ ?_
        · exact ⟨by omega, hI2⟩
        · omega
    · (try simp at h9)
      rw [List.drop_eq_nil_of_le h9] at hI2
      refine W_exit ?_
      refine W_rseqK [4] (Runs.run tok hX (by simp; rfl)) ?_
      refine W_ret ?_
      refine W_retR (by simp [h3, h9]; rfl) (.of_eq ?_) rfl
      simp [clsKI, ← hI, ← hI2]
end Go.Proofs
namespace Go.Proofs
open Go Go.Ev


theorem cb_impl_world_check_3 : Callable Tryz.prog 89 := ⟨_, Tryz.func89, by kernel_rfl, by kernel_rfl⟩
set_option maxHeartbeats 2000000 in
set_option maxRecDepth 100000 in
theorem ct_impl_world_check_3 {l : List Cls} (hl : l.length ≤ 1099511627776) {c : Cls} {k : Int} (h : sizeC c ≤ 1099511627776) : Ct Tryz.prog 89 [.int .i64 k, eC c, .fp [wv l]] [] (.int .i64 (pI3 l c)) [] := by
  refine Ct_bodyS tok Tryz.func89 rfl 10 (by kernel_rfl) (by kernel_rfl) fun X hX => ?_
  refine W_rseqK [2, 4] (Runs.run tok hX (by simp; rfl)) ?_
  refine W_rseqK [5] (Runs.step 2 tok hX (by simp; rfl) (Runs.call [] rfl (by simp) rfl (by simp; rfl) (by simp; rfl) (by apply ct_impl_world_namesOK <;> first | assumption | omega | (simp at *; omega) | simp_all) cb_impl_world_namesOK (by simp) (by simp) (by simp; rfl) (Runs.call [] rfl (by simp) rfl (by simp; rfl) (by simp; rfl) (by apply ct_impl_codeUnless <;> first | assumption | omega | (simp at *; omega) | simp_all) cb_impl_codeUnless (by simp) (by simp) (by simp; rfl) (Runs.run tok hX (by simp; rfl))))) ?_
  refine W_ret ?_
  refine W_retR (by simp; rfl) (.of_eq ?_) rfl
  unfold pI3
  rfl
end Go.Proofs
namespace Go.Proofs
open Go Go.Ev


theorem cb_impl_world_super : Callable Tryz.prog 56 := ⟨_, Tryz.func56, by kernel_rfl, by kernel_rfl⟩
set_option maxHeartbeats 2000000 in
set_option maxRecDepth 100000 in
theorem ct_impl_world_super {l : List Cls} (hl : l.length ≤ 1099511627776) {n : Str} : Ct Tryz.prog 56 [wv l, .str n] [] (.str (superI l n)) [] := by
  refine Ct_bodyS tok Tryz.func56 rfl 28 (by kernel_rfl) (by kernel_rfl) fun X hX => ?_
  refine W_rseqK [0, 1] (Runs.run tok hX (by simp; rfl)) ?_
  refine W_rseqK [1, 5, 6] (Runs.step 2 tok hX (by simp; rfl) (Runs.callF rfl (by simp) rfl (by simp; rfl) (by apply ct_impl_world_class <;> first | assumption | omega | (simp at *; omega) | simp_all) cb_impl_world_class (by simp; rfl) (Runs.run tok hX (by simp; rfl)))) ?_
  refine W_seq ?_
  refine W_block ?_
  refine W_rseqK [1, 5, 13] (Runs.run tok hX (by simp; rfl)) ?_
  refine W_condS (by simp; rfl) (by rfl) (fun h2 => ?_) (fun h2 => ?_)
  · (try simp at h2)
    refine W_rseqK [4] (Runs.run tok hX (by simp; rfl)) ?_
    refine W_ret ?_
    refine W_retR (by simp; rfl) (.of_eq ?_) rfl
    simp only [superI, sObject, sError]
    (try simp_all) <;> grind
  · (try simp at h2)
    refine W_rseqK [1, 17] (Runs.step 1 tok hX (by simp; rfl) (Runs.call [] rfl (by simp) rfl (by simp; rfl) (by simp; rfl) (by apply ct_impl_isBuiltIn <;> first | assumption | omega | (simp at *; omega) | simp_all) cb_impl_isBuiltIn (by simp) (by simp) (by simp; rfl) (Runs.step 2 tok hX (by simp; rfl) (Runs.mrgS 3 21 [1, 24] (by simp; rfl) (by rfl) (fun b4_4 => by (try simp at b4_4); exact (Runs.run tok hX (by simp [-atD_lt, -atL_lt]; rfl))) (fun b4_4 => by (try simp at b4_4); exact (Runs.run tok hX (by simp [-atD_lt, -atL_lt]; rfl))) (by rfl) (by rfl) (Runs.run tok hX (by simp; rfl)))))) ?_
    refine W_condS (by simp; rfl) (by rfl) (fun h4 => ?_) (fun h4 => ?_)
    · (try simp at h4)
      refine W_rseqK [4] (Runs.run tok hX (by simp; rfl)) ?_
      refine W_ret ?_
      refine W_retR (by simp; rfl) (.of_eq ?_) rfl
      simp only [superI, sObject, sError]
      (try simp_all) <;> grind
    · (try simp at h4)
      refine W_rseqK [25] (Runs.run tok hX (by simp; rfl)) ?_
      refine W_condS (by simp; rfl) (by rfl) (fun h6 => ?_) (fun h6 => ?_)
      · (try simp at h6)
        refine W_rseqK [4] (Runs.run tok hX (by simp; rfl)) ?_
        refine W_ret ?_
        refine W_retR (by simp; rfl) (.of_eq ?_) rfl
        simp only [superI, sObject, sError]
        (try simp_all) <;> grind
      · (try simp at h6)
        refine W_skip ?_
        refine W_rseqK [4] (Runs.run tok hX (by simp; rfl)) ?_
        refine W_ret ?_
        refine W_retR (by simp; rfl) (.of_eq ?_) rfl
        simp only [superI, sObject, sError]
        (try simp_all) <;> grind
end Go.Proofs
namespace Go.Proofs
open Go Go.Ev


theorem cb_impl_world_chain : Callable Tryz.prog 98 := ⟨_, Tryz.func98, by kernel_rfl, by kernel_rfl⟩
set_option maxHeartbeats 2000000 in
set_option maxRecDepth 100000 in
theorem ct_impl_world_chain {l : List Cls} (hl : l.length ≤ 1048576) {n : Str} : Ct Tryz.prog 98 [wv l, .str n] [] (.lst true 1 ((chain l n).map V.str)) [] := by
  refine Ct_bodyS tok Tryz.func98 rfl 24 (by kernel_rfl) (by kernel_rfl) fun X hX => ?_
  refine W_rseqK [0, 1] (Runs.run tok hX (by simp [Go.Ev.seen]; rfl)) ?_
  refine W_rseqK [0, 1, 5] (Runs.run tok hX (by simp [Go.Ev.seen]; rfl)) ?_
  refine W_seq ?_
  refine W_block ?_
  -- loop 0: live [0, 1, 5]
  refine W_loopU (α := List Str × Str) [0, 1, 5] (fun a => [(1, .str a.2), (5, .arr 0 0 a.1.length)]) (fun a => [(0, some (1, a.1.map V.str))]) (fun a => a.1.length + cMu l a.1 ≤ 8 + l.length ∧ chn l a.1 a.2 = chain l n) (fun a => cMu l a.1) (([], n)) (fun a => by simp; rfl) (by simp) ?_ ?_
  · exact ⟨by simpa using cMu_le l [], rfl⟩
  rintro ⟨o, s⟩ ⟨hn, hI⟩
  simp only at hn hI
  have w0 : o.length ≤ 1099511627776 := by omega
  have w1 : (o.length + 1) * 16 ≤ 140737488355328 := by omega
  have w2 : o.length ≤ 1099511627775 := by omega
  refine W_seq ?_
  refine W_rseqK [0, 1, 5, 15] (Runs.step 2 tok hX (by simp [Go.Ev.seen]; rfl) (Runs.call [] rfl (by simp) rfl (by simp [w1, w2, Go.Ev.seen]; rfl) (by simp; rfl) (by apply ct_impl_world_known <;> first | assumption | omega | (simp at *; omega) | simp_all) cb_impl_world_known (by simp) (by simp) (by simp [w1, w2, Go.Ev.seen]; rfl) (Runs.step 1 tok hX (by simp [Go.Ev.seen]; rfl) (Runs.mrgS 5 10 [0, 1, 5, 15] (by simp; rfl) (by rfl) (fun b2_4 => by (try simp at b2_4); exact (Runs.step 2 tok hX (by simp [-atD_lt, -atL_lt, Go.Ev.seen]; rfl) (Runs.callB rfl (by simp) rfl (by simp [-atD_lt, -atL_lt, w1, w2, Go.Ev.seen]; rfl) (by apply ct_slices_Contains_string_string <;> first | assumption | omega | (simp at *; omega) | simp_all) cb_slices_Contains_string_string (by simp) (by simp [-atD_lt, -atL_lt, w1, w2, Go.Ev.seen]; rfl) (Runs.run tok hX (by simp [-atD_lt, -atL_lt, Go.Ev.seen]; rfl))))) (fun b2_4 => by (try simp at b2_4); exact (Runs.run tok hX (by simp [-atD_lt, -atL_lt, Go.Ev.seen]; rfl))) (by rfl) (by rfl) (Runs.fin (by (try simp); rfl)))))) ?_
  refine W_condS (by simp; rfl) (by rfl) (fun h2 => ?_) (fun h2 => ?_)
  · (try simp at h2)
    have h2b : out o s = false := by
      rw [Bool.eq_false_iff]; intro e
      exact h2.2 _ (out_iff.1 e) rfl
    have hlt := cMu_lt h2.1 h2b
    rw [chn_go h2.1 h2b] at hI
    refine W_skip ?_
    refine W_block ?_
    refine W_rseqK [0, 1, 5] (Runs.run tok hX (by simp [w1, w2, Go.Ev.seen]; rfl)) ?_
    refine W_reg (Runs.step 2 tok hX (by simp [Go.Ev.seen]; rfl) (Runs.call [] rfl (by simp) rfl (by simp [w1, w2, Go.Ev.seen]; rfl) (by simp; rfl) (by apply ct_impl_world_super <;> first | assumption | omega | (simp at *; omega) | simp_all) cb_impl_world_super (by simp) (by simp) (by simp [w1, w2, Go.Ev.seen]; rfl) (Runs.run tok hX (by simp [Go.Ev.seen]; rfl)))) ?_
    refine round_endT ((o ++ [s], superI l s)) [0, 1, 5] 1 (by simp [hX]) (by simp) (by simp [w1, w2]; try (simp (disch := omega) only [wrap_i64])) ?_ ?_
    · exact ⟨by simp; omega, hI⟩
    · exact hlt
  · (try simp at h2)
    have h2b : ¬ (isKnown l s = true ∧ out o s = false) := fun e => by have h3 := h2 e.1; rw [out_iff.2 h3] at e; cases e.2
    rw [chn_stop h2b] at hI
    refine W_exit ?_
    refine W_rseqK [4] (Runs.run tok hX (by simp [Go.Ev.seen]; rfl)) ?_
    refine W_ret ?_
    refine W_retR (by simp [w1, w2, Go.Ev.seen]; rfl) ?_ rfl
    rw [← hI]
    exact Wk.refl _
end Go.Proofs
namespace Go.Proofs
open Go Go.Ev


theorem cb_impl_world_cycles : Callable Tryz.prog 93 := ⟨_, Tryz.func93, by kernel_rfl, by kernel_rfl⟩
set_option maxHeartbeats 2000000 in
set_option maxRecDepth 100000 in
theorem ct_impl_world_cycles {l : List Cls} (hl : l.length ≤ 1048576) {n : Str} (hk : isKnown l n = true) : Ct Tryz.prog 93 [wv l, .str n] [] (.bool (cycI l n)) [] := by
  obtain ⟨ys, hy⟩ := chain_cons hk
  have hcl := chain_len l n
  have hc1 : 0 < (chain l n).length := by rw [hy]; simp
  have hw : ((chain l n).length : Int) - 1 = (((chain l n).length - 1 : Nat) : Int) := by omega
  have hc2 : (chain l n).length - 1 < (chain l n).length := by omega
  have hc3 : IntKind.i64.wrap ((((chain l n).length - 1 : Nat) : Int)) = (((chain l n).length - 1 : Nat) : Int) := wrap_i64 (by omega) (by omega)
  refine Ct_bodyS tok Tryz.func93 rfl 19 (by kernel_rfl) (by kernel_rfl) fun X hX => ?_
  refine W_rseqK [0, 1] (Runs.run tok hX (by simp [hw, hc2, hc3]; rfl)) ?_
  refine W_rseqK [0, 1, 5] (Runs.step 2 tok hX (by simp [hw, hc2, hc3]; rfl) (Runs.callF rfl (by simp) rfl (by simp [hw, hc2, hc3]; rfl) (by apply ct_impl_world_chain <;> first | assumption | omega) cb_impl_world_chain (by simp [hw, hc2, hc3]; rfl) (Runs.run tok hX (by simp [hw, hc2, hc3]; rfl)))) ?_
  refine W_rseqK [4] (Runs.step 7 tok hX (by simp [hw, hc2, hc3]; (try (simp (disch := omega) only [wrap_i64]; (try simp [hw, hc2, hc3]))); rfl) (Runs.call [] rfl (by simp) rfl (by simp [hw, hc2, hc3]; rfl) (by simp; rfl) (by apply ct_impl_world_super <;> first | assumption | omega) cb_impl_world_super (by simp) (by simp) (by simp [hw, hc2, hc3]; rfl) (Runs.run tok hX (by simp [hw, hc2, hc3]; rfl)))) ?_
  refine W_ret ?_
  refine W_retR (by simp [hw, hc2, hc3]; rfl) (.of_eq ?_) rfl
  simp [cycI, hc2]
end Go.Proofs
namespace Go.Proofs
open Go Go.Ev


theorem cb_impl_world_check_4 : Callable Tryz.prog 92 := ⟨_, Tryz.func92, by kernel_rfl, by kernel_rfl⟩
set_option maxHeartbeats 2000000 in
set_option maxRecDepth 100000 in
theorem ct_impl_world_check_4 {l : List Cls} (hl : l.length ≤ 1048576) {c : Cls} {k : Int} (hk : isKnown l c.name = true) : Ct Tryz.prog 92 [.int .i64 k, eC c, .fp [wv l]] [] (.int .i64 (pI4 l c)) [] := by
  refine Ct_bodyS tok Tryz.func92 rfl 12 (by kernel_rfl) (by kernel_rfl) fun X hX => ?_
  refine W_rseqK [2, 4] (Runs.run tok hX (by simp; rfl)) ?_
  refine W_rseqK [5] (Runs.step 3 tok hX (by simp; rfl) (Runs.call [] rfl (by simp) rfl (by simp; rfl) (by simp; rfl) (by apply ct_impl_world_cycles <;> first | assumption | omega | (simp at *; omega) | simp_all) cb_impl_world_cycles (by simp) (by simp) (by simp; rfl) (Runs.step 1 tok hX (by simp; rfl) (Runs.call [] rfl (by simp) rfl (by simp; rfl) (by simp; rfl) (by apply ct_impl_codeUnless <;> first | assumption | omega | (simp at *; omega) | simp_all) cb_impl_codeUnless (by simp) (by simp) (by simp; rfl) (Runs.run tok hX (by simp; rfl)))))) ?_
  refine W_ret ?_
  refine W_retR (by simp; rfl) (.of_eq ?_) rfl
  simp only [pI4]
  cases cycI l c.name <;> simp
end Go.Proofs
namespace Go.Proofs
open Go Go.Ev


theorem cb_impl_world_methodUp : Callable Tryz.prog 126 := ⟨_, Tryz.func126, by kernel_rfl, by kernel_rfl⟩
set_option maxHeartbeats 2000000 in
set_option maxRecDepth 100000 in
theorem ct_impl_world_methodUp {l : List Cls} (hl : l.length ≤ 1048576) (hs : sizeL l ≤ 1099511627776) {c n d : Str} : Ct Tryz.prog 126 [wv l, .str c, .str n, .str d] [] (.tup [eM ((mUp l n d (chain l c)).getD zM), .bool (mUp l n d (chain l c)).isSome]) [] := by
  have hcl := chain_len l c
  refine Ct_bodyS tok Tryz.func126 rfl 42 (by kernel_rfl) (by kernel_rfl) fun X hX => ?_
  refine W_rseqK [0, 1, 2, 3, 8] (Runs.run tok hX (by simp [fix_mth]; rfl)) ?_
  refine W_seq ?_
  refine W_rseqK [0, 2, 3, 8, 17, 18, 19] (Runs.step 2 tok hX (by simp [fix_mth]; rfl) (Runs.callF rfl (by simp) rfl (by simp [fix_mth]; rfl) (by apply ct_impl_world_chain <;> first | assumption | omega | exact clsOf_sizes hs) cb_impl_world_chain (by simp [fix_mth]; rfl) (Runs.run tok hX (by simp [fix_mth]; rfl)))) ?_
  refine W_block ?_
  -- loop 0: live [0, 2, 3, 8, 17, 18, 19]
  refine W_loopU (α := Nat) [0, 2, 3, 8, 17, 18, 19] (fun i => [(19, .int .i64 i)]) (fun i => []) (fun i => i ≤ (chain l c).length ∧ mUp l n d ((chain l c).drop i) = mUp l n d (chain l c)) (fun i => (chain l c).length - i) (0) (fun i => by simp; rfl) (by simp) ?_ ?_
  · simp
  rintro i ⟨hi, hI⟩
  refine W_rseqK [0, 2, 3, 8, 17, 18, 19, 20] (Runs.run tok hX (by simp [fix_mth]; rfl)) ?_
  refine W_seq ?_
  refine W_condS (by simp; rfl) (by rfl) (fun h2 => ?_) (fun h2 => ?_)
  · (try simp at h2)
    rw [List.drop_eq_getElem_cons h2] at hI
    simp only [mUp] at hI
    refine W_skip ?_
    refine W_seq ?_
    refine W_block ?_
    refine W_rseqK [0, 2, 3, 8, 11, 17, 18, 19] (Runs.run tok hX (by simp [h2, fix_mth]; rfl)) ?_
    refine W_rseqK [0, 2, 3, 8, 12, 17, 18, 19] (Runs.step 2 tok hX (by simp [fix_mth]; rfl) (Runs.callF rfl (by simp) rfl (by simp [h2, fix_mth]; rfl) (by apply ct_impl_world_class <;> first | assumption | omega | exact clsOf_sizes hs) cb_impl_world_class (by simp [h2, fix_mth]; rfl) (Runs.run tok hX (by simp [h2, fix_mth]; rfl)))) ?_
    refine W_rseqK [0, 2, 3, 8, 12, 14, 17, 18, 19] (Runs.step 3 tok hX (by simp [h2, fix_mth]; rfl) (Runs.call [] rfl (by simp) rfl (by simp [h2, fix_mth]; rfl) (by simp; rfl) (by apply ct_impl_Class_methodAt <;> first | assumption | omega | exact clsOf_sizes hs) cb_impl_Class_methodAt (by simp) (by simp) (by simp [h2, fix_mth]; rfl) (Runs.run tok hX (by simp [fix_mth]; rfl)))) ?_
    refine W_rseqK [0, 2, 3, 8, 12, 14, 17, 18, 19, 34] (Runs.run tok hX (by simp [fix_mth]; rfl)) ?_
    refine W_condS (by simp; rfl) (by rfl) (fun h6 => ?_) (fun h6 => ?_)
    · (try simp at h6)
      rw [if_pos h6] at hI
      rw [← hI]
      obtain ⟨j, hj, hjm⟩ := mthFrom_nat h6
      refine W_rseqK [8, 9] (Runs.run tok hX (by simp [h2, h6, hj, hjm, fix_mth]; rfl)) ?_
      refine W_ret ?_
      refine W_retR (by simp [h2, h6, hj, hjm, fix_mth]; rfl) ?_ rfl
      simp only [hjm]
      simp [hj]
      exact Wk.refl _
    · (try simp at h6)
      rw [if_neg (by omega)] at hI
      refine W_skip ?_
      refine W_reg (Runs.run tok hX (by simp [fix_mth]; (try (simp (disch := omega) only [wrap_i64]; (try simp [fix_mth]))); rfl)) ?_
      refine round_endT (i + 1) [0, 2, 3, 8, 17, 18, 19] 1 (by simp [hX]) (by simp) (by simp [h2, h6]; try (simp (disch := omega) only [wrap_i64])) ?_ ?_
      · exact ⟨by omega, hI⟩
      · omega
  · (try simp at h2)
    rw [List.drop_eq_nil_of_le h2] at hI
    simp only [mUp] at hI
    rw [← hI]
    refine W_exit ?_
    refine W_rseqK [8, 9] (Runs.run tok hX (by simp [h2, fix_mth]; rfl)) ?_
    refine W_ret ?_
    refine W_retR (by simp [h2, fix_mth]; rfl) ?_ rfl
    exact Wk.tup (.cons wk_zM (.cons (Wk.refl _) .nil))
end Go.Proofs
namespace Go.Proofs
open Go Go.Ev


theorem cb_impl_world_accessOK : Callable Tryz.prog 95 := ⟨_, Tryz.func95, by kernel_rfl, by kernel_rfl⟩
set_option maxHeartbeats 2000000 in
set_option maxRecDepth 100000 in
theorem ct_impl_world_accessOK {l : List Cls} (hl : l.length ≤ 1048576) (hs : sizeL l ≤ 1099511627776) {c : Cls} (hc : sizeC c ≤ 1099511627776) (hk : isKnown l c.name = true) : Ct Tryz.prog 95 [wv l, eC c] [] (.bool (accI l c)) [] := by
  have hcl := chain_len l c.name
  obtain ⟨us, hy⟩ := chain_cons hk
  have hul : us.length ≤ 8 + l.length := by rw [hy] at hcl; simp at hcl; omega
  have hcm : c.methods.length ≤ 1099511627776 := by simp only [sizeC] at hc; omega
  have hac : accI l c = us.all (fun u => (clsOf l u).methods.all (okI l c)) := by simp only [accI, hy]; rfl
  rw [hac]
  refine Ct_bodyS tok Tryz.func95 rfl 91 (by kernel_rfl) (by kernel_rfl) fun X hX => ?_
  refine W_rseqK [0, 3] (Runs.run tok hX (by simp [hy, fix_mth]; rfl)) ?_
  refine W_rseqK [0, 3, 5] (Runs.step 3 tok hX (by simp [hy, fix_mth]; rfl) (Runs.callF rfl (by simp) rfl (by simp [hy, fix_mth]; rfl) (by apply ct_impl_world_chain <;> first | assumption | omega | exact clsOf_sizes hs) cb_impl_world_chain (by simp [hy, fix_mth]; rfl) (Runs.run tok hX (by simp [hy, fix_mth]; rfl)))) ?_
  refine W_seq ?_
  refine W_rseqK [0, 3, 20, 21, 22] (Runs.run tok hX (by simp [hy, fix_mth]; rfl)) ?_
  refine W_block ?_
  -- loop 0: live [0, 3, 20, 21, 22]
  refine W_loopU (α := Nat) [0, 3, 20, 21, 22] (fun i => [(22, .int .i64 i)]) (fun i => []) (fun i => i ≤ us.length ∧ (us.drop i).all (fun u => (clsOf l u).methods.all (okI l c)) = us.all (fun u => (clsOf l u).methods.all (okI l c))) (fun i => us.length - i) (0) (fun i => by simp; rfl) (by simp) ?_ ?_
  · simp
  rintro i ⟨hi, hI⟩
  refine W_rseqK [0, 3, 20, 21, 22, 23] (Runs.run tok hX (by simp [hy, fix_mth]; rfl)) ?_
  refine W_seq ?_
  refine W_condS (by simp; rfl) (by rfl) (fun h3 => ?_) (fun h3 => ?_)
  · (try simp at h3)
    rw [all_drop h3] at hI
    have hms : (clsOf l us[i]).methods.length ≤ 1099511627776 := clsOf_sizes hs
    refine W_skip ?_
    refine W_seq ?_
    refine W_block ?_
    refine W_rseqK [0, 3, 7, 20, 21, 22] (Runs.run tok hX (by simp [h3, hy, fix_mth]; rfl)) ?_
    refine W_rseqK [0, 3, 8, 20, 21, 22] (Runs.step 2 tok hX (by simp [hy, fix_mth]; rfl) (Runs.callF rfl (by simp) rfl (by simp [h3, hy, fix_mth]; rfl) (by apply ct_impl_world_class <;> first | assumption | omega | exact clsOf_sizes hs) cb_impl_world_class (by simp [h3, hy, fix_mth]; rfl) (Runs.run tok hX (by simp [h3, hy, fix_mth]; rfl)))) ?_
    refine W_rseqK [0, 3, 20, 21, 22, 33, 34, 35] (Runs.run tok hX (by simp [h3, hy, fix_mth]; rfl)) ?_
    refine W_block ?_
    -- loop 1: live [0, 3, 20, 21, 22, 33, 34, 35]
    refine W_loopU (α := Nat) [0, 3, 20, 21, 22, 33, 34, 35] (fun j => [(35, .int .i64 j)]) (fun j => []) (fun j => j ≤ (clsOf l us[i]).methods.length ∧ ((clsOf l us[i]).methods.drop j).all (okI l c) = (clsOf l us[i]).methods.all (okI l c)) (fun j => (clsOf l us[i]).methods.length - j) (0) (fun j => by simp; rfl) (by simp) ?_ ?_
    · simp
    rintro j ⟨hj, hJ⟩
    refine W_rseqK [0, 3, 20, 21, 22, 33, 34, 35, 36] (Runs.run tok hX (by simp [hy, fix_mth]; rfl)) ?_
    refine W_seq ?_
    refine W_condS (by simp; rfl) (by rfl) (fun h7 => ?_) (fun h7 => ?_)
    · (try simp at h7)
      rw [all_drop h7] at hJ
      refine W_skip ?_
      refine W_seq ?_
      refine W_block ?_
      refine W_rseqK [0, 3, 11, 20, 21, 22, 33, 34, 35] (Runs.run tok hX (by simp [h3, h7, hy, fix_mth]; rfl)) ?_
      refine W_seq ?_
      refine W_rseqK [0, 3, 11, 12, 20, 21, 22, 33, 34, 35] (Runs.step 5 tok hX (by simp [h3, h7, hy, fix_mth]; rfl) (Runs.call [] rfl (by simp) rfl (by simp [h3, h7, hy, fix_mth]; rfl) (by simp; rfl) (by apply ct_impl_Class_methodAt <;> first | assumption | omega | exact clsOf_sizes hs) cb_impl_Class_methodAt (by simp) (by simp) (by simp [h3, h7, hy, fix_mth]; rfl) (Runs.run tok hX (by simp [hy, fix_mth]; rfl)))) ?_
      refine W_dseqK [0, 3, 11, 20, 21, 22, 33, 34, 35, 66] hmo (by kernel_rfl) (RunsQ.step (n0 := 0) 4 tok (by simp [h3, h7, hy, fix_mth]; rfl) (RunsQ.mrgS 3 48 [0, 3, 11, 12, 20, 21, 22, 33, 34, 35, 51] (by simp; rfl) (by rfl) (fun b10_4 => by (try simp at b10_4); exact (RunsQ.run (n0 := 0) tok (by simp [-atD_lt, -atL_lt, hy, fix_mth]; rfl))) (fun b10_4 => by (try simp at b10_4); exact (RunsQ.run (n0 := 0) tok (by simp [-atD_lt, -atL_lt, hy, fix_mth]; rfl))) (by rfl) (by rfl) (RunsQ.step (n0 := 0) 1 tok (by simp [hy, fix_mth]; rfl) (RunsQ.mrgS 14 52 [0, 3, 11, 20, 21, 22, 33, 34, 35, 66] (by simp; rfl) (by rfl) (fun b10_8 => by (try simp at b10_8); (have hk0 := b10_8.2; have hk1 := mthFrom_lt hk0); exact (RunsQ.step (n0 := 0) 3 tok (by simp [-atD_lt, -atL_lt, h3, h7, b10_8, hk0, hk1, hy, fix_mth]; rfl) (RunsQ.mrgS 10 55 [0, 3, 11, 20, 21, 22, 33, 34, 35, 52, 65] (by simp; rfl) (by rfl) (fun b10_11 => by (try simp at b10_11); exact (RunsQ.run (n0 := 0) tok (by simp [-atD_lt, -atL_lt, hy, fix_mth]; rfl))) (fun b10_11 => by (try simp at b10_11); exact (RunsQ.run (n0 := 0) tok (by simp [-atD_lt, -atL_lt, h3, h7, b10_8, hk0, hk1, hy, fix_mth]; rfl))) (by rfl) (by rfl) (RunsQ.run (n0 := 0) tok (by simp [-atD_lt, -atL_lt, hy, fix_mth]; rfl))))) (fun b10_8 => by (try simp at b10_8); exact (RunsQ.run (n0 := 0) tok (by simp [-atD_lt, -atL_lt, hy, fix_mth]; rfl))) (by rfl) (by rfl) (RunsQ.fin (by (try simp); rfl)))))) ?_
      refine W_condS (by simp; rfl) (by rfl) (fun h10 => ?_) (fun h10 => ?_)
      · (try simp at h10)
        refine W_rseqK [4] (Runs.run tok hX (by simp [hy, fix_mth]; rfl)) ?_
        refine W_ret ?_
        refine W_retR (by simp [h3, h7, h10, hy, fix_mth]; rfl) (.of_eq ?_) rfl
        have ho : okI l c (clsOf l us[i]).methods[j] = false := by unfold okI init; grind
        rw [← hI, ← hJ, ho]; simp
      · (try simp at h10)
        refine W_skip ?_
        refine W_rseqK [0, 3, 11, 13, 20, 21, 22, 33, 34, 35] (Runs.step 7 tok hX (by simp [h3, h7, h10, hy, fix_mth]; rfl) (Runs.callF rfl (by simp) rfl (by simp [h3, h7, h10, hy, fix_mth]; rfl) (by apply ct_impl_world_methodUp <;> first | assumption | omega | exact clsOf_sizes hs) cb_impl_world_methodUp (by simp [h3, h7, h10, hy, fix_mth]; rfl) (Runs.run tok hX (by simp [h3, h7, h10, hy, fix_mth]; rfl)))) ?_
        refine W_rseqK [0, 3, 20, 21, 22, 33, 34, 35, 88] (Runs.step 3 tok hX (by simp [h3, h7, h10, hy, fix_mth]; rfl) (Runs.mrgS 4 80 [0, 3, 13, 20, 21, 22, 33, 34, 35, 84] (by simp; rfl) (by rfl) (fun b13_3 => by (try simp at b13_3); exact (Runs.run tok hX (by simp [-atD_lt, -atL_lt, h3, h7, h10, hy, fix_mth]; rfl))) (fun b13_3 => by (try simp at b13_3); exact (Runs.run tok hX (by simp [-atD_lt, -atL_lt, hy, fix_mth]; rfl))) (by rfl) (by rfl) (Runs.step 1 tok hX (by simp [hy, fix_mth]; rfl) (Runs.mrgS 3 85 [0, 3, 20, 21, 22, 33, 34, 35, 88] (by simp; rfl) (by rfl) (fun b13_8 => by (try simp at b13_8); exact (Runs.run tok hX (by simp [-atD_lt, -atL_lt, h3, h7, h10, hy, fix_mth]; rfl))) (fun b13_8 => by (try simp at b13_8); exact (Runs.run tok hX (by simp [-atD_lt, -atL_lt, hy, fix_mth]; rfl))) (by rfl) (by rfl) (Runs.fin (by (try simp); rfl)))))) ?_
        refine W_condS (by simp; rfl) (by rfl) (fun h13 => ?_) (fun h13 => ?_)
        · (try simp at h13)
          refine W_rseqK [4] (Runs.run tok hX (by simp [hy, fix_mth]; rfl)) ?_
          refine W_ret ?_
          refine W_retR (by simp [h3, h7, h10, hy, fix_mth]; rfl) (.of_eq ?_) rfl
          have ho : okI l c (clsOf l us[i]).methods[j] = false := by unfold okI init; simp only [hy]; grind
          rw [← hI, ← hJ, ho]; simp
        · (try simp at h13)
          have ho : okI l c (clsOf l us[i]).methods[j] = true := okI_true h10 (by rw [hy]; exact h13)
          rw [ho, Bool.true_and] at hJ
          refine W_skip ?_
          refine W_reg (Runs.run tok hX (by simp [hy, fix_mth]; (try (simp (disch := omega) only [wrap_i64]; (try simp [hy, fix_mth]))); rfl)) ?_
          refine round_endT (j + 1) [0, 3, 20, 21, 22, 33, 34, 35] 2 (by simp [hX]) (by simp) (by simp [h3, h7, h10]; try (simp (disch := omega) only [wrap_i64])) ?_ ?_
          · exact ⟨by omega, hJ⟩
          · omega
    · (try simp at h7)
      rw [List.drop_eq_nil_of_le h7] at hJ
      rw [← hJ, List.all_nil, Bool.true_and] at hI
      refine W_exit ?_
      refine W_reg (Runs.run tok hX (by simp [hy, fix_mth]; (try (simp (disch := omega) only [wrap_i64]; (try simp [hy, fix_mth]))); rfl)) ?_
      refine round_endT (i + 1) [0, 3, 20, 21, 22] 1 (by simp [hX]) (by simp) (by simp [h3, h7]; try (simp (disch := omega) only [wrap_i64])) ?_ ?_
      · exact ⟨by omega, hI⟩
      · omega
  · (try simp at h3)
    rw [List.drop_eq_nil_of_le h3] at hI
    refine W_exit ?_
    refine W_rseqK [4] (Runs.run tok hX (by simp [hy, fix_mth]; rfl)) ?_
    refine W_ret ?_
    refine W_retR (by simp [h3, hy, fix_mth]; rfl) (.of_eq ?_) rfl
    rw [← hI]; rfl
end Go.Proofs
namespace Go.Proofs
open Go Go.Ev


theorem cb_impl_world_check_5 : Callable Tryz.prog 94 := ⟨_, Tryz.func94, by kernel_rfl, by kernel_rfl⟩
set_option maxHeartbeats 2000000 in
set_option maxRecDepth 100000 in
theorem ct_impl_world_check_5 {l : List Cls} (hl : l.length ≤ 1048576) (hs : sizeL l ≤ 1099511627776) {c : Cls} {k : Int} (hc : sizeC c ≤ 1099511627776) (hk : isKnown l c.name = true) : Ct Tryz.prog 94 [.int .i64 k, eC c, .fp [wv l]] [] (.int .i64 (pI5 l c)) [] := by
  refine Ct_bodyS tok Tryz.func94 rfl 10 (by kernel_rfl) (by kernel_rfl) fun X hX => ?_
  refine W_rseqK [2, 4] (Runs.run tok hX (by simp; rfl)) ?_
  refine W_rseqK [5] (Runs.step 2 tok hX (by simp; rfl) (Runs.call [] rfl (by simp) rfl (by simp; rfl) (by simp; rfl) (by apply ct_impl_world_accessOK <;> first | assumption | omega | (simp at *; omega) | simp_all) cb_impl_world_accessOK (by simp) (by simp) (by simp; rfl) (Runs.call [] rfl (by simp) rfl (by simp; rfl) (by simp; rfl) (by apply ct_impl_codeUnless <;> first | assumption | omega | (simp at *; omega) | simp_all) cb_impl_codeUnless (by simp) (by simp) (by simp; rfl) (Runs.run tok hX (by simp; rfl))))) ?_
  refine W_ret ?_
  refine W_retR (by simp; rfl) (.of_eq ?_) rfl
  unfold pI5
  rfl
end Go.Proofs
namespace Go.Proofs
open Go Go.Ev


theorem cb_impl_world_check : Callable Tryz.prog 54 := ⟨_, Tryz.func54, by kernel_rfl, by kernel_rfl⟩
set_option maxHeartbeats 2000000 in
set_option maxRecDepth 100000 in
theorem ct_impl_world_check {l : List Cls} (hl : l.length ≤ 1048576) (hs : sizeL l ≤ 1099511627776) : Ct Tryz.prog 54 [wv l] [] (.agg [.int .i64 (chkI l).1, .int .i64 (chkI l).2]) [] := by
  refine Ct_bodyS tok Tryz.func54 rfl 50 (by kernel_rfl) (by kernel_rfl) fun X hX => ?_
  refine W_rseqK [1, 2] (Runs.run tok hX (by simp; rfl)) ?_
  refine W_seq ?_
  refine W_rseqK [1, 2, 14] (Runs.run tok hX (by simp; rfl)) ?_
  refine W_condS (by simp; rfl) (by rfl) (fun h1 => ?_) (fun h1 => ?_)
  · (try simp at h1)
    refine W_rseqK [2] (Runs.run tok hX (by simp [h1]; rfl)) ?_
    refine W_ret ?_
    refine W_retR (by simp [h1]; rfl) (.of_eq ?_) rfl
    simp [chkI, h1]
  · (try simp at h1)
    refine W_skip ?_
    refine W_rseqK [1, 2, 3] (Runs.run tok hX (by simp; rfl)) ?_
    refine W_seq ?_
    refine W_rseqK [1, 2, 22, 23, 24] (Runs.run tok hX (by simp [h1]; rfl)) ?_
    refine W_block ?_
    -- loop 0: live [1, 2, 22, 23, 24]
    refine W_loopU (α := Nat) [1, 2, 22, 23, 24] (fun p => [(24, .int .i64 p)]) (fun p => []) (fun p => p ≤ 5 ∧ chkFrom l p (5 - p) = chkFrom l 0 5) (fun p => 5 - p) (0) (fun p => by simp; rfl) (by simp) ?_ ?_
    · simp
    rintro p ⟨hp, hI⟩
    obtain ⟨q, hq⟩ : ∃ q, q = p + 1 := ⟨_, rfl⟩
    obtain rfl | rfl | rfl | rfl | rfl | rfl : p = 0 ∨ p = 1 ∨ p = 2 ∨ p = 3 ∨ p = 4 ∨ p = 5 := by omega
    all_goals
      refine W_rseqK [1, 2, 22, 23, 24, 25] (Runs.run tok hX (by simp; rfl)) ?_
      refine W_seq ?_
      refine W_condS (by simp; rfl) (by rfl) (fun h5 => ?_) (fun h5 => ?_)
      · (try simp at h5)
        all_goals
          refine W_skip ?_
          refine W_seq ?_
          refine W_block ?_
          refine W_rseqK [1, 2, 5, 22, 23, 24] (Runs.run tok hX (by simp [h1, h5]; rfl)) ?_
          refine W_rseqK [1, 2, 5, 22, 23, 24, 31, 32, 33] (Runs.run tok hX (by simp [h1, h5]; rfl)) ?_
          refine W_block ?_
          -- loop 1: live [1, 2, 5, 22, 23, 24, 31, 32, 33]
          refine W_loopU (α := Nat) [1, 2, 5, 22, 23, 24, 31, 32, 33] (fun k => [(33, .int .i64 k)]) (fun k => []) (fun k => k ≤ l.length ∧ firstBad (codeI l (q - 1)) (l.length - k) k = firstBad (codeI l (q - 1)) l.length 0) (fun k => l.length - k) (0) (fun k => by simp; rfl) (by simp) ?_ ?_
          · simp
          rintro k ⟨hk, hK⟩
          simp only [hq, Nat.reduceAdd, Nat.reduceSub, Nat.zero_add, Nat.add_sub_cancel] at hK
          refine W_rseqK [1, 2, 5, 22, 23, 24, 31, 32, 33, 34] (Runs.run tok hX (by simp; rfl)) ?_
          refine W_seq ?_
          refine W_condS (by simp; rfl) (by rfl) (fun h8 => ?_) (fun h8 => ?_)
          · (try simp at h8)
            rw [fb_step h8] at hK
            refine W_skip ?_
            refine W_seq ?_
            refine W_block ?_
            refine W_rseqK [1, 2, 5, 6, 7, 22, 23, 24, 31, 32, 33] (Runs.run tok hX (by simp [h1, h5, h8]; rfl)) ?_
            refine W_rseqK [1, 2, 5, 6, 8, 22, 23, 24, 31, 32, 33] (Runs.step 3 tok hX (by simp [h1, h5, h8]; rfl) (Runs.callB rfl (by simp) rfl (by simp [h1, h5, h8]; rfl) (by first | (apply ct_impl_world_check_1 <;> (first | assumption | omega | exact Nat.le_trans (sizeL_at h8) hs | exact known_own h8)) | (apply ct_impl_world_check_2 <;> (first | assumption | omega | exact Nat.le_trans (sizeL_at h8) hs | exact known_own h8)) | (apply ct_impl_world_check_3 <;> (first | assumption | omega | exact Nat.le_trans (sizeL_at h8) hs | exact known_own h8)) | (apply ct_impl_world_check_4 <;> (first | assumption | omega | exact Nat.le_trans (sizeL_at h8) hs | exact known_own h8)) | (apply ct_impl_world_check_5 <;> (first | assumption | omega | exact Nat.le_trans (sizeL_at h8) hs | exact known_own h8))) (by first | exact cb_impl_world_check_1 | exact cb_impl_world_check_2 | exact cb_impl_world_check_3 | exact cb_impl_world_check_4 | exact cb_impl_world_check_5) (by simp) (by simp [h1, h5, h8]; rfl) (Runs.run tok hX (by simp; rfl)))) ?_
            refine W_rseqK [1, 2, 5, 6, 8, 22, 23, 24, 31, 32, 33, 43] (Runs.run tok hX (by simp; rfl)) ?_
            refine W_condS (by simp; rfl) (by rfl) (fun h11 => ?_) (fun h11 => ?_)
            · (try simp at h11)
              rw [if_neg (by simp only [codeI, atL_lt h8]; exact h11)] at hK
              refine W_rseqK [2] (Runs.run tok hX (by simp [h1, h5, h8]; rfl)) ?_
              refine W_ret ?_
              refine W_retR (by simp [h1, h5, h8]; rfl) (.of_eq ?_) rfl
              rw [chkI, if_neg (by omega), ← hI, chk_hit hK.symm]
              simp [codeI, h8]
            · (try simp at h11)
              rw [if_pos (by simp only [codeI, atL_lt h8]; exact h11)] at hK
              refine W_skip ?_
              refine W_reg (Runs.run tok hX (by simp; (try (simp (disch := omega) only [wrap_i64]; (try simp))); rfl)) ?_
              refine round_endT (k + 1) [1, 2, 5, 22, 23, 24, 31, 32, 33] 3 (by simp [hX]) (by simp) (by simp [h1, h5, h8]; try (simp (disch := omega) only [wrap_i64])) ?_ ?_
              · exact ⟨by omega, by simp only [hq, Nat.reduceAdd, Nat.reduceSub, Nat.zero_add, Nat.add_sub_cancel]; exact hK⟩
              · omega
          · (try simp at h8)
            rw [show l.length - k = 0 from by omega] at hK
            simp only [firstBad] at hK
            refine W_exit ?_
            refine W_reg (Runs.run tok hX (by simp; (try (simp (disch := omega) only [wrap_i64]; (try simp))); rfl)) ?_
            refine round_endT (q) [1, 2, 22, 23, 24] 3 (by simp [hX]) (by simp) (by simp [hq]; try (simp (disch := omega) only [wrap_i64])) ?_ ?_
            · exact ⟨by omega, by rw [hq]; exact (chk_next hK.symm).symm.trans hI⟩
            · omega
      · (try simp at h5)
        all_goals
          refine W_exit ?_
          refine W_rseqK [2] (Runs.run tok hX (by simp [h1, h5]; rfl)) ?_
          refine W_ret ?_
          refine W_retR (by simp [h1, h5]; rfl) (.of_eq ?_) rfl
          rw [chkI, if_neg (by omega), ← hI]
          rfl
end Go.Proofs
namespace Go.Proofs
open Go Go.Ev


theorem cb_impl_WorldCheck : Callable Tryz.prog 21 := ⟨_, Tryz.func21, by kernel_rfl, by kernel_rfl⟩
set_option maxHeartbeats 2000000 in
set_option maxRecDepth 100000 in
theorem ct_impl_WorldCheck {l : List Cls} (hl : l.length ≤ 1048576) (hs : sizeL l ≤ 1099511627776) : Ct Tryz.prog 21 [.lst false 6 (l.map eC)] [] (.agg [.int .i64 (if 400 < l.length then 0 else (chkI l).1), .int .i64 (if 400 < l.length then 2 else (chkI l).2)]) [] := by
  refine Ct_bodyS tok Tryz.func21 rfl 10 (by kernel_rfl) (by kernel_rfl) fun X hX => ?_
  refine W_rseqK [0, 2] (Runs.run tok hX (by simp; rfl)) ?_
  refine W_seq ?_
  refine W_rseqK [0, 2, 5] (Runs.step 1 tok hX (by simp; rfl) (Runs.call [] rfl (by simp) rfl (by simp; rfl) (by simp; rfl) (by apply ct_impl_isList_impl_Class <;> first | assumption | omega | (simp at *; omega) | simp_all) cb_impl_isList_impl_Class (by simp) (by simp) (by simp; rfl) (Runs.run tok hX (by simp; rfl)))) ?_
  refine W_condS (by simp; rfl) (by rfl) (fun h1 => ?_) (fun h1 => ?_)
  · (try simp at h1)
    refine W_rseqK [2] (Runs.run tok hX (by simp; rfl)) ?_
    refine W_ret ?_
    refine W_retR (by simp; rfl) (.of_eq ?_) rfl
    simp [h1]
  · (try simp at h1)
    refine W_skip ?_
    refine W_rseqK [2] (Runs.step 1 tok hX (by simp; rfl) (Runs.callF rfl (by simp) rfl (by simp; rfl) (by apply ct_impl_worldOf <;> first | assumption | omega | (simp at *; omega) | simp_all) cb_impl_worldOf (by simp; rfl) (Runs.call [] rfl (by simp) rfl (by simp; rfl) (by simp; rfl) (by apply ct_impl_world_check <;> first | assumption | omega | (simp at *; omega) | simp_all) cb_impl_world_check (by simp) (by simp) (by simp; rfl) (Runs.run tok hX (by simp; rfl))))) ?_
    refine W_ret ?_
    refine W_retR (by simp; rfl) (.of_eq ?_) rfl
    rw [if_neg (by omega), if_neg (by omega)]
end Go.Proofs
namespace Go.Proofs
open Go Go.Ev


theorem cb_laws_eqWorldOut : Callable Tryz.prog 22 := ⟨_, Tryz.func22, by kernel_rfl, by kernel_rfl⟩
set_option maxHeartbeats 2000000 in
set_option maxRecDepth 100000 in
theorem ct_laws_eqWorldOut {a b c d : Int} : Ct Tryz.prog 22 [.agg [.int .i64 a, .int .i64 b], .agg [.int .i64 c, .int .i64 d]] [] (.bool (decide (a = c ∧ b = d))) [] := by
  refine Ct_bodyS tok Tryz.func22 rfl 15 (by kernel_rfl) (by kernel_rfl) fun X hX => ?_
  refine W_rseqK [2, 3] (Runs.run tok hX (by simp; rfl)) ?_
  refine W_seq ?_
  refine W_rseqK [2, 3, 9] (Runs.run tok hX (by simp; rfl)) ?_
  refine W_condS (by simp; rfl) (by rfl) (fun h1 => ?_) (fun h1 => ?_)
  · (try simp at h1)
    refine W_rseqK [4] (Runs.run tok hX (by simp; rfl)) ?_
    refine W_ret ?_
    refine W_retR (by simp; rfl) (.of_eq ?_) rfl
    simp_all
  · (try simp at h1)
    refine W_skip ?_
    refine W_seq ?_
    refine W_rseqK [14] (Runs.run tok hX (by simp; rfl)) ?_
    refine W_condS (by simp; rfl) (by rfl) (fun h3 => ?_) (fun h3 => ?_)
    · (try simp at h3)
      refine W_rseqK [4] (Runs.run tok hX (by simp; rfl)) ?_
      refine W_ret ?_
      refine W_retR (by simp; rfl) (.of_eq ?_) rfl
      simp_all
    · (try simp at h3)
      refine W_skip ?_
      refine W_rseqK [4] (Runs.run tok hX (by simp; rfl)) ?_
      refine W_ret ?_
      refine W_retR (by simp; rfl) (.of_eq ?_) rfl
      simp_all
end Go.Proofs
namespace Go.Proofs
open Go Go.Ev


theorem cb_laws_FnExactWorldCheck : Callable Tryz.prog 5 := ⟨_, Tryz.func5, by kernel_rfl, by kernel_rfl⟩
set_option maxHeartbeats 2000000 in
set_option maxRecDepth 100000 in
theorem ct_laws_FnExactWorldCheck {l : List Cls} (h : l.length < 4611686018427387904) (hb : ∀ y ∈ l, bigC y) : Ct Tryz.prog 5 [.lst false 6 (l.map eC)] [] (.bool true) [] := by
  refine Ct_bodyS tok Tryz.func5 rfl 28 (by kernel_rfl) (by kernel_rfl) fun X hX => ?_
  refine W_rseqK [0] (Runs.run tok hX (by simp; rfl)) ?_
  refine W_rseqK [0, 3] (Runs.run tok hX (by simp; rfl)) ?_
  refine W_rseqK [0, 3] (Runs.step 2 tok hX (by simp; rfl) (Runs.call [] rfl (by simp) rfl (by simp; rfl) (by simp; rfl) (by apply ct_laws_szClassS <;> first | assumption | omega) cb_laws_szClassS (by simp) (by simp) (by simp; rfl) (Runs.run tok hX (by simp; rfl)))) ?_
  refine W_seq ?_
  refine W_rseqK [0, 11] (Runs.run tok hX (by simp; rfl)) ?_
  refine W_condS (by simp; rfl) (by rfl) (fun h3 => ?_) (fun h3 => ?_)
  · (try simp at h3)
    refine W_rseqK [2] (Runs.run tok hX (by simp; rfl)) ?_
    refine W_ret ?_
    refine W_retR (by simp [h3]; rfl) (.of_eq ?_) rfl
    simp_all
  · (try simp at h3)
    have hsz : l.length + (l.map sizeC).sum ≤ 1048576 := by unfold sub at h3; split at h3 <;> omega
    have hsL : sizeL l ≤ 1048576 := hsz
    refine W_skip ?_
    refine W_rseqK [0, 4] (Runs.step 1 tok hX (by simp; rfl) (Runs.callF rfl (by simp) rfl (by simp [h3]; rfl) (by apply ct_laws_toClassS <;> first | assumption | omega | exact fun y hy => Nat.le_trans (mem_sum hy) (by omega)) cb_laws_toClassS (by simp [h3]; rfl) (Runs.call [] rfl (by simp) rfl (by simp [h3]; rfl) (by simp; rfl) (by apply ct_spec_WorldCheck <;> first | assumption | omega) cb_spec_WorldCheck (by simp) (by simp) (by simp [h3]; rfl) (Runs.run tok hX (by simp [h3]; rfl))))) ?_
    refine W_rseqK [0, 4, 5] (Runs.step 1 tok hX (by simp; rfl) (Runs.callF rfl (by simp) rfl (by simp [h3]; rfl) (by apply ct_laws_toClassS <;> first | assumption | omega | exact fun y hy => Nat.le_trans (mem_sum hy) (by omega)) cb_laws_toClassS (by simp [h3]; rfl) (Runs.run tok hX (by simp; rfl)))) ?_
    refine W_rseqK [0, 4, 5, 6] (Runs.step 1 tok hX (by simp; rfl) (Runs.call [] rfl (by simp) rfl (by simp [h3]; rfl) (by simp; rfl) (by apply ct_impl_WorldCheck <;> first | assumption | omega) cb_impl_WorldCheck (by simp) (by simp) (by simp [h3]; rfl) (Runs.run tok hX (by simp [h3]; rfl)))) ?_
    refine W_seq ?_
    refine W_rseqK [0, 5, 22] (Runs.step 2 tok hX (by simp [h3]; rfl) (Runs.call [] rfl (by simp) rfl (by simp [h3]; rfl) (by simp; rfl) (by apply ct_laws_eqWorldOut <;> first | assumption | omega) cb_laws_eqWorldOut (by simp) (by simp) (by simp [h3]; rfl) (Runs.run tok hX (by simp; rfl)))) ?_
    refine W_condS (by simp; rfl) (by rfl) (fun h8 => ?_) (fun h8 => ?_)
    · (try simp at h8)
      exfalso
      have e1 : (if 400 < l.length then 0 else (chkI l).1) = (worldCheck l).1 := by rw [← worldCheck_eq]; split <;> rfl
      have e2 : (if 400 < l.length then 2 else (chkI l).2) = (worldCheck l).2 := by rw [← worldCheck_eq]; split <;> rfl
      rcases h8 with h8 | h8
      · exact h8 e1
      · exact h8 e2 --done
    · (try simp at h8)
      refine W_skip ?_
      refine W_seq ?_
      refine W_rseqK [27] (Runs.step 2 tok hX (by simp; rfl) (Runs.callF rfl (by simp) rfl (by simp [h3]; rfl) (by apply ct_laws_toClassS <;> first | assumption | omega | exact fun y hy => Nat.le_trans (mem_sum hy) (by omega)) cb_laws_toClassS (by simp [h3]; rfl) (Runs.call [] rfl (by simp) rfl (by simp [h3]; rfl) (by simp; rfl) (by apply ct_laws_eqClassS <;> first | assumption | omega) cb_laws_eqClassS (by simp) (by simp) (by simp [h3]; rfl) (Runs.run tok hX (by simp; rfl))))) ?_
      refine W_condS (by simp; rfl) (by rfl) (fun h10 => ?_) (fun h10 => ?_)
      · (try simp at h10)
        all_goals
          refine W_rseqK [2] (Runs.run tok hX (by simp; rfl)) ?_
          refine W_ret ?_
          refine W_retR (by simp [h3]; rfl) (.of_eq ?_) rfl
          simp_all
      · (try simp at h10)
        all_goals
          refine W_skip ?_
          refine W_rseqK [2] (Runs.run tok hX (by simp; rfl)) ?_
          refine W_ret ?_
          refine W_retR (by simp [h3]; rfl) (.of_eq ?_) rfl
          simp_all
end Go.Proofs
namespace Go.Proofs
open Go Go.Ev

abbrev tcF : List Tc := [.str, .str, .bool]
abbrev tcI : List Tc := [.int .i64, .int .i64, .str, .str, .str]
abbrev tcH : List Tc := [.int .i64, .int .i64, .int .i64, .str]
abbrev tcM : List Tc := [.str, .str, .bool, .bool, .bool, .int .i64, .int .i64, .lst false tcI, .lst false tcH]
abbrev tcC : List Tc := [.str, .str, .bool, .bool, .lst false tcF, .lst false tcM]

theorem dec_list {α : Type} {enc : α → V} {Q : α → Prop} : ∀ {xs : List V}, (∀ x ∈ xs, ∃ a, x = enc a ∧ Q a) → ∃ l : List α, xs = l.map enc ∧ ∀ a ∈ l, Q a
  | [], _ => ⟨[], rfl, fun _ h => by cases h⟩
  | x :: xs, h => by
    obtain ⟨a, rfl, ha⟩ := h x (by simp)
    obtain ⟨l, rfl, hl⟩ := dec_list (enc := enc) (Q := Q) (xs := xs) fun y hy => h y (by simp [hy])
    exact ⟨a :: l, rfl, fun b hb => by
      rcases List.mem_cons.1 hb with rfl | hb
      · exact ha
      · exact hl b hb⟩

theorem okL_cons {c : Tc} {cs : List Tc} {vs : List V} (h : okL (c :: cs) vs) : ∃ v ws, vs = v :: ws ∧ okC c v ∧ okL cs ws := by
  cases vs with
  | nil => simp [okL] at h
  | cons v ws => exact ⟨v, ws, rfl, h⟩
theorem okL_nil {vs : List V} (h : okL [] vs) : vs = [] := by
  cases vs with
  | nil => rfl
  | cons v ws => simp [okL] at h
theorem okC_str {v : V} (h : okC .str v) : ∃ l, v = .str l ∧ l.length ≤ 140737488351232 := h
theorem okC_bool {v : V} (h : okC .bool v) : ∃ b, v = .bool b := h
theorem okC_int {v : V} (h : okC (.int .i64) v) : ∃ n, v = .int .i64 n ∧ -9223372036854775808 ≤ n ∧ n < 9223372036854775808 := by
  obtain ⟨n, rfl, hn⟩ := h
  refine ⟨n, rfl, ?_⟩
  simp [Lit.wf, IntKind.min, IntKind.max, IntKind.signed, IntKind.bits] at hn
  omega
theorem okC_lst {α : Type} {enc : α → V} {Q : α → Prop} {cs : List Tc} {v : V} (h : okC (.lst false cs) v) (hd : ∀ vs, okL cs vs → ∃ a, V.agg vs = enc a ∧ Q a) :
    ∃ l : List α, v = .lst false cs.length (l.map enc) ∧ l.length ≤ 140737488351232 ∧ ∀ a ∈ l, Q a := by
  obtain ⟨xs, rfl, hl, hx⟩ := h
  obtain ⟨l, rfl, hq⟩ := dec_list (enc := enc) (Q := Q) (xs := xs) fun x hx' => by
    have := hx x hx'
    simp only [Bool.false_eq_true, if_false] at this
    obtain ⟨vs, rfl, hv⟩ := this
    exact hd vs hv
  exact ⟨l, rfl, by rw [List.length_map] at hl; exact hl, hq⟩

theorem decF {vs : List V} (h : okL tcF vs) : ∃ x : Fld, V.agg vs = eF x ∧ bigF x := by
  obtain ⟨_, _, rfl, h0, h⟩ := okL_cons h
  obtain ⟨_, _, rfl, h1, h⟩ := okL_cons h
  obtain ⟨_, _, rfl, h2, h⟩ := okL_cons h
  obtain rfl := okL_nil h
  obtain ⟨a, rfl, ha⟩ := okC_str h0
  obtain ⟨b, rfl, hb⟩ := okC_str h1
  obtain ⟨c, rfl⟩ := okC_bool h2
  exact ⟨⟨a, b, c⟩, rfl, by simp only [bigF]; omega⟩

theorem decI {vs : List V} (h : okL tcI vs) : ∃ x : Ins, V.agg vs = eI x ∧ bigI x := by
  obtain ⟨_, _, rfl, h0, h⟩ := okL_cons h
  obtain ⟨_, _, rfl, h1, h⟩ := okL_cons h
  obtain ⟨_, _, rfl, h2, h⟩ := okL_cons h
  obtain ⟨_, _, rfl, h3, h⟩ := okL_cons h
  obtain ⟨_, _, rfl, h4, h⟩ := okL_cons h
  obtain rfl := okL_nil h
  obtain ⟨a, rfl, ha⟩ := okC_int h0
  obtain ⟨b, rfl, hb⟩ := okC_int h1
  obtain ⟨c, rfl, hc⟩ := okC_str h2
  obtain ⟨d, rfl, hd⟩ := okC_str h3
  obtain ⟨e, rfl, he⟩ := okC_str h4
  exact ⟨⟨a, b, c, d, e⟩, rfl, by simp only [bigI]; omega⟩

theorem decH {vs : List V} (h : okL tcH vs) : ∃ x : Hdl, V.agg vs = eH x ∧ bigH x := by
  obtain ⟨_, _, rfl, h0, h⟩ := okL_cons h
  obtain ⟨_, _, rfl, h1, h⟩ := okL_cons h
  obtain ⟨_, _, rfl, h2, h⟩ := okL_cons h
  obtain ⟨_, _, rfl, h3, h⟩ := okL_cons h
  obtain rfl := okL_nil h
  obtain ⟨a, rfl, ha⟩ := okC_int h0
  obtain ⟨b, rfl, hb⟩ := okC_int h1
  obtain ⟨c, rfl, hc⟩ := okC_int h2
  obtain ⟨d, rfl, hd⟩ := okC_str h3
  exact ⟨⟨a, b, c, d⟩, rfl, by simp only [bigH]; omega⟩

theorem decM {vs : List V} (h : okL tcM vs) : ∃ x : Mth, V.agg vs = eM x ∧ bigM x := by
  obtain ⟨_, _, rfl, h0, h⟩ := okL_cons h
  obtain ⟨_, _, rfl, h1, h⟩ := okL_cons h
  obtain ⟨_, _, rfl, h2, h⟩ := okL_cons h
  obtain ⟨_, _, rfl, h3, h⟩ := okL_cons h
  obtain ⟨_, _, rfl, h4, h⟩ := okL_cons h
  obtain ⟨_, _, rfl, h5, h⟩ := okL_cons h
  obtain ⟨_, _, rfl, h6, h⟩ := okL_cons h
  obtain ⟨_, _, rfl, h7, h⟩ := okL_cons h
  obtain ⟨_, _, rfl, h8, h⟩ := okL_cons h
  obtain rfl := okL_nil h
  obtain ⟨a, rfl, ha⟩ := okC_str h0
  obtain ⟨b, rfl, hb⟩ := okC_str h1
  obtain ⟨c, rfl⟩ := okC_bool h2
  obtain ⟨d, rfl⟩ := okC_bool h3
  obtain ⟨e, rfl⟩ := okC_bool h4
  obtain ⟨f, rfl, _⟩ := okC_int h5
  obtain ⟨g, rfl, _⟩ := okC_int h6
  obtain ⟨i, rfl, hi, hi2⟩ := okC_lst h7 fun vs => decI
  obtain ⟨j, rfl, hj, hj2⟩ := okC_lst h8 fun vs => decH
  exact ⟨⟨a, b, c, d, e, f, g, i, j⟩, rfl, by simp only [bigM]; exact ⟨by omega, by omega, by omega, hi2, by omega, hj2⟩⟩

theorem decC {vs : List V} (h : okL tcC vs) : ∃ x : Cls, V.agg vs = eC x ∧ bigC x := by
  obtain ⟨_, _, rfl, h0, h⟩ := okL_cons h
  obtain ⟨_, _, rfl, h1, h⟩ := okL_cons h
  obtain ⟨_, _, rfl, h2, h⟩ := okL_cons h
  obtain ⟨_, _, rfl, h3, h⟩ := okL_cons h
  obtain ⟨_, _, rfl, h4, h⟩ := okL_cons h
  obtain ⟨_, _, rfl, h5, h⟩ := okL_cons h
  obtain rfl := okL_nil h
  obtain ⟨a, rfl, ha⟩ := okC_str h0
  obtain ⟨b, rfl, hb⟩ := okC_str h1
  obtain ⟨c, rfl⟩ := okC_bool h2
  obtain ⟨d, rfl⟩ := okC_bool h3
  obtain ⟨i, rfl, hi, hi2⟩ := okC_lst h4 fun vs => decF
  obtain ⟨j, rfl, hj, hj2⟩ := okC_lst h5 fun vs => decM
  exact ⟨⟨a, b, c, d, i, j⟩, rfl, by simp only [bigC]; exact ⟨by omega, by omega, by omega, hi2, by omega, hj2⟩⟩

/-- arguments, one by one -/
theorem okA_cons {x : Bool × List Tc} {r : List (Bool × List Tc)} {vs : List V} (h : okA (x :: r) vs) : ∃ v ws, vs = v :: ws ∧ (if x.1 = true then okL x.2 [v] else ∃ us, v = .agg us ∧ okL x.2 us) ∧ okA r ws := by
  cases vs with
  | nil => simp [okA] at h
  | cons v ws => exact ⟨v, ws, rfl, h⟩
theorem okA_nil {vs : List V} (h : okA [] vs) : vs = [] := by
  cases vs with
  | nil => rfl
  | cons v ws => simp [okA] at h
abbrev aC : Bool × List Tc := (true, [.lst false tcC])
abbrev aS : Bool × List Tc := (true, [.str])
theorem okA_C {r : List (Bool × List Tc)} {vs : List V} (h : okA (aC :: r) vs) : ∃ (l : List Cls) (ws : List V), vs = .lst false 6 (l.map eC) :: ws ∧ l.length < 4611686018427387904 ∧ (∀ y ∈ l, bigC y) ∧ okA r ws := by
  obtain ⟨v, ws, rfl, h1, h2⟩ := okA_cons h
  simp only [if_true] at h1
  obtain ⟨l, rfl, hl, hq⟩ := okC_lst h1.1 fun vs => decC
  exact ⟨l, ws, rfl, by omega, hq, h2⟩
theorem okA_S {r : List (Bool × List Tc)} {vs : List V} (h : okA (aS :: r) vs) : ∃ (l : Str) (ws : List V), vs = .str l :: ws ∧ l.length < 4611686018427387904 ∧ okA r ws := by
  obtain ⟨v, ws, rfl, h1, h2⟩ := okA_cons h
  simp only [if_true] at h1
  obtain ⟨l, rfl, hl⟩ := okC_str h1.1
  exact ⟨l, ws, rfl, by omega, h2⟩
end Go.Proofs
namespace Go.Proofs
open Go Go.Ev

theorem rightI_eq (l : List Cls) : (decide (l.length ≤ 10) && decide ((chkI l).2 = 0)) = rightW l := by
  unfold rightW
  rw [← worldCheck_eq]
  by_cases h : 10 < l.length
  · have hc : chkI l = (10, 1) := by unfold chkI; rw [if_pos h]
    rw [hc, decide_eq_false (by omega), Bool.false_and]
    split <;> rfl
  · rw [if_neg (by omega), decide_eq_true (by omega), Bool.true_and]
theorem right_len {l : List Cls} (h : rightW l = true) : l.length ≤ 10 := by
  rw [← rightI_eq, Bool.and_eq_true, decide_eq_true_eq] at h; exact h.1
theorem right_all {l : List Cls} (h : rightW l = true) : (∀ k, k < l.length → pass1 l k = 0) ∧ (∀ k, k < l.length → pass2 l k = 0) ∧ (∀ k, k < l.length → pass3 l k = 0) ∧ (∀ k, k < l.length → pass4 l k = 0) ∧ ∀ k, k < l.length → pass5 l k = 0 := by
  have hlen := right_len h
  simp only [rightW, worldCheck, if_neg (show ¬ 400 < l.length from by omega), if_neg (show ¬ 10 < l.length from by omega), decide_eq_true_eq] at h
  have bad : ∀ (c : Nat → Int) (n i k : Nat) (v : Int), firstBad c n i = some (k, v) → v ≠ 0 := by
    intro c n
    induction n with
    | zero => intro i k v h; simp [firstBad] at h
    | succ n ih =>
      intro i k v h
      simp only [firstBad] at h
      split at h
      · exact ih _ _ _ h
      · cases h; assumption
  unfold checkAll at h
  cases h1 : firstBad (pass1 l) l.length 0 with
  | some p => rw [h1] at h; exact absurd h (bad _ _ _ p.1 p.2 h1)
  | none =>
    rw [h1] at h
    cases h2 : firstBad (pass2 l) l.length 0 with
    | some p => rw [h2] at h; exact absurd h (bad _ _ _ p.1 p.2 h2)
    | none =>
      rw [h2] at h
      cases h3 : firstBad (pass3 l) l.length 0 with
      | some p => rw [h3] at h; exact absurd h (bad _ _ _ p.1 p.2 h3)
      | none =>
        rw [h3] at h
        cases h4 : firstBad (pass4 l) l.length 0 with
        | some p => rw [h4] at h; exact absurd h (bad _ _ _ p.1 p.2 h4)
        | none =>
          rw [h4] at h
          cases h5 : firstBad (pass5 l) l.length 0 with
          | some p => rw [h5] at h; exact absurd h (bad _ _ _ p.1 p.2 h5)
          | none =>
            exact ⟨fun k hk => firstBad_none h1 k (by omega) (by omega), fun k hk => firstBad_none h2 k (by omega) (by omega), fun k hk => firstBad_none h3 k (by omega) (by omega), fun k hk => firstBad_none h4 k (by omega) (by omega), fun k hk => firstBad_none h5 k (by omega) (by omega)⟩
theorem right_P12 {l : List Cls} (h : rightW l = true) : P12 l := fun k hk => ⟨(right_all h).1 k hk, (right_all h).2.1 k hk⟩
theorem right_cyc {l : List Cls} (h : rightW l = true) : ∀ i, i < l.length → cyc l i = false := fun i hi => by
  have := (right_all h).2.2.2.1 i hi
  simp only [pass4] at this
  cases hc : cyc l i
  · rfl
  · rw [hc] at this; simp at this
theorem superI_eq {l : List Cls} (h : P12 l) (n : Str) : superI l n = superOf l n := by
  unfold superOf
  by_cases hb : 0 ≤ builtIx n
  · obtain ⟨hf, e⟩ := super_bIn (fun k hk => (h k hk).1) hb
    rw [e]
    rcases Int.lt_or_le 1 (builtIx n) with h1 | h1
    · have n1 : n ≠ sObject := fun e => by rw [e, bIx_obj.1] at h1; omega
      have n2 : n ≠ sError := fun e => by rw [e, bIx_obj.2.1] at h1; omega
      rw [if_neg n1, if_neg n2, if_neg (by omega), if_neg (by omega), if_pos h1]
    · rcases bIx_cases hb (by omega) with rfl | rfl
      · rw [if_pos rfl, if_pos bIx_obj.1]
      · rw [if_neg (by decide), if_pos rfl, if_neg (by rw [bIx_obj.2.1]; omega), if_pos bIx_obj.2.1]
  · rw [if_neg (by omega), if_neg (by omega), if_neg (by omega)]
    unfold superI
    by_cases hf : 0 ≤ findFrom n l 0
    · rw [if_pos hf, if_neg (by omega)]
      obtain ⟨i, hi, h1, _, h3, _⟩ := clsOf_found hf
      rw [h3, h1]; simp [atL_lt hi]
    · rw [if_neg hf, if_pos (.inl (by simp [bIn]; omega)), if_pos (by omega)]
theorem known_super {l : List Cls} (h : P12 l) {n : Str} (hk : isKnown l n = true) : superI l n = [] ∨ isKnown l (superI l n) = true := by
  simp only [isKnown, Bool.or_eq_true, decide_eq_true_eq] at hk
  by_cases hb : 0 ≤ builtIx n
  · rw [(super_bIn (fun k hk => (h k hk).1) hb).2]
    split
    · exact .inl rfl
    · split
      · exact .inr (known_bIn (by rw [bIx_obj.1]; omega))
      · exact .inr (known_bIn (by rw [bIx_obj.2.1]; omega))
  · obtain ⟨i, hi, e1, e2, e3⟩ := found_name (l := l) (n := n) (by omega)
    rw [e3]
    rcases (super_cls h hi).2 with ⟨_, e | e⟩ | ⟨j, hj, _, e⟩
    · rw [e]; exact .inr (known_bIn (by rw [bIx_obj.1]; omega))
    · rw [e]; exact .inr (known_bIn (by rw [bIx_obj.2.1]; omega))
    · rw [← e]; exact .inr (known_own hj)
theorem ups_ends {l : List Cls} : ∀ {f g : Nat} {k : Int}, Ends l f k → Ends l g k → ups l f k = ups l g k
  | 0, g, k, hf, _ => by rw [ups_neg hf, ups_neg hf]
  | f + 1, 0, k, _, hg => by rw [ups_neg hg, ups_neg hg]
  | f + 1, g + 1, k, hf, hg => by
    by_cases hk : k < 0
    · rw [ups_neg hk, ups_neg hk]
    · rw [ups_pos (by omega), ups_pos (by omega), ups_ends (hf.resolve_left hk) (hg.resolve_left hk)]
/-- how high a name stands -/
def rk (l : List Cls) (n : Str) : Nat := if bIn n then (if n = sObject then 0 else if n = sError then 1 else 2) else 3 + (ups l (l.length + 1) (findFrom n l 0)).length
theorem rk_lt {l : List Cls} (h : P12 l) (hc : ∀ i, i < l.length → cyc l i = false) {n : Str} (hk : isKnown l n = true) (hs : superI l n ≠ []) : rk l (superI l n) < rk l n := by
  have r0 : rk l sObject = 0 := by unfold rk; rw [if_pos (by simp [bIn, bIx_obj.1]), if_pos rfl]
  have r1 : rk l sError = 1 := by unfold rk; rw [if_pos (by simp [bIn, bIx_obj.2.1]), if_neg (by decide), if_pos rfl]
  by_cases hb : 0 ≤ builtIx n
  · have e := (super_bIn (fun k hk => (h k hk).1) hb).2
    rw [e] at hs ⊢
    have hbn : bIn n = true := by simp [bIn, hb]
    by_cases h1 : n = sObject
    · rw [if_pos h1] at hs; exact absurd rfl hs
    · rw [if_neg h1]
      by_cases h2 : n = sError
      · rw [if_pos h2, h2, r0, r1]; omega
      · rw [if_neg h2, r1]; unfold rk; rw [if_pos hbn, if_neg h1, if_neg h2]; omega
  · have hbn : bIn n = false := by simp [bIn]; omega
    simp only [isKnown, Bool.or_eq_true, decide_eq_true_eq] at hk
    obtain ⟨i, hi, e1, e2, e3⟩ := found_name (l := l) (n := n) (by omega)
    have hrn : rk l n = 3 + (ups l (l.length + 1) (i : Int)).length := by unfold rk; rw [if_neg (by simp [hbn]), e1]
    have hu : ups l (l.length + 1) (i : Int) = i :: ups l l.length (nxt l i) := ups_nat
    rw [hrn, hu, e3]
    have hE := ends_of_noCyc hc hi
    obtain ⟨g, hg, hE2⟩ := Ends_nat hE
    obtain rfl : g = l.length := by omega
    rcases (super_cls h hi).2 with ⟨_, e | e⟩ | ⟨j, hj, e4, e⟩
    · rw [e, r0]; omega
    · rw [e, r1]; simp only [List.length_cons]; omega
    · have hjb := name_not_bIn hj (h j hj).1
      have huq := uniq_of_pass1 hj (h j hj).1
      rw [← e]
      have : rk l l[j].name = 3 + (ups l (l.length + 1) (j : Int)).length := by unfold rk; rw [if_neg (by simp [bIn]; omega), huq]
      rw [this, e4]
      rw [e4] at hE2
      rw [ups_ends (ends_of_noCyc hc hj) hE2]
      simp
theorem chn_rk {l : List Cls} (h : P12 l) (hc : ∀ i, i < l.length → cyc l i = false) : ∀ (k : Nat) (n : Str) (o : List Str), rk l n ≤ k → (∀ x ∈ o, rk l n < rk l x) → chn l o n = o ++ chn l [] n
  | k, n, o, hk, ho => by
    by_cases hn : isKnown l n = true
    · have hout : out o n = false := by
        rw [Bool.eq_false_iff]; intro hc; have := ho n (out_iff.1 hc); omega
      rw [chn_go hn hout, chn_go hn (o := []) rfl]
      by_cases hs : superI l n = []
      · rw [hs, chn_stop (by rw [nil_unknown h]; simp), chn_stop (by rw [nil_unknown h]; simp)]; rfl
      · have hlt := rk_lt h hc hn hs
        cases k with
        | zero => omega
        | succ k =>
          rw [chn_rk h hc k (superI l n) (o ++ [n]) (by omega) (fun x hx => by
              rcases List.mem_append.1 hx with hx | hx
              · have := ho x hx; omega
              · rw [List.mem_singleton.1 hx]; exact hlt),
            chn_rk h hc k (superI l n) ([] ++ [n]) (by omega) (fun x hx => by
              rw [List.mem_singleton.1 hx]; exact hlt)]
          simp
    · rw [chn_stop (fun hc => hn hc.1), chn_stop (fun hc => hn hc.1)]; simp
theorem chain_rec {l : List Cls} (h : rightW l = true) {n : Str} (hn : isKnown l n = true) : chain l n = n :: chain l (superI l n) := by
  have hp := right_P12 h
  have hc := right_cyc h
  unfold chain
  rw [chn_go hn rfl]
  by_cases hs : superI l n = []
  · rw [hs, chn_stop (by rw [nil_unknown hp]; simp), chn_stop (by rw [nil_unknown hp]; simp)]; rfl
  · rw [chn_rk hp hc _ _ ([] ++ [n]) (Nat.le_refl _) (fun x hx => by rw [List.mem_singleton.1 hx]; exact rk_lt hp hc hn hs)]
    rfl
theorem chain_no {l : List Cls} {n : Str} (hn : isKnown l n = false) : chain l n = [] := by
  unfold chain; rw [chn_stop]; rw [hn]; simp
/-- the names up from a, as the reference goes -/
def chS (l : List Cls) (a : Str) : List Str := if isKnown l a = true then chain l a else if a = [] then [] else [a]
theorem chS_known {l : List Cls} {a : Str} (h : isKnown l a = true) : chS l a = chain l a := if_pos h
theorem chS_nil {l : List Cls} (h : rightW l = true) : chS l [] = [] := by unfold chS; rw [if_neg (by rw [nil_unknown (right_P12 h)]; simp), if_pos rfl]
theorem chS_go {l : List Cls} (h : rightW l = true) {a : Str} (ha : a ≠ []) : chS l a = a :: chS l (superOf l a) := by
  rw [← superI_eq (right_P12 h)]
  by_cases hk : isKnown l a = true
  · rw [chS_known hk, chain_rec h hk]
    rcases known_super (right_P12 h) hk with e | e
    · rw [e, chS_nil h, chain_no (nil_unknown (right_P12 h))]
    · rw [chS_known e]
  · have : superI l a = [] := by
      simp only [isKnown, Bool.or_eq_true, decide_eq_true_eq] at hk
      unfold superI; rw [if_neg (fun h => hk (.inr h)), if_pos (.inl (by simp [bIn]; omega))]
    rw [this, chS_nil h]; unfold chS; rw [if_neg hk, if_neg ha]
/-- is a the class b, or does it stand on it? -/
def subS (l : List Cls) (a b : Str) : Bool := out (chS l a) b
theorem subS_nil {l : List Cls} (h : rightW l = true) (b : Str) : subS l [] b = false := by unfold subS; rw [chS_nil h]; rfl
theorem subS_go {l : List Cls} (h : rightW l = true) {a b : Str} (ha : a ≠ []) : subS l a b = (decide (b = a) || subS l (superOf l a) b) := by
  unfold subS; rw [chS_go h ha]; rfl
def subW (l : List Cls) (a b : Str) : Bool := decide (a.length ≤ 20000) && (decide (b.length ≤ 20000) && (rightW l && (isKnown l a && (isKnown l b && subS l a b))))
theorem subW_of (l : List Cls) (a b : Str) : (rightW l && (decide (a.length ≤ 20000) && decide (b.length ≤ 20000)) && (isKnown l b && out (chain l a) b)) = subW l a b := by
  unfold subW subS
  cases hr : rightW l
  · simp
  · by_cases hk : isKnown l a = true
    · rw [chS_known hk, hk]
      cases decide (a.length ≤ 20000) <;> cases decide (b.length ≤ 20000) <;> cases isKnown l b <;> simp
    · rw [chain_no (by simpa using hk), Bool.eq_false_iff.2 hk]
      cases decide (a.length ≤ 20000) <;> cases decide (b.length ≤ 20000) <;> cases isKnown l b <;> simp [out]
theorem superOf_le {l : List Cls} {n : Str} : (superOf l n).length ≤ sizeL l + 6 := by
  unfold superOf
  split
  · simp
  · split
    · simp [sObject]
    · split
      · simp [sError]
      · split
        · simp
        · rename_i h
          have hlt := findFrom_lt (l := l) (n := n) (by omega)
          have := sizeL_at hlt
          rw [atL_lt hlt]; simp only [sizeC] at this; omega
end Go.Proofs
namespace Go.Proofs
open Go Go.Ev


theorem cb_spec_l05Right : Callable Tryz.prog 38 := ⟨_, Tryz.func38, by kernel_rfl, by kernel_rfl⟩
set_option maxHeartbeats 2000000 in
set_option maxRecDepth 100000 in
theorem ct_spec_l05Right {l : List Cls} (hl : sizeL l ≤ 1099511627776) : Ct Tryz.prog 38 [.lst false 6 (l.map eC)] [] (.bool (rightW l)) [] := by
  refine Ct_bodyS tok Tryz.func38 rfl 7 (by kernel_rfl) (by kernel_rfl) fun X hX => ?_
  refine W_rseqK [0] (Runs.run tok hX (by simp; rfl)) ?_
  refine W_rseqK [2] (Runs.step 1 tok hX (by simp; rfl) (Runs.call [] rfl (by simp) rfl (by simp; rfl) (by simp; rfl) (by apply ct_spec_WorldCheck <;> first | assumption | omega | (simp at *; omega) | simp_all) cb_spec_WorldCheck (by simp) (by simp) (by simp; rfl) (Runs.run tok hX (by simp; rfl)))) ?_
  refine W_ret ?_
  refine W_retR (by simp; rfl) (.of_eq ?_) rfl
  simp [rightW]
end Go.Proofs
namespace Go.Proofs
open Go Go.Ev


theorem cb_spec_Known : Callable Tryz.prog 16 := ⟨_, Tryz.func16, by kernel_rfl, by kernel_rfl⟩
set_option maxHeartbeats 2000000 in
set_option maxRecDepth 100000 in
theorem ct_spec_Known {l : List Cls} {n : Str} (hl : sizeL l ≤ 1099511627776) (hn : n.length ≤ 1099511627776) : Ct Tryz.prog 16 [.lst false 6 (l.map eC), .str n] [] (.bool (knownW l n)) [] := by
  have hll : l.length ≤ 1099511627776 := by unfold sizeL at hl; omega
  refine Ct_bodyS tok Tryz.func16 rfl 17 (by kernel_rfl) (by kernel_rfl) fun X hX => ?_
  refine W_rseqK [0, 1] (Runs.run tok hX (by simp; rfl)) ?_
  refine W_rseqK [4] (Runs.step 4 tok hX (by simp; rfl) (Runs.mrgS 3 8 [0, 1, 11] (by simp; rfl) (by rfl) (fun b1_4 => by (try simp at b1_4); exact (Runs.step 1 tok hX (by simp [-atD_lt, -atL_lt]; rfl) (Runs.call [] rfl (by simp) rfl (by simp [-atD_lt, -atL_lt, b1_4]; rfl) (by simp; rfl) (by apply ct_spec_l05Right <;> first | assumption | omega | (simp at *; omega) | simp_all) cb_spec_l05Right (by simp) (by simp) (by simp [-atD_lt, -atL_lt, b1_4]; rfl) (Runs.run tok hX (by simp [-atD_lt, -atL_lt]; rfl))))) (fun b1_4 => by (try simp at b1_4); exact (Runs.run tok hX (by simp [-atD_lt, -atL_lt]; rfl))) (by rfl) (by rfl) (Runs.step 1 tok hX (by simp; rfl) (Runs.mrgS 4 12 [16] (by simp; rfl) (by rfl) (fun b1_8 => by (try simp at b1_8); exact (Runs.step 2 tok hX (by simp [-atD_lt, -atL_lt]; rfl) (Runs.call [] rfl (by simp) rfl (by simp [-atD_lt, -atL_lt, b1_8]; rfl) (by simp; rfl) (by apply ct_spec_l05Known <;> first | assumption | omega | (simp at *; omega) | simp_all) cb_spec_l05Known (by simp) (by simp) (by simp [-atD_lt, -atL_lt, b1_8]; rfl) (Runs.run tok hX (by simp [-atD_lt, -atL_lt]; rfl))))) (fun b1_8 => by (try simp at b1_8); exact (Runs.run tok hX (by simp [-atD_lt, -atL_lt]; rfl))) (by rfl) (by rfl) (Runs.run tok hX (by simp; rfl)))))) ?_
  refine W_ret ?_
  refine W_retR (by simp; rfl) (.of_eq ?_) rfl
  simp only [knownW]
  (try simp_all) <;> grind
end Go.Proofs
namespace Go.Proofs
open Go Go.Ev


theorem cb_impl_rightWorld : Callable Tryz.prog 33 := ⟨_, Tryz.func33, by kernel_rfl, by kernel_rfl⟩
set_option maxHeartbeats 2000000 in
set_option maxRecDepth 100000 in
theorem ct_impl_rightWorld {l : List Cls} (hl : l.length ≤ 1048576) (hs : sizeL l ≤ 1099511627776) : Ct Tryz.prog 33 [.lst false 6 (l.map eC)] [] (.tup [wv l, .bool (rightW l)]) [] := by
  refine Ct_bodyS tok Tryz.func33 rfl 17 (by kernel_rfl) (by kernel_rfl) fun X hX => ?_
  refine W_rseqK [0] (Runs.run tok hX (by simp; rfl)) ?_
  refine W_rseqK [0, 4] (Runs.step 1 tok hX (by simp; rfl) (Runs.callF rfl (by simp) rfl (by simp; rfl) (by apply ct_impl_worldOf <;> first | assumption | omega | (simp at *; omega) | simp_all) cb_impl_worldOf (by simp; rfl) (Runs.run tok hX (by simp; rfl)))) ?_
  refine W_rseqK [2, 3] (Runs.step 5 tok hX (by simp; rfl) (Runs.mrgS 5 11 [7, 16] (by simp; rfl) (by rfl) (fun b2_5 => by (try simp at b2_5); exact (Runs.step 1 tok hX (by simp [-atD_lt, -atL_lt]; rfl) (Runs.call [] rfl (by simp) rfl (by simp [-atD_lt, -atL_lt, b2_5]; rfl) (by simp; rfl) (by apply ct_impl_world_check <;> first | assumption | omega | (simp at *; omega) | simp_all) cb_impl_world_check (by simp) (by simp) (by simp [-atD_lt, -atL_lt, b2_5]; rfl) (Runs.run tok hX (by simp [-atD_lt, -atL_lt]; rfl))))) (fun b2_5 => by (try simp at b2_5); exact (Runs.run tok hX (by simp [-atD_lt, -atL_lt]; rfl))) (by rfl) (by rfl) (Runs.run tok hX (by simp; rfl)))) ?_
  refine W_ret ?_
  refine W_retR (by simp; rfl) (.of_eq ?_) rfl
  rw [← rightI_eq]
  simp
end Go.Proofs
namespace Go.Proofs
open Go Go.Ev


theorem cb_impl_Known : Callable Tryz.prog 18 := ⟨_, Tryz.func18, by kernel_rfl, by kernel_rfl⟩
set_option maxHeartbeats 2000000 in
set_option maxRecDepth 100000 in
theorem ct_impl_Known {l : List Cls} (hl : l.length ≤ 1048576) (hs : sizeL l ≤ 1099511627776) {n : Str} (hn : n.length ≤ 1099511627776) : Ct Tryz.prog 18 [.lst false 6 (l.map eC), .str n] [] (.bool (knownW l n)) [] := by
  refine Ct_bodyS tok Tryz.func18 rfl 23 (by kernel_rfl) (by kernel_rfl) fun X hX => ?_
  refine W_rseqK [0, 1] (Runs.run tok hX (by simp; rfl)) ?_
  refine W_rseqK [1, 5, 6] (Runs.step 1 tok hX (by simp; rfl) (Runs.call [] rfl (by simp) rfl (by simp; rfl) (by simp; rfl) (by apply ct_impl_rightWorld <;> first | assumption | omega | (simp at *; omega) | simp_all) cb_impl_rightWorld (by simp) (by simp) (by simp; rfl) (Runs.run tok hX (by simp; rfl)))) ?_
  refine W_rseqK [4] (Runs.step 2 tok hX (by simp; rfl) (Runs.mrgS 4 13 [1, 5, 17] (by simp; rfl) (by rfl) (fun b2_2 => by (try simp at b2_2); exact (Runs.step 2 tok hX (by simp [-atD_lt, -atL_lt]; rfl) (Runs.callB rfl (by simp) rfl (by simp [-atD_lt, -atL_lt]; rfl) (by apply (ct_impl_isText (l := [n])) <;> simp) cb_impl_isText (by simp) (by simp [-atD_lt, -atL_lt]; rfl) (Runs.run tok hX (by simp [-atD_lt, -atL_lt]; rfl))))) (fun b2_2 => by (try simp at b2_2); exact (Runs.run tok hX (by simp [-atD_lt, -atL_lt]; rfl))) (by rfl) (by rfl) (Runs.step 1 tok hX (by simp; rfl) (Runs.mrgS 4 18 [22] (by simp; rfl) (by rfl) (fun b2_7 => by (try simp at b2_7); exact (Runs.step 2 tok hX (by simp [-atD_lt, -atL_lt]; rfl) (Runs.call [] rfl (by simp) rfl (by simp [-atD_lt, -atL_lt]; rfl) (by simp; rfl) (by apply ct_impl_world_known <;> first | assumption | omega | (simp at *; omega) | simp_all) cb_impl_world_known (by simp) (by simp) (by simp [-atD_lt, -atL_lt]; rfl) (Runs.run tok hX (by simp [-atD_lt, -atL_lt]; rfl))))) (fun b2_7 => by (try simp at b2_7); exact (Runs.run tok hX (by simp [-atD_lt, -atL_lt]; rfl))) (by rfl) (by rfl) (Runs.run tok hX (by simp; rfl)))))) ?_
  refine W_ret ?_
  refine W_retR (by simp; rfl) (.of_eq ?_) rfl
  simp only [knownW]
  (try simp_all) <;> grind
end Go.Proofs
namespace Go.Proofs
open Go Go.Ev


theorem cb_laws_FnExactKnown : Callable Tryz.prog 4 := ⟨_, Tryz.func4, by kernel_rfl, by kernel_rfl⟩
set_option maxHeartbeats 2000000 in
set_option maxRecDepth 100000 in
theorem ct_laws_FnExactKnown {l : List Cls} {n : Str} (h : l.length < 4611686018427387904) (hb : ∀ y ∈ l, bigC y) (hn : n.length < 4611686018427387904) : Ct Tryz.prog 4 [.lst false 6 (l.map eC), .str n] [] (.bool true) [] := by
  refine Ct_bodyS tok Tryz.func4 rfl 34 (by kernel_rfl) (by kernel_rfl) fun X hX => ?_
  refine W_rseqK [0, 1] (Runs.run tok hX (by simp; rfl)) ?_
  refine W_seq ?_
  refine W_rseqK [0, 1, 11] (Runs.run tok hX (by simp; rfl)) ?_
  refine W_condS (by simp; rfl) (by rfl) (fun h1 => ?_) (fun h1 => ?_)
  · (try simp at h1)
    refine W_rseqK [4] (Runs.run tok hX (by simp; rfl)) ?_
    refine W_ret ?_
    refine W_retR (by simp [h1]; rfl) (.of_eq ?_) rfl
    simp_all
  · (try simp at h1)
    refine W_skip ?_
    refine W_rseqK [0, 1, 5] (Runs.run tok hX (by simp; rfl)) ?_
    refine W_rseqK [0, 1, 5] (Runs.step 2 tok hX (by simp; rfl) (Runs.call [] rfl (by simp) rfl (by simp [h1]; rfl) (by simp; rfl) (by apply ct_laws_szClassS <;> first | assumption | omega) cb_laws_szClassS (by simp) (by simp) (by simp [h1]; rfl) (Runs.run tok hX (by simp; rfl)))) ?_
    refine W_seq ?_
    refine W_rseqK [0, 1, 16] (Runs.run tok hX (by simp; rfl)) ?_
    refine W_condS (by simp; rfl) (by rfl) (fun h5 => ?_) (fun h5 => ?_)
    · (try simp at h5)
      refine W_rseqK [4] (Runs.run tok hX (by simp; rfl)) ?_
      refine W_ret ?_
      refine W_retR (by simp [h1, h5]; rfl) (.of_eq ?_) rfl
      simp_all
    · (try simp at h5)
      have hsz : l.length + (l.map sizeC).sum ≤ 1048576 := by unfold sub at h5; split at h5 <;> omega
      have hsL : sizeL l ≤ 1048576 := hsz
      refine W_skip ?_
      refine W_rseqK [0, 1, 6] (Runs.step 1 tok hX (by simp; rfl) (Runs.callF rfl (by simp) rfl (by simp [h1, h5]; rfl) (by apply ct_laws_toClassS <;> first | assumption | omega | exact fun y hy => Nat.le_trans (mem_sum hy) (by omega)) cb_laws_toClassS (by simp [h1, h5]; rfl) (Runs.step 1 tok hX (by simp; rfl) (Runs.call [] rfl (by simp) rfl (by simp [h1, h5]; rfl) (by simp; rfl) (by apply ct_spec_Known <;> first | assumption | omega) cb_spec_Known (by simp) (by simp) (by simp [h1, h5]; rfl) (Runs.run tok hX (by simp; rfl)))))) ?_
      refine W_rseqK [0, 1, 6, 7] (Runs.step 1 tok hX (by simp; rfl) (Runs.callF rfl (by simp) rfl (by simp [h1, h5]; rfl) (by apply ct_laws_toClassS <;> first | assumption | omega | exact fun y hy => Nat.le_trans (mem_sum hy) (by omega)) cb_laws_toClassS (by simp [h1, h5]; rfl) (Runs.run tok hX (by simp; rfl)))) ?_
      refine W_rseqK [0, 6, 7, 8] (Runs.step 2 tok hX (by simp; rfl) (Runs.call [] rfl (by simp) rfl (by simp [h1, h5]; rfl) (by simp; rfl) (by apply ct_impl_Known <;> first | assumption | omega) cb_impl_Known (by simp) (by simp) (by simp [h1, h5]; rfl) (Runs.run tok hX (by simp; rfl)))) ?_
      refine W_seq ?_
      refine W_rseqK [0, 7, 28] (Runs.run tok hX (by simp; rfl)) ?_
      refine W_condS (by simp; rfl) (by rfl) (fun h10 => ?_) (fun h10 => ?_)
      · (try simp at h10)
        all_goals
          refine W_rseqK [4] (Runs.run tok hX (by simp; rfl)) ?_
          refine W_ret ?_
          refine W_retR (by simp [h1, h5]; rfl) (.of_eq ?_) rfl
          simp_all
      · (try simp at h10)
        all_goals
          refine W_skip ?_
          refine W_seq ?_
          refine W_rseqK [33] (Runs.step 2 tok hX (by simp; rfl) (Runs.callF rfl (by simp) rfl (by simp [h1, h5]; rfl) (by apply ct_laws_toClassS <;> first | assumption | omega | exact fun y hy => Nat.le_trans (mem_sum hy) (by omega)) cb_laws_toClassS (by simp [h1, h5]; rfl) (Runs.call [] rfl (by simp) rfl (by simp [h1, h5]; rfl) (by simp; rfl) (by apply ct_laws_eqClassS <;> first | assumption | omega) cb_laws_eqClassS (by simp) (by simp) (by simp [h1, h5]; rfl) (Runs.run tok hX (by simp; rfl))))) ?_
          refine W_condS (by simp; rfl) (by rfl) (fun h12 => ?_) (fun h12 => ?_)
          · (try simp at h12)
            all_goals
              refine W_rseqK [4] (Runs.run tok hX (by simp; rfl)) ?_
              refine W_ret ?_
              refine W_retR (by simp [h1, h5]; rfl) (.of_eq ?_) rfl
              simp_all
          · (try simp at h12)
            all_goals
              refine W_skip ?_
              refine W_rseqK [4] (Runs.run tok hX (by simp; rfl)) ?_
              refine W_ret ?_
              refine W_retR (by simp [h1, h5]; rfl) (.of_eq ?_) rfl
              simp_all
end Go.Proofs
namespace Go.Proofs
open Go Go.Ev


theorem cb_spec_l05Super : Callable Tryz.prog 55 := ⟨_, Tryz.func55, by kernel_rfl, by kernel_rfl⟩
set_option maxHeartbeats 2000000 in
set_option maxRecDepth 100000 in
theorem ct_spec_l05Super {l : List Cls} {n : Str} (hl : l.length ≤ 1099511627776) : Ct Tryz.prog 55 [.lst false 6 (l.map eC), .str n] [] (.str (superOf l n)) [] := by
  refine Ct_bodyS tok Tryz.func55 rfl 24 (by kernel_rfl) (by kernel_rfl) fun X hX => ?_
  refine W_rseqK [0, 1] (Runs.run tok hX (by simp; rfl)) ?_
  refine W_rseqK [0, 1, 5] (Runs.step 1 tok hX (by simp; rfl) (Runs.call [] rfl (by simp) rfl (by simp; rfl) (by simp; rfl) (by apply ct_spec_l05Built <;> first | assumption | omega | (simp at *; omega) | simp_all) cb_spec_l05Built (by simp) (by simp) (by simp; rfl) (Runs.run tok hX (by simp; rfl)))) ?_
  refine W_seq ?_
  refine W_rseqK [0, 1, 5, 9] (Runs.run tok hX (by simp; rfl)) ?_
  refine W_condS (by simp; rfl) (by rfl) (fun h2 => ?_) (fun h2 => ?_)
  · (try simp at h2)
    refine W_rseqK [4] (Runs.run tok hX (by simp; rfl)) ?_
    refine W_ret ?_
    refine W_retR (by simp; rfl) (.of_eq ?_) rfl
    simp only [superOf, sObject, sError]
    (try simp_all) <;> grind
  · (try simp at h2)
    refine W_skip ?_
    refine W_seq ?_
    refine W_rseqK [0, 1, 5, 11] (Runs.run tok hX (by simp; rfl)) ?_
    refine W_condS (by simp; rfl) (by rfl) (fun h4 => ?_) (fun h4 => ?_)
    · (try simp at h4)
      refine W_rseqK [4] (Runs.run tok hX (by simp; rfl)) ?_
      refine W_ret ?_
      refine W_retR (by simp; rfl) (.of_eq ?_) rfl
      simp only [superOf, sObject, sError]
      (try simp_all) <;> grind
    · (try simp at h4)
      refine W_skip ?_
      refine W_seq ?_
      refine W_rseqK [0, 1, 13] (Runs.run tok hX (by simp; rfl)) ?_
      refine W_condS (by simp; rfl) (by rfl) (fun h6 => ?_) (fun h6 => ?_)
      · (try simp at h6)
        refine W_rseqK [4] (Runs.run tok hX (by simp; rfl)) ?_
        refine W_ret ?_
        refine W_retR (by simp [h6]; rfl) (.of_eq ?_) rfl
        simp only [superOf, sObject, sError]
        (try simp_all) <;> grind
      · (try simp at h6)
        refine W_skip ?_
        refine W_rseqK [0, 5] (Runs.step 2 tok hX (by simp; rfl) (Runs.call [] rfl (by simp) rfl (by simp [h6]; rfl) (by simp; rfl) (by apply ct_spec_l05Find <;> first | assumption | omega | (simp at *; omega) | simp_all) cb_spec_l05Find (by simp) (by simp) (by simp [h6]; rfl) (Runs.run tok hX (by simp; rfl)))) ?_
        refine W_seq ?_
        refine W_rseqK [0, 5, 18] (Runs.run tok hX (by simp; rfl)) ?_
        refine W_condS (by simp; rfl) (by rfl) (fun h9 => ?_) (fun h9 => ?_)
        · (try simp at h9)
          refine W_rseqK [4] (Runs.run tok hX (by simp; rfl)) ?_
          refine W_ret ?_
          refine W_retR (by simp [h6, h9]; rfl) (.of_eq ?_) rfl
          simp only [superOf, sObject, sError]
          (try simp_all) <;> grind
        · (try simp at h9)
          have h9b := findFrom_lt (n := n) (l := l) (by omega)
          have h9c : 0 ≤ findFrom n l 0 := by omega
          refine W_skip ?_
          refine W_rseqK [4] (Runs.run tok hX (by simp [h6, h9, h9b, h9c]; rfl)) ?_
          refine W_ret ?_
          refine W_retR (by simp [h6, h9, h9b, h9c]; rfl) (.of_eq ?_) rfl
          simp only [superOf, sObject, sError]
          (try simp_all) <;> grind
end Go.Proofs
namespace Go.Proofs
open Go Go.Ev


theorem cb_spec_SuperOf : Callable Tryz.prog 23 := ⟨_, Tryz.func23, by kernel_rfl, by kernel_rfl⟩
set_option maxHeartbeats 2000000 in
set_option maxRecDepth 100000 in
theorem ct_spec_SuperOf {l : List Cls} {n : Str} (hl : sizeL l ≤ 1099511627776) (hn : n.length ≤ 1099511627776) : Ct Tryz.prog 23 [.lst false 6 (l.map eC), .str n] [] (.str (superW l n)) [] := by
  have hll : l.length ≤ 1099511627776 := by unfold sizeL at hl; omega
  refine Ct_bodyS tok Tryz.func23 rfl 16 (by kernel_rfl) (by kernel_rfl) fun X hX => ?_
  refine W_rseqK [0, 1] (Runs.run tok hX (by simp; rfl)) ?_
  refine W_seq ?_
  refine W_rseqK [0, 1, 12] (Runs.step 4 tok hX (by simp; rfl) (Runs.mrgS 4 8 [0, 1, 12] (by simp; rfl) (by rfl) (fun b1_4 => by (try simp at b1_4); exact (Runs.run tok hX (by simp [-atD_lt, -atL_lt]; rfl))) (fun b1_4 => by (try simp at b1_4); exact (Runs.step 1 tok hX (by simp [-atD_lt, -atL_lt]; rfl) (Runs.call [] rfl (by simp) rfl (by simp [-atD_lt, -atL_lt, b1_4]; rfl) (by simp; rfl) (by apply ct_spec_l05Right <;> first | assumption | omega | (simp at *; omega) | simp_all) cb_spec_l05Right (by simp) (by simp) (by simp [-atD_lt, -atL_lt, b1_4]; rfl) (Runs.run tok hX (by simp [-atD_lt, -atL_lt]; rfl))))) (by rfl) (by rfl) (Runs.fin (by (try simp); rfl)))) ?_
  refine W_condS (by simp; rfl) (by rfl) (fun h1 => ?_) (fun h1 => ?_)
  · (try simp at h1)
    refine W_rseqK [4] (Runs.run tok hX (by simp; rfl)) ?_
    refine W_ret ?_
    refine W_retR (by simp [h1]; rfl) (.of_eq ?_) rfl
    simp only [superW]
    (try simp_all) <;> grind
  · (try simp at h1)
    refine W_skip ?_
    refine W_rseqK [4] (Runs.step 2 tok hX (by simp; rfl) (Runs.call [] rfl (by simp) rfl (by simp [h1]; rfl) (by simp; rfl) (by apply ct_spec_l05Super <;> first | assumption | omega | (simp at *; omega) | simp_all) cb_spec_l05Super (by simp) (by simp) (by simp [h1]; rfl) (Runs.run tok hX (by simp; rfl)))) ?_
    refine W_ret ?_
    refine W_retR (by simp [h1]; rfl) (.of_eq ?_) rfl
    simp only [superW]
    (try simp_all) <;> grind
end Go.Proofs
namespace Go.Proofs
open Go Go.Ev


theorem cb_impl_SuperOf : Callable Tryz.prog 24 := ⟨_, Tryz.func24, by kernel_rfl, by kernel_rfl⟩
set_option maxHeartbeats 2000000 in
set_option maxRecDepth 100000 in
theorem ct_impl_SuperOf {l : List Cls} (hl : l.length ≤ 1048576) (hs : sizeL l ≤ 1099511627776) {n : Str} (hn : n.length ≤ 1099511627776) : Ct Tryz.prog 24 [.lst false 6 (l.map eC), .str n] [] (.str (superW l n)) [] := by
  refine Ct_bodyS tok Tryz.func24 rfl 23 (by kernel_rfl) (by kernel_rfl) fun X hX => ?_
  refine W_rseqK [0, 1] (Runs.run tok hX (by simp; rfl)) ?_
  refine W_rseqK [1, 5, 6] (Runs.step 1 tok hX (by simp; rfl) (Runs.call [] rfl (by simp) rfl (by simp; rfl) (by simp; rfl) (by apply ct_impl_rightWorld <;> first | assumption | omega | (simp at *; omega) | simp_all) cb_impl_rightWorld (by simp) (by simp) (by simp; rfl) (Runs.run tok hX (by simp; rfl)))) ?_
  refine W_seq ?_
  refine W_rseqK [1, 5, 19] (Runs.step 3 tok hX (by simp; rfl) (Runs.mrgS 5 14 [1, 5, 19] (by simp; rfl) (by rfl) (fun b2_3 => by (try simp at b2_3); exact (Runs.run tok hX (by simp [-atD_lt, -atL_lt]; rfl))) (fun b2_3 => by (try simp at b2_3); exact (Runs.step 2 tok hX (by simp [-atD_lt, -atL_lt]; rfl) (Runs.callB rfl (by simp) rfl (by simp [-atD_lt, -atL_lt]; rfl) (by apply (ct_impl_isText (l := [n])) <;> simp) cb_impl_isText (by simp) (by simp [-atD_lt, -atL_lt]; rfl) (Runs.run tok hX (by simp [-atD_lt, -atL_lt]; rfl))))) (by rfl) (by rfl) (Runs.fin (by (try simp); rfl)))) ?_
  refine W_condS (by simp; rfl) (by rfl) (fun h2 => ?_) (fun h2 => ?_)
  · (try simp at h2)
    refine W_rseqK [4] (Runs.run tok hX (by simp; rfl)) ?_
    refine W_ret ?_
    refine W_retR (by simp; rfl) (.of_eq ?_) rfl
    simp only [superW]
    rw [if_neg]
    simp only [Bool.and_eq_true, decide_eq_true_eq]
    intro hc
    simp_all
    omega
  · (try simp at h2)
    refine W_skip ?_
    refine W_rseqK [4] (Runs.step 2 tok hX (by simp; rfl) (Runs.call [] rfl (by simp) rfl (by simp; rfl) (by simp; rfl) (by apply ct_impl_world_super <;> first | assumption | omega | (simp at *; omega) | simp_all) cb_impl_world_super (by simp) (by simp) (by simp; rfl) (Runs.run tok hX (by simp; rfl)))) ?_
    refine W_ret ?_
    refine W_retR (by simp; rfl) (.of_eq ?_) rfl
    simp only [superW]
    simp only [superI_eq (right_P12 (l := l) (by simp_all))]
    rw [if_pos]
    simp_all
end Go.Proofs
namespace Go.Proofs
open Go Go.Ev


theorem cb_laws_FnExactSuperOf : Callable Tryz.prog 6 := ⟨_, Tryz.func6, by kernel_rfl, by kernel_rfl⟩
set_option maxHeartbeats 2000000 in
set_option maxRecDepth 100000 in
theorem ct_laws_FnExactSuperOf {l : List Cls} {n : Str} (h : l.length < 4611686018427387904) (hb : ∀ y ∈ l, bigC y) (hn : n.length < 4611686018427387904) : Ct Tryz.prog 6 [.lst false 6 (l.map eC), .str n] [] (.bool true) [] := by
  refine Ct_bodyS tok Tryz.func6 rfl 34 (by kernel_rfl) (by kernel_rfl) fun X hX => ?_
  refine W_rseqK [0, 1] (Runs.run tok hX (by simp; rfl)) ?_
  refine W_seq ?_
  refine W_rseqK [0, 1, 11] (Runs.run tok hX (by simp; rfl)) ?_
  refine W_condS (by simp; rfl) (by rfl) (fun h1 => ?_) (fun h1 => ?_)
  · (try simp at h1)
    refine W_rseqK [4] (Runs.run tok hX (by simp; rfl)) ?_
    refine W_ret ?_
    refine W_retR (by simp [h1]; rfl) (.of_eq ?_) rfl
    simp_all
  · (try simp at h1)
    refine W_skip ?_
    refine W_rseqK [0, 1, 5] (Runs.run tok hX (by simp; rfl)) ?_
    refine W_rseqK [0, 1, 5] (Runs.step 2 tok hX (by simp; rfl) (Runs.call [] rfl (by simp) rfl (by simp [h1]; rfl) (by simp; rfl) (by apply ct_laws_szClassS <;> first | assumption | omega) cb_laws_szClassS (by simp) (by simp) (by simp [h1]; rfl) (Runs.run tok hX (by simp; rfl)))) ?_
    refine W_seq ?_
    refine W_rseqK [0, 1, 16] (Runs.run tok hX (by simp; rfl)) ?_
    refine W_condS (by simp; rfl) (by rfl) (fun h5 => ?_) (fun h5 => ?_)
    · (try simp at h5)
      refine W_rseqK [4] (Runs.run tok hX (by simp; rfl)) ?_
      refine W_ret ?_
      refine W_retR (by simp [h1, h5]; rfl) (.of_eq ?_) rfl
      simp_all
    · (try simp at h5)
      have hsz : l.length + (l.map sizeC).sum ≤ 1048576 := by unfold sub at h5; split at h5 <;> omega
      have hsL : sizeL l ≤ 1048576 := hsz
      refine W_skip ?_
      refine W_rseqK [0, 1, 6] (Runs.step 1 tok hX (by simp; rfl) (Runs.callF rfl (by simp) rfl (by simp [h1, h5]; rfl) (by apply ct_laws_toClassS <;> first | assumption | omega | exact fun y hy => Nat.le_trans (mem_sum hy) (by omega)) cb_laws_toClassS (by simp [h1, h5]; rfl) (Runs.step 1 tok hX (by simp; rfl) (Runs.call [] rfl (by simp) rfl (by simp [h1, h5]; rfl) (by simp; rfl) (by apply ct_spec_SuperOf <;> first | assumption | omega) cb_spec_SuperOf (by simp) (by simp) (by simp [h1, h5]; rfl) (Runs.run tok hX (by simp; rfl)))))) ?_
      refine W_rseqK [0, 1, 6, 7] (Runs.step 1 tok hX (by simp; rfl) (Runs.callF rfl (by simp) rfl (by simp [h1, h5]; rfl) (by apply ct_laws_toClassS <;> first | assumption | omega | exact fun y hy => Nat.le_trans (mem_sum hy) (by omega)) cb_laws_toClassS (by simp [h1, h5]; rfl) (Runs.run tok hX (by simp; rfl)))) ?_
      refine W_rseqK [0, 6, 7, 8] (Runs.step 2 tok hX (by simp; rfl) (Runs.call [] rfl (by simp) rfl (by simp [h1, h5]; rfl) (by simp; rfl) (by apply ct_impl_SuperOf <;> first | assumption | omega) cb_impl_SuperOf (by simp) (by simp) (by simp [h1, h5]; rfl) (Runs.run tok hX (by simp; rfl)))) ?_
      refine W_seq ?_
      refine W_rseqK [0, 7, 28] (Runs.run tok hX (by simp; rfl)) ?_
      refine W_condS (by simp; rfl) (by rfl) (fun h10 => ?_) (fun h10 => ?_)
      · (try simp at h10)
        all_goals
          refine W_rseqK [4] (Runs.run tok hX (by simp; rfl)) ?_
          refine W_ret ?_
          refine W_retR (by simp [h1, h5]; rfl) (.of_eq ?_) rfl
          simp_all
      · (try simp at h10)
        all_goals
          refine W_skip ?_
          refine W_seq ?_
          refine W_rseqK [33] (Runs.step 2 tok hX (by simp; rfl) (Runs.callF rfl (by simp) rfl (by simp [h1, h5]; rfl) (by apply ct_laws_toClassS <;> first | assumption | omega | exact fun y hy => Nat.le_trans (mem_sum hy) (by omega)) cb_laws_toClassS (by simp [h1, h5]; rfl) (Runs.call [] rfl (by simp) rfl (by simp [h1, h5]; rfl) (by simp; rfl) (by apply ct_laws_eqClassS <;> first | assumption | omega) cb_laws_eqClassS (by simp) (by simp) (by simp [h1, h5]; rfl) (Runs.run tok hX (by simp; rfl))))) ?_
          refine W_condS (by simp; rfl) (by rfl) (fun h12 => ?_) (fun h12 => ?_)
          · (try simp at h12)
            all_goals
              refine W_rseqK [4] (Runs.run tok hX (by simp; rfl)) ?_
              refine W_ret ?_
              refine W_retR (by simp [h1, h5]; rfl) (.of_eq ?_) rfl
              simp_all
          · (try simp at h12)
            all_goals
              refine W_skip ?_
              refine W_rseqK [4] (Runs.run tok hX (by simp; rfl)) ?_
              refine W_ret ?_
              refine W_retR (by simp [h1, h5]; rfl) (.of_eq ?_) rfl
              simp_all
end Go.Proofs
namespace Go.Proofs
open Go Go.Ev


theorem cb_spec_l05Sub : Callable Tryz.prog 57 := ⟨_, Tryz.func57, by kernel_rfl, by kernel_rfl⟩
set_option maxHeartbeats 2000000 in
set_option maxRecDepth 100000 in
theorem ct_spec_l05Sub {l : List Cls} {a b : Str} (hl : l.length ≤ 1099511627776) (hw : rightW l = true) : Ct Tryz.prog 57 [.lst false 6 (l.map eC), .str a, .str b] [] (.bool (subS l a b)) [] := by
  refine Ct_bodyS tok Tryz.func57 rfl 15 (by kernel_rfl) (by kernel_rfl) fun X hX => ?_
  refine W_rseqK [0, 1, 2] (Runs.run tok hX (by simp; rfl)) ?_
  refine W_seq ?_
  refine W_block ?_
  -- loop 0: live [0, 1, 2]
  refine W_loopU (α := Str) [0, 1, 2] (fun x => [(1, .str x)]) (fun x => []) (fun x => subS l x b = subS l a b) (fun x => (chS l x).length) (a) (fun x => by simp; rfl) (by simp) ?_ ?_
  · rfl
  rintro x hI
  refine W_seq ?_
  refine W_rseqK [0, 1, 2, 8] (Runs.run tok hX (by simp; rfl)) ?_
  refine W_condS (by simp; rfl) (by rfl) (fun h1 => ?_) (fun h1 => ?_)
  · (try simp at h1)
    rw [subS_go hw h1] at hI
    refine W_skip ?_
    refine W_block ?_
    refine W_seq ?_
    refine W_rseqK [0, 1, 2, 11] (Runs.run tok hX (by simp; rfl)) ?_
    refine W_condS (by simp; rfl) (by rfl) (fun h2 => ?_) (fun h2 => ?_)
    · (try simp at h2)
      refine W_rseqK [6] (Runs.run tok hX (by simp; rfl)) ?_
      refine W_ret ?_
      refine W_retR (by simp; rfl) (.of_eq ?_) rfl
      rw [← hI, h2]; simp
    · (try simp at h2)
      rw [decide_eq_false (fun e => h2 e.symm), Bool.false_or] at hI
      refine W_skip ?_
      refine W_reg (Runs.step 2 tok hX (by simp; rfl) (Runs.call [] rfl (by simp) rfl (by simp; rfl) (by simp; rfl) (by apply ct_spec_l05Super <;> first | assumption | omega | (simp at *; omega) | simp_all) cb_spec_l05Super (by simp) (by simp) (by simp; rfl) (Runs.run tok hX (by simp; rfl)))) ?_
      refine round_end (superOf l x) [0, 1, 2] (by simp; try (simp (disch := omega) only [wrap_i64])) ?_ ?_
      · exact hI
      · rw [chS_go hw h1]; simp
  · (try simp at h1)
    refine W_exit ?_
    refine W_rseqK [6] (Runs.run tok hX (by simp; rfl)) ?_
    refine W_ret ?_
    refine W_retR (by simp; rfl) (.of_eq ?_) rfl
    rw [← hI, h1, subS_nil hw]
end Go.Proofs
namespace Go.Proofs
open Go Go.Ev


theorem cb_spec_IsSub : Callable Tryz.prog 25 := ⟨_, Tryz.func25, by kernel_rfl, by kernel_rfl⟩
set_option maxHeartbeats 2000000 in
set_option maxRecDepth 100000 in
theorem ct_spec_IsSub {l : List Cls} {a b : Str} (hl : sizeL l ≤ 1099511627776) (ha : a.length ≤ 1099511627776) (hb : b.length ≤ 1099511627776) : Ct Tryz.prog 25 [.lst false 6 (l.map eC), .str a, .str b] [] (.bool (subW l a b)) [] := by
  have hll : l.length ≤ 1099511627776 := by unfold sizeL at hl; omega
  refine Ct_bodyS tok Tryz.func25 rfl 35 (by kernel_rfl) (by kernel_rfl) fun X hX => ?_
  refine W_rseqK [0, 1, 2] (Runs.run tok hX (by simp; rfl)) ?_
  refine W_rseqK [6] (Runs.step 4 tok hX (by simp; rfl) (Runs.mrgS 4 10 [0, 1, 2, 14] (by simp; rfl) (by rfl) (fun b1_4 => by (try simp at b1_4); exact (Runs.run tok hX (by simp [-atD_lt, -atL_lt, b1_4]; rfl))) (fun b1_4 => by (try simp at b1_4); exact (Runs.run tok hX (by simp [-atD_lt, -atL_lt]; rfl))) (by rfl) (by rfl) (Runs.step 1 tok hX (by simp; rfl) (Runs.mrgS 3 15 [0, 1, 2, 18] (by simp; rfl) (by rfl) (fun b1_9 => by (try simp at b1_9); exact (Runs.step 1 tok hX (by simp [-atD_lt, -atL_lt]; rfl) (Runs.call [] rfl (by simp) rfl (by simp [-atD_lt, -atL_lt, b1_9]; rfl) (by simp; rfl) (by apply ct_spec_l05Right <;> first | assumption | omega | (simp at *; omega) | simp_all) cb_spec_l05Right (by simp) (by simp) (by simp [-atD_lt, -atL_lt, b1_9]; rfl) (Runs.run tok hX (by simp [-atD_lt, -atL_lt]; rfl))))) (fun b1_9 => by (try simp at b1_9); exact (Runs.run tok hX (by simp [-atD_lt, -atL_lt]; rfl))) (by rfl) (by rfl) (Runs.step 1 tok hX (by simp; rfl) (Runs.mrgS 4 19 [0, 1, 2, 23] (by simp; rfl) (by rfl) (fun b1_13 => by (try simp at b1_13); exact (Runs.step 2 tok hX (by simp [-atD_lt, -atL_lt]; rfl) (Runs.call [] rfl (by simp) rfl (by simp [-atD_lt, -atL_lt, b1_13]; rfl) (by simp; rfl) (by apply ct_spec_l05Known <;> first | assumption | omega | (simp at *; omega) | simp_all) cb_spec_l05Known (by simp) (by simp) (by simp [-atD_lt, -atL_lt, b1_13]; rfl) (Runs.run tok hX (by simp [-atD_lt, -atL_lt]; rfl))))) (fun b1_13 => by (try simp at b1_13); exact (Runs.run tok hX (by simp [-atD_lt, -atL_lt]; rfl))) (by rfl) (by rfl) (Runs.step 1 tok hX (by simp; rfl) (Runs.mrgS 4 24 [0, 1, 2, 28] (by simp; rfl) (by rfl) (fun b1_18 => by (try simp at b1_18); exact (Runs.step 2 tok hX (by simp [-atD_lt, -atL_lt]; rfl) (Runs.call [] rfl (by simp) rfl (by simp [-atD_lt, -atL_lt, b1_18]; rfl) (by simp; rfl) (by apply ct_spec_l05Known <;> first | assumption | omega | (simp at *; omega) | simp_all) cb_spec_l05Known (by simp) (by simp) (by simp [-atD_lt, -atL_lt, b1_18]; rfl) (Runs.run tok hX (by simp [-atD_lt, -atL_lt]; rfl))))) (fun b1_18 => by (try simp at b1_18); exact (Runs.run tok hX (by simp [-atD_lt, -atL_lt]; rfl))) (by rfl) (by rfl) (Runs.step 1 tok hX (by simp; rfl) (Runs.mrgS 5 29 [34] (by simp; rfl) (by rfl) (fun b1_23 => by (try simp at b1_23); exact (Runs.step 3 tok hX (by simp [-atD_lt, -atL_lt]; rfl) (Runs.call [] rfl (by simp) rfl (by simp [-atD_lt, -atL_lt, b1_23]; rfl) (by simp; rfl) (by apply ct_spec_l05Sub <;> first | assumption | omega | (simp at *; omega) | simp_all) cb_spec_l05Sub (by simp) (by simp) (by simp [-atD_lt, -atL_lt, b1_23]; rfl) (Runs.run tok hX (by simp [-atD_lt, -atL_lt]; rfl))))) (fun b1_23 => by (try simp at b1_23); exact (Runs.run tok hX (by simp [-atD_lt, -atL_lt]; rfl))) (by rfl) (by rfl) (Runs.run tok hX (by simp; rfl)))))))))))) ?_
  refine W_ret ?_
  refine W_retR (by simp; rfl) (.of_eq ?_) rfl
  simp only [subW]
  (try simp_all) <;> grind
end Go.Proofs
namespace Go.Proofs
open Go Go.Ev


theorem cb_impl_world_isSub : Callable Tryz.prog 58 := ⟨_, Tryz.func58, by kernel_rfl, by kernel_rfl⟩
set_option maxHeartbeats 2000000 in
set_option maxRecDepth 100000 in
theorem ct_impl_world_isSub {l : List Cls} {a b : Str} (hl : l.length ≤ 1048576) : Ct Tryz.prog 58 [wv l, .str a, .str b] [] (.bool (isKnown l b && out (chain l a) b)) [] := by
  have hcl := chain_len l a
  refine Ct_bodyS tok Tryz.func58 rfl 17 (by kernel_rfl) (by kernel_rfl) fun X hX => ?_
  refine W_rseqK [0, 1, 2] (Runs.run tok hX (by simp; rfl)) ?_
  refine W_rseqK [6] (Runs.step 2 tok hX (by simp; rfl) (Runs.call [] rfl (by simp) rfl (by simp; rfl) (by simp; rfl) (by apply ct_impl_world_known <;> first | assumption | omega | (simp at *; omega) | simp_all) cb_impl_world_known (by simp) (by simp) (by simp; rfl) (Runs.step 1 tok hX (by simp; rfl) (Runs.mrgS 6 10 [16] (by simp; rfl) (by rfl) (fun b1_4 => by (try simp at b1_4); exact (Runs.step 2 tok hX (by simp [-atD_lt, -atL_lt]; rfl) (Runs.callF rfl (by simp) rfl (by simp [-atD_lt, -atL_lt]; rfl) (by apply ct_impl_world_chain <;> first | assumption | omega | (simp at *; omega) | simp_all) cb_impl_world_chain (by simp [-atD_lt, -atL_lt]; rfl) (Runs.step 1 tok hX (by simp [-atD_lt, -atL_lt]; rfl) (Runs.callB rfl (by simp) rfl (by simp [-atD_lt, -atL_lt]; rfl) (by apply ct_slices_Contains_string_string <;> first | assumption | omega | (simp at *; omega) | simp_all) cb_slices_Contains_string_string (by simp) (by simp [-atD_lt, -atL_lt]; rfl) (Runs.run tok hX (by simp [-atD_lt, -atL_lt]; rfl))))))) (fun b1_4 => by (try simp at b1_4); exact (Runs.run tok hX (by simp [-atD_lt, -atL_lt]; rfl))) (by rfl) (by rfl) (Runs.run tok hX (by simp; rfl)))))) ?_
  refine W_ret ?_
  refine W_retR (by simp; rfl) (.of_eq ?_) rfl
  simp [out]
end Go.Proofs
namespace Go.Proofs
open Go Go.Ev


theorem cb_impl_IsSub : Callable Tryz.prog 26 := ⟨_, Tryz.func26, by kernel_rfl, by kernel_rfl⟩
set_option maxHeartbeats 2000000 in
set_option maxRecDepth 100000 in
theorem ct_impl_IsSub {l : List Cls} (hl : l.length ≤ 1048576) (hs : sizeL l ≤ 1099511627776) {a b : Str} (ha : a.length ≤ 1099511627776) (hb : b.length ≤ 1099511627776) : Ct Tryz.prog 26 [.lst false 6 (l.map eC), .str a, .str b] [] (.bool (subW l a b)) [] := by
  refine Ct_bodyS tok Tryz.func26 rfl 27 (by kernel_rfl) (by kernel_rfl) fun X hX => ?_
  refine W_rseqK [0, 1, 2] (Runs.run tok hX (by simp; rfl)) ?_
  refine W_rseqK [1, 2, 7, 8] (Runs.step 1 tok hX (by simp; rfl) (Runs.call [] rfl (by simp) rfl (by simp; rfl) (by simp; rfl) (by apply ct_impl_rightWorld <;> first | assumption | omega | (simp at *; omega) | simp_all) cb_impl_rightWorld (by simp) (by simp) (by simp; rfl) (Runs.run tok hX (by simp; rfl)))) ?_
  refine W_rseqK [6] (Runs.step 2 tok hX (by simp; rfl) (Runs.mrgS 5 15 [1, 2, 7, 20] (by simp; rfl) (by rfl) (fun b2_2 => by (try simp at b2_2); exact (Runs.step 3 tok hX (by simp [-atD_lt, -atL_lt]; rfl) (Runs.callB rfl (by simp) rfl (by simp [-atD_lt, -atL_lt]; rfl) (by apply (ct_impl_isText (l := [a, b])) <;> simp) cb_impl_isText (by simp) (by simp [-atD_lt, -atL_lt]; rfl) (Runs.run tok hX (by simp [-atD_lt, -atL_lt]; rfl))))) (fun b2_2 => by (try simp at b2_2); exact (Runs.run tok hX (by simp [-atD_lt, -atL_lt]; rfl))) (by rfl) (by rfl) (Runs.step 1 tok hX (by simp; rfl) (Runs.mrgS 5 21 [26] (by simp; rfl) (by rfl) (fun b2_8 => by (try simp at b2_8); exact (Runs.step 3 tok hX (by simp [-atD_lt, -atL_lt]; rfl) (Runs.call [] rfl (by simp) rfl (by simp [-atD_lt, -atL_lt]; rfl) (by simp; rfl) (by apply ct_impl_world_isSub <;> first | assumption | omega | (simp at *; omega) | simp_all) cb_impl_world_isSub (by simp) (by simp) (by simp [-atD_lt, -atL_lt]; rfl) (Runs.run tok hX (by simp [-atD_lt, -atL_lt]; rfl))))) (fun b2_8 => by (try simp at b2_8); exact (Runs.run tok hX (by simp [-atD_lt, -atL_lt]; rfl))) (by rfl) (by rfl) (Runs.run tok hX (by simp; rfl)))))) ?_
  refine W_ret ?_
  refine W_retR (by simp; rfl) (.of_eq ?_) rfl
  rw [← subW_of]
end Go.Proofs
namespace Go.Proofs
open Go Go.Ev


theorem cb_laws_FnExactIsSub : Callable Tryz.prog 7 := ⟨_, Tryz.func7, by kernel_rfl, by kernel_rfl⟩
set_option maxHeartbeats 2000000 in
set_option maxRecDepth 100000 in
theorem ct_laws_FnExactIsSub {l : List Cls} {a : Str} {b : Str} (h : l.length < 4611686018427387904) (hb : ∀ y ∈ l, bigC y) (ha : a.length < 4611686018427387904) (hb : b.length < 4611686018427387904) : Ct Tryz.prog 7 [.lst false 6 (l.map eC), .str a, .str b] [] (.bool true) [] := by
  refine Ct_bodyS tok Tryz.func7 rfl 41 (by kernel_rfl) (by kernel_rfl) fun X hX => ?_
  refine W_rseqK [0, 1, 2] (Runs.run tok hX (by simp; rfl)) ?_
  refine W_seq ?_
  refine W_rseqK [0, 1, 2, 13] (Runs.run tok hX (by simp; rfl)) ?_
  refine W_condS (by simp; rfl) (by rfl) (fun h1 => ?_) (fun h1 => ?_)
  · (try simp at h1)
    refine W_rseqK [6] (Runs.run tok hX (by simp; rfl)) ?_
    refine W_ret ?_
    refine W_retR (by simp [h1]; rfl) (.of_eq ?_) rfl
    simp_all
  · (try simp at h1)
    refine W_skip ?_
    refine W_seq ?_
    refine W_rseqK [0, 1, 2, 16] (Runs.run tok hX (by simp [h1]; rfl)) ?_
    refine W_condS (by simp; rfl) (by rfl) (fun h3 => ?_) (fun h3 => ?_)
    · (try simp at h3)
      refine W_rseqK [6] (Runs.run tok hX (by simp; rfl)) ?_
      refine W_ret ?_
      refine W_retR (by simp [h1, h3]; rfl) (.of_eq ?_) rfl
      simp_all
    · (try simp at h3)
      refine W_skip ?_
      refine W_rseqK [0, 1, 2, 7] (Runs.run tok hX (by simp; rfl)) ?_
      refine W_rseqK [0, 1, 2, 7] (Runs.step 2 tok hX (by simp; rfl) (Runs.call [] rfl (by simp) rfl (by simp [h1, h3]; rfl) (by simp; rfl) (by apply ct_laws_szClassS <;> first | assumption | omega) cb_laws_szClassS (by simp) (by simp) (by simp [h1, h3]; rfl) (Runs.run tok hX (by simp; rfl)))) ?_
      refine W_seq ?_
      refine W_rseqK [0, 1, 2, 21] (Runs.run tok hX (by simp; rfl)) ?_
      refine W_condS (by simp; rfl) (by rfl) (fun h7 => ?_) (fun h7 => ?_)
      · (try simp at h7)
        refine W_rseqK [6] (Runs.run tok hX (by simp; rfl)) ?_
        refine W_ret ?_
        refine W_retR (by simp [h1, h3, h7]; rfl) (.of_eq ?_) rfl
        simp_all
      · (try simp at h7)
        have hsz : l.length + (l.map sizeC).sum ≤ 1048576 := by unfold sub at h7; split at h7 <;> omega
        have hsL : sizeL l ≤ 1048576 := hsz
        refine W_skip ?_
        refine W_rseqK [0, 1, 2, 8] (Runs.step 1 tok hX (by simp; rfl) (Runs.callF rfl (by simp) rfl (by simp [h1, h3, h7]; rfl) (by apply ct_laws_toClassS <;> first | assumption | omega | exact fun y hy => Nat.le_trans (mem_sum hy) (by omega)) cb_laws_toClassS (by simp [h1, h3, h7]; rfl) (Runs.step 2 tok hX (by simp; rfl) (Runs.call [] rfl (by simp) rfl (by simp [h1, h3, h7]; rfl) (by simp; rfl) (by apply ct_spec_IsSub <;> first | assumption | omega) cb_spec_IsSub (by simp) (by simp) (by simp [h1, h3, h7]; rfl) (Runs.run tok hX (by simp; rfl)))))) ?_
        refine W_rseqK [0, 1, 2, 8, 9] (Runs.step 1 tok hX (by simp; rfl) (Runs.callF rfl (by simp) rfl (by simp [h1, h3, h7]; rfl) (by apply ct_laws_toClassS <;> first | assumption | omega | exact fun y hy => Nat.le_trans (mem_sum hy) (by omega)) cb_laws_toClassS (by simp [h1, h3, h7]; rfl) (Runs.run tok hX (by simp; rfl)))) ?_
        refine W_rseqK [0, 8, 9, 10] (Runs.step 3 tok hX (by simp; rfl) (Runs.call [] rfl (by simp) rfl (by simp [h1, h3, h7]; rfl) (by simp; rfl) (by apply ct_impl_IsSub <;> first | assumption | omega) cb_impl_IsSub (by simp) (by simp) (by simp [h1, h3, h7]; rfl) (Runs.run tok hX (by simp; rfl)))) ?_
        refine W_seq ?_
        refine W_rseqK [0, 9, 35] (Runs.run tok hX (by simp; rfl)) ?_
        refine W_condS (by simp; rfl) (by rfl) (fun h12 => ?_) (fun h12 => ?_)
        · (try simp at h12)
          all_goals
            refine W_rseqK [6] (Runs.run tok hX (by simp; rfl)) ?_
            refine W_ret ?_
            refine W_retR (by simp [h1, h3, h7]; rfl) (.of_eq ?_) rfl
            simp_all
        · (try simp at h12)
          all_goals
            refine W_skip ?_
            refine W_seq ?_
            refine W_rseqK [40] (Runs.step 2 tok hX (by simp; rfl) (Runs.callF rfl (by simp) rfl (by simp [h1, h3, h7]; rfl) (by apply ct_laws_toClassS <;> first | assumption | omega | exact fun y hy => Nat.le_trans (mem_sum hy) (by omega)) cb_laws_toClassS (by simp [h1, h3, h7]; rfl) (Runs.call [] rfl (by simp) rfl (by simp [h1, h3, h7]; rfl) (by simp; rfl) (by apply ct_laws_eqClassS <;> first | assumption | omega) cb_laws_eqClassS (by simp) (by simp) (by simp [h1, h3, h7]; rfl) (Runs.run tok hX (by simp; rfl))))) ?_
            refine W_condS (by simp; rfl) (by rfl) (fun h14 => ?_) (fun h14 => ?_)
            · (try simp at h14)
              all_goals
                refine W_rseqK [6] (Runs.run tok hX (by simp; rfl)) ?_
                refine W_ret ?_
                refine W_retR (by simp [h1, h3, h7]; rfl) (.of_eq ?_) rfl
                simp_all
            · (try simp at h14)
              all_goals
                refine W_skip ?_
                refine W_rseqK [6] (Runs.run tok hX (by simp; rfl)) ?_
                refine W_ret ?_
                refine W_retR (by simp [h1, h3, h7]; rfl) (.of_eq ?_) rfl
                simp_all
end Go.Proofs
namespace Go.Proofs
open Go Go.Ev
/-- a type of the check -/
structure Typ where
  k : Int
  c : Str
  at' : Int
  deriving DecidableEq, Inhabited
def eT (x : Typ) : V := .agg [.int .i64 x.k, .str x.c, .int .i64 x.at']
def sizeT (x : Typ) : Nat := x.c.length
def bigT (x : Typ) : Prop := x.c.length < 4611686018427387904
@[simp] theorem pureL_eT (l : List Typ) : pureL (l.map eT) = true := pureL_map _ (fun _ => rfl) l
@[simp] theorem fzL_eT (l : List Typ) : fzL (l.map eT) = l.map eT := fzL_mapf _ (fun _ => rfl) l
@[simp] theorem jkL_eT (p : Nat → Bool) (l : List Typ) : jkL p (l.map eT) = l.map eT := jkL_mapf p _ (fun _ => rfl) l
attribute [simp] eT
def knownT (l : List Cls) (t : Typ) : Bool := if t.k = 3 ∨ t.k = 5 then isKnown l t.c && decide (t.at' = 0) else if t.k = 6 then isKnown l t.c && decide (0 ≤ t.at' ∧ t.at' ≤ 59) else decide (0 ≤ t.k ∧ t.k ≤ 7) && (decide (t.c = []) && decide (t.at' = 0))
def typeKnownW (l : List Cls) (t : Typ) : Bool := rightW l && knownT l t
end Go.Proofs
