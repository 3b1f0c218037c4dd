/- Part 8 of what the proofs lean on: what the functions of the program and of the reference compute. Conditions: none. -/
import Derived.Test.YtkbchflhpnefiaaGreatK06
set_option linter.all false
set_option linter.unusedVariables false
set_option linter.unusedSimpArgs false
namespace Go.Proofs
open Go Go.Ev


theorem cb_impl_reader_name : Callable Tryz.prog 162 := ⟨_, Tryz.func162, by kernel_rfl, by kernel_rfl⟩
set_option maxHeartbeats 2000000 in
set_option maxRecDepth 100000 in
theorem ct_impl_reader_name {t : Str} {p : Nat} {b : Bool} (ht : t.length ≤ 1099511627776) (hp : p ≤ t.length) : Ct Tryz.prog 162 [.ptr 0 0 0] [rdr t p b] (.tup []) [rdr t (if b = true then p else (nmP t p).1) (b || !(nmP t p).2)] := by
  refine Ct_bodyS tok Tryz.func162 rfl 69 (by kernel_rfl) (by kernel_rfl) fun X hX => ?_
  refine W_rseqK [0, 2] (Runs.run tok hX (by simp; rfl)) ?_
  refine W_seq ?_
  refine W_block ?_
  -- loop 0: live [0, 2]
  refine W_loopU (α := Nat) [0, 2] (fun i => []) (fun i => [(0, rdr t i b)]) (fun i => p ≤ i ∧ i ≤ t.length ∧ i - p ≤ 20 ∧ (b = true → i = p) ∧ i + nameRun (20 - (i - p)) (decide (i = p)) (t.drop i) = p + nameRun 20 true (t.drop p)) (fun i => t.length - i) (p) (fun i => by simp; rfl) (by simp) ?_ ?_
  · simp; omega
  rintro i ⟨h0i, hi, hn, hb, hI⟩
  refine W_seq ?_
  refine W_dseqK [0, 2, 50] hmo (by kernel_rfl) (RunsQ.step (n0 := 0) 6 tok (by simp; rfl) (RunsQ.mrgS 11 12 [0, 2, 23] (by simp; rfl) (by rfl) (fun b1_6 => by (try simp at b1_6); exact (RunsQ.step (n0 := 0) 8 tok (by simp [-atD_lt, -atL_lt]; rfl) (RunsQ.call rfl (by simp) rfl (by simp [-atD_lt, -atL_lt]; rfl) (by apply ct_impl_length <;> first | assumption | omega | (simp at *; omega) | simp_all) cb_impl_length rfl (RunsQ.run (n0 := 0) tok (by simp [-atD_lt, -atL_lt]; rfl))))) (fun b1_6 => by (try simp at b1_6); exact (RunsQ.run (n0 := 0) tok (by simp [-atD_lt, -atL_lt]; rfl))) (by rfl) (by rfl) (RunsQ.step (n0 := 0) 1 tok (by simp; rfl) (RunsQ.mrgS 8 24 [0, 2, 32] (by simp; rfl) (by rfl) (fun b1_18 => by (try simp at b1_18); exact (RunsQ.run (n0 := 0) tok (by simp [-atD_lt, -atL_lt, b1_18]; (try (simp (disch := omega) only [wrap_i64]; (try simp [-atD_lt, -atL_lt, b1_18]))); rfl))) (fun b1_18 => by (try simp at b1_18); exact (RunsQ.run (n0 := 0) tok (by simp [-atD_lt, -atL_lt]; rfl))) (by rfl) (by rfl) (RunsQ.step (n0 := 0) 1 tok (by simp; rfl) (RunsQ.mrgS 17 33 [0, 2, 50] (by simp; rfl) (by rfl) (fun b1_27 => by (try simp at b1_27); exact (RunsQ.step (n0 := 0) 15 tok (by simp [-atD_lt, -atL_lt, b1_27]; (try (simp (disch := omega) only [wrap_i64]; (try simp [-atD_lt, -atL_lt, b1_27]))); rfl) (RunsQ.call rfl (by simp) rfl (by simp [-atD_lt, -atL_lt, b1_27]; rfl) (by apply ct_impl_isNameByte <;> first | assumption | omega | (simp at *; omega) | simp_all) cb_impl_isNameByte rfl (RunsQ.run (n0 := 0) tok (by simp [-atD_lt, -atL_lt]; rfl))))) (fun b1_27 => by (try simp at b1_27); exact (RunsQ.run (n0 := 0) tok (by simp [-atD_lt, -atL_lt]; rfl))) (by rfl) (by rfl) (RunsQ.fin (by (try simp); rfl)))))))) ?_
  have hge : t.length ≤ i → nameRun (20 - (i - p)) (decide (i = p)) (t.drop i) = 0 := fun h => by rw [List.drop_eq_nil_of_le h]; simp [nameRun]
  have hg2 : i - p = 20 → nameRun (20 - (i - p)) (decide (i = p)) (t.drop i) = 0 := fun h => by rw [h]; simp [nameRun]
  have hg3 := fun h1 h2 => @drop_nameRun t i p h1 h2 h0i
  refine W_condS (by simp; rfl) (by rfl) (fun h1 => ?_) (fun h1 => ?_)
  · (try simp at h1)
    have ⟨⟨⟨h1d, h1a⟩, h1b⟩, h1c⟩ := h1
    rw [atD_lt h1a, show decide ((i : Int) - p ≤ 0) = decide (i = p) from by simp; omega] at h1c
    rw [hg3 h1a (by omega), if_pos h1c] at hI
    refine W_skip ?_
    refine W_block ?_
    refine W_reg (Runs.run tok hX (by simp [h1]; (try (simp (disch := omega) only [wrap_i64]; (try simp [h1]))); rfl)) ?_
    refine round_end (i + 1) [0, 2] (by simp [h1]; try (simp (disch := omega) only [wrap_i64])) ?_ ?_
    · exact ⟨by omega, by omega, by omega, by simp_all, by omega⟩
    · omega
  · (try simp at h1)
    have hI2 : b = false → i = p + nameRun 20 true (t.drop p) := by
      intro hbf
      rcases Nat.lt_or_ge i t.length with hl | hl
      · by_cases hk : i - p = 20
        · have := hg2 hk; omega
        · rw [hg3 hl (by omega)] at hI
          have : nameByte t[i] (decide (i = p)) = false := by
            rw [← atD_lt hl]; have := h1 hbf hl (by omega); rwa [show decide ((i : Int) - p ≤ 0) = decide (i = p) from by simp; omega] at this
          rw [this] at hI; simpa using hI
      · have := hge hl; omega
    have hnm : b = false → nmP t p = if (isAt t i 59 && !decide (i = p)) then (i + 1, true) else (i, false) := by
      intro hbf; simp only [nmP, ← hI2 hbf]
    clear hI hI2 hg2 hg3 hge
    refine W_exit ?_
    refine W_seq ?_
    refine W_rseqK [0, 63] (Runs.run tok hX (by simp [h1]; rfl)) ?_
    refine' W_condS3 [0] (by simp; rfl) (by rfl) (fun h3 => ?a1_1) (fun h3 => ?a0_1) ?ak_1
    case a1_1 =>
      (try simp at h3)
      refine W_reg (Runs.run tok hX (by simp [h1]; rfl)) ?_
      exact ⟨rfl, Eq.trans (by (try simp); rfl) (by rfl)⟩
    case a0_1 =>
      (try simp at h3)
      refine W_skip ?_
      exact ⟨rfl, Eq.trans (by (try simp); rfl) (by rfl)⟩
    case ak_1 =>
      refine W_le (Le.of_eq (by simp; rfl)) ?_
      refine W_reg (Runs.step 1 tok hX (by simp; rfl) (Runs.call [0] rfl (by simp) rfl (by simp [h1]; rfl) (by simp; rfl) (by apply ct_impl_reader_want <;> first | assumption | omega | (simp at *; omega) | simp_all) cb_impl_reader_want (by simp) (by simp) (by simp [h1]; rfl) (Runs.fin (by (try simp); rfl)))) ?_
      refine W_endR2 (by simp [h1]; rfl) (by rfl) (.of_eq ?_) ?_
      all_goals clear hX
      · skip
        rfl
      · skip
        cases b
        · have hnm := hnm rfl
          by_cases hip : i = p <;> by_cases h9 : isAt t i 59 = true <;> simp_all [hit]
        · simp_all [hit]
end Go.Proofs
namespace Go.Proofs
open Go Go.Ev


theorem cb_impl_reader_kind : Callable Tryz.prog 142 := ⟨_, Tryz.func142, by kernel_rfl, by kernel_rfl⟩
set_option maxHeartbeats 2000000 in
set_option maxRecDepth 100000 in
theorem ct_impl_reader_kind {t : Str} {p : Nat} (ht : t.length ≤ 1099511627776) (hp : p ≤ t.length) : Ct Tryz.prog 142 [.ptr 0 0 0] [rdr t p false] (.str (if (tyP t p).2 = true then seg t p (tyP t p).1 else [])) [rdr t (tyP t p).1 (!(tyP t p).2)] := by
  refine Ct_bodyS tok Tryz.func142 rfl 35 (by kernel_rfl) (by kernel_rfl) fun X hX => ?_
  refine W_rseqK [0] (Runs.run tok hX (by simp; rfl)) ?_
  refine W_rseqK [0, 3] (Runs.run tok hX (by simp; rfl)) ?_
  refine W_rseqK [0, 3] (Runs.step 1 tok hX (by simp; rfl) (Runs.call [0] rfl (by simp) rfl (by simp; rfl) (by simp; rfl) (by apply ct_impl_reader_take <;> first | assumption | omega | (simp [*] <;> omega) | simp_all) cb_impl_reader_take (by simp) (by simp) (by simp; rfl) (Runs.fin (by (try simp); rfl)))) ?_
  obtain ⟨q, hq, hqt, hql, hpq⟩ : ∃ q, adv (isAt t p 91) p = q ∧ tyP t p = tyP1 t q ∧ q ≤ t.length ∧ p ≤ q := ⟨_, rfl, by simp only [tyP]; split <;> simp_all, by have := @adv_le t p 91; omega, by have := @adv_le t p 91; omega⟩
  refine W_le (Le.of_eq (by simp [hq]; rfl)) ?_
  refine W_seq ?_
  refine W_block ?_
  refine W_rseqK [0, 3, 13] (Runs.step 1 tok hX (by simp; rfl) (Runs.call [0] rfl (by simp) rfl (by simp; rfl) (by simp; rfl) (by apply ct_impl_reader_take <;> first | assumption | omega | (simp [*] <;> omega) | simp_all) cb_impl_reader_take (by simp) (by simp) (by simp; rfl) (Runs.run tok hX (by simp; rfl)))) ?_
  refine W_condS (by simp; rfl) (by rfl) (fun h4 => ?_) (fun h4 => ?_)
  · (try simp at h4)
    have h4l := lt_of_isAt h4
    have s1 : q + 1 ≤ t.length := h4l
    have s2 : p ≤ q + 1 := by omega
    refine W_skip ?_
    refine W_seq ?_
    refine W_rseqK [0, 3, 24] (Runs.run tok hX (by simp [h4, s1, s2]; rfl)) ?_
    refine W_condS (by simp; rfl) (by rfl) (fun h7 => ?_) (fun h7 => ?_)
    · (try simp at h7)
      all_goals
        refine W_rseqK [2] (Runs.run tok hX (by simp; rfl)) ?_
        refine W_ret ?_
        refine W_retR2 (by simp [h4, s1, s2]; rfl) (by rfl) (.of_eq ?_) ?_
        all_goals clear hX
        · skip
          simp_all [tyP1, seg]
        · skip
          simp_all [tyP1]
    · (try simp at h7)
      all_goals
        refine W_skip ?_
        refine W_dseqK [2] hmo (by kernel_rfl) (RunsQ.run (n0 := 0) tok (by simp [h4, s1, s2]; rfl)) ?_
        refine W_ret ?_
        refine W_retR2 (by simp [h4, s1, s2]; rfl) (by rfl) (.of_eq ?_) ?_
        all_goals clear hX
        · skip
          simp_all [tyP1, seg]
        · skip
          simp_all [tyP1]
  · (try simp at h4)
    skip
    refine W_rseqK [0, 3, 16] (Runs.step 1 tok hX (by simp; rfl) (Runs.call [0] rfl (by simp) rfl (by simp [h4]; rfl) (by simp; rfl) (by apply ct_impl_reader_take <;> first | assumption | omega | (simp [*] <;> omega) | simp_all) cb_impl_reader_take (by simp) (by simp) (by simp [h4]; rfl) (Runs.run tok hX (by simp; rfl)))) ?_
    refine W_condS (by simp; rfl) (by rfl) (fun h5 => ?_) (fun h5 => ?_)
    · (try simp at h5)
      have h5l := lt_of_isAt h5
      have hnl := nmP_le (t := t) (p := q + 1) (by omega)
      have s1 := hnl.2.1
      have s2 : p ≤ (nmP t (q + 1)).1 := by omega
      refine W_reg (Runs.step 1 tok hX (by simp; rfl) (Runs.call [0] rfl (by simp) rfl (by simp [h4, h5, s1, s2]; rfl) (by simp; rfl) (by apply ct_impl_reader_name <;> first | assumption | omega | (simp [*] <;> omega) | simp_all) cb_impl_reader_name (by simp) (by simp) (by simp [h4, h5, s1, s2]; rfl) (Runs.fin (by (try simp); rfl)))) ?_
      refine W_seq ?_
      refine W_rseqK [0, 3, 24] (Runs.run tok hX (by simp [h4, h5, s1, s2]; rfl)) ?_
      refine W_condS (by simp; rfl) (by rfl) (fun h7 => ?_) (fun h7 => ?_)
      · (try simp at h7)
        all_goals
          refine W_rseqK [2] (Runs.run tok hX (by simp; rfl)) ?_
          refine W_ret ?_
          refine W_retR2 (by simp [h4, h5, s1, s2]; rfl) (by rfl) (.of_eq ?_) ?_
          all_goals clear hX
          · skip
            simp_all [tyP1, seg]
          · skip
            simp_all [tyP1]
      · (try simp at h7)
        all_goals
          refine W_skip ?_
          refine W_dseqK [2] hmo (by kernel_rfl) (RunsQ.run (n0 := 0) tok (by simp [h4, h5, s1, s2]; rfl)) ?_
          refine W_ret ?_
          refine W_retR2 (by simp [h4, h5, s1, s2]; rfl) (by rfl) (.of_eq ?_) ?_
          all_goals clear hX
          · skip
            simp_all [tyP1, seg]
          · skip
            simp_all [tyP1]
    · (try simp at h5)
      skip
      refine W_reg (Runs.run tok hX (by simp [h4, h5]; rfl)) ?_
      refine W_seq ?_
      refine W_rseqK [0, 3, 24] (Runs.run tok hX (by simp [h4, h5]; rfl)) ?_
      refine W_condS (by simp; rfl) (by rfl) (fun h7 => ?_) (fun h7 => ?_)
      · (try simp at h7)
        all_goals
          refine W_rseqK [2] (Runs.run tok hX (by simp; rfl)) ?_
          refine W_ret ?_
          refine W_retR2 (by simp [h4, h5]; rfl) (by rfl) (.of_eq ?_) ?_
          all_goals clear hX
          · skip
            simp_all [tyP1, seg]
          · skip
            simp_all [tyP1]
      · (try simp at h7)
        all_goals
          refine W_skip ?_
          refine W_dseqK [2] hmo (by kernel_rfl) (RunsQ.run (n0 := 0) tok (by simp [h4, h5]; rfl)) ?_
          refine W_ret ?_
          refine W_retR2 (by simp [h4, h5]; rfl) (by rfl) (.of_eq ?_) ?_
          all_goals clear hX
          · skip
            simp_all [tyP1, seg]
          · skip
            simp_all [tyP1]
end Go.Proofs
namespace Go.Proofs
open Go Go.Ev


theorem cb_impl_typeRight : Callable Tryz.prog 117 := ⟨_, Tryz.func117, by kernel_rfl, by kernel_rfl⟩
set_option maxHeartbeats 2000000 in
set_option maxRecDepth 100000 in
theorem ct_impl_typeRight {t : Str} (ht : t.length ≤ 1099511627776) : Ct Tryz.prog 117 [.str t] [] (.bool (typeRight t)) [] := by
  refine Ct_bodyS tok Tryz.func117 rfl 23 (by kernel_rfl) (by kernel_rfl) fun X hX => ?_
  refine W_rseqK [0] (Runs.run tok hX (by simp; rfl)) ?_
  refine W_rseqK [0, 3] (Runs.run tok hX (by simp; rfl)) ?_
  refine W_rseqK [0, 3] (Runs.step 1 tok hX (by simp; rfl) (Runs.call [0] rfl (by simp) rfl (by simp; rfl) (by simp; rfl) (by apply ct_impl_reader_kind <;> first | assumption | omega | (simp at *; omega) | simp_all) cb_impl_reader_kind (by simp) (by simp) (by simp; rfl) (Runs.fin (by (try simp); rfl)))) ?_
  refine W_dseqK [2] hmo (by kernel_rfl) (RunsQ.step (n0 := 0) 6 tok (by simp; rfl) (RunsQ.mrgS 8 14 [22] (by simp; rfl) (by rfl) (fun b3_6 => by (try simp at b3_6); exact (RunsQ.step (n0 := 0) 5 tok (by simp [-atD_lt, -atL_lt]; rfl) (RunsQ.call rfl (by simp) rfl (by simp [-atD_lt, -atL_lt]; rfl) (by apply ct_impl_length <;> first | assumption | omega | (simp at *; omega) | simp_all) cb_impl_length rfl (RunsQ.run (n0 := 0) tok (by simp [-atD_lt, -atL_lt]; rfl))))) (fun b3_6 => by (try simp at b3_6); exact (RunsQ.run (n0 := 0) tok (by simp [-atD_lt, -atL_lt]; rfl))) (by rfl) (by rfl) (RunsQ.run (n0 := 0) tok (by simp; rfl)))) ?_
  refine W_ret ?_
  refine W_retR (by simp; rfl) (.of_eq ?_) rfl
  have := @tyP_le t 0 (by omega)
  simp only [typeRight]
  cases (tyP t 0).2 <;> simp
  omega
end Go.Proofs
namespace Go.Proofs
open Go Go.Ev


theorem cb_impl_Class_fieldAt_1 : Callable Tryz.prog 144 := ⟨_, Tryz.func144, by kernel_rfl, by kernel_rfl⟩
set_option maxHeartbeats 2000000 in
set_option maxRecDepth 100000 in
theorem ct_impl_Class_fieldAt_1 {x : Fld} {n : Str} : Ct Tryz.prog 144 [eF x, .fp [.str n]] [] (.bool (decide (x.name = n))) [] := by
  refine Ct_bodyS tok Tryz.func144 rfl 8 (by kernel_rfl) (by kernel_rfl) fun X hX => ?_
  refine W_rseqK [1, 2] (Runs.run tok hX (by simp; rfl)) ?_
  refine W_rseqK [3] (Runs.run tok hX (by simp; rfl)) ?_
  refine W_ret ?_
  refine W_retR (by simp; rfl) (.of_eq ?_) rfl
  simp_all
end Go.Proofs
namespace Go.Proofs
open Go Go.Ev


theorem cb_slices_IndexFunc_impl_Field_impl_Field : Callable Tryz.prog 143 := ⟨_, Tryz.func143, by kernel_rfl, by kernel_rfl⟩
set_option maxHeartbeats 2000000 in
set_option maxRecDepth 100000 in
theorem ct_slices_IndexFunc_impl_Field_impl_Field {n : Str} {l : List Fld} (hl : l.length ≤ 1099511627776) : Ct Tryz.prog 143 [.lst false 3 (l.map eF), .clo (.func 144) [] [.fp [.str n]]] [] (.int .i64 (fix (fun x => decide (x.name = n)) l)) [] := by
  refine Ct_bodyS tok Tryz.func143 rfl 19 (by kernel_rfl) (by kernel_rfl) fun X hX => ?_
  refine W_rseqK [0, 1] (Runs.run tok hX (by simp; rfl)) ?_
  refine W_seq ?_
  refine W_rseqK [0, 1, 7, 8] (Runs.run tok hX (by simp; rfl)) ?_
  refine W_block ?_
  -- loop 0: live [0, 1, 7, 8]
  refine W_loopU (α := Nat) [0, 1, 7, 8] (fun i => [(8, .int .i64 i)]) (fun i => []) (fun i => i ≤ l.length ∧ ∀ x ∈ l.take i, (fun x => decide (x.name = n)) x = false) (fun i => l.length - i) (0) (fun i => by simp; rfl) (by simp) ?_ ?_
  · simp
  rintro i ⟨hi, hI⟩
  refine W_rseqK [0, 1, 7, 8, 9] (Runs.run tok hX (by simp; rfl)) ?_
  refine W_seq ?_
  refine W_condS (by simp; rfl) (by rfl) (fun h2 => ?_) (fun h2 => ?_)
  · (try simp at h2)
    refine W_skip ?_
    refine W_seq ?_
    refine W_block ?_
    refine W_rseqK [0, 1, 5, 7, 8] (Runs.run tok hX (by simp; rfl)) ?_
    refine W_rseqK [0, 1, 5, 7, 8, 16] (Runs.step 5 tok hX (by simp [h2]; rfl) (Runs.call [] rfl (by simp) rfl (by simp [h2]; rfl) (by simp; rfl) (by apply ct_impl_Class_fieldAt_1 <;> first | assumption | exact hs _ (List.getElem_mem h2) | omega) cb_impl_Class_fieldAt_1 (by simp) (by simp) (by simp [h2]; rfl) (Runs.fin (by (try simp); rfl)))) ?_
    refine W_condS (by simp; rfl) (by rfl) (fun h4 => ?_) (fun h4 => ?_)
    · (try simp at h4)
      refine W_rseqK [4] (Runs.run tok hX (by simp; rfl)) ?_
      refine W_ret ?_
      refine W_retR (by simp [h2]; rfl) (.of_eq ?_) rfl
      rw [fix_hit h2 hI (by simpa using h4)]
    · (try simp at h4)
      refine W_skip ?_
      refine W_reg (Runs.run tok hX (by simp; (try (simp (disch := omega) only [wrap_i64]; (try simp))); rfl)) ?_
      refine round_end (i + 1) [0, 1, 7, 8] (by simp [h2]; try (simp (disch := omega) only [wrap_i64])) ?_ ?_
      · exact ⟨by omega, take_not h2 hI (by simpa using h4)⟩
      · omega
  · (try simp at h2)
    refine W_exit ?_
    refine W_rseqK [4] (Runs.run tok hX (by simp; rfl)) ?_
    refine W_ret ?_
    refine W_retR (by simp [h2]; rfl) (.of_eq ?_) rfl
    rw [fix_none (p := fun x => decide (x.name = n)) (fun x hx => hI x (by rw [List.take_of_length_le h2]; exact hx))]
end Go.Proofs
namespace Go.Proofs
open Go Go.Ev


theorem cb_impl_Class_fieldAt : Callable Tryz.prog 118 := ⟨_, Tryz.func118, by kernel_rfl, by kernel_rfl⟩
set_option maxHeartbeats 2000000 in
set_option maxRecDepth 100000 in
theorem ct_impl_Class_fieldAt {x : Cls} {n : Str} (h : x.fields.length ≤ 1099511627776) : Ct Tryz.prog 118 [eC x, .str n] [] (.int .i64 (fix (fun f => decide (f.name = n)) x.fields)) [] := by
  refine Ct_bodyS tok Tryz.func118 rfl 9 (by kernel_rfl) (by kernel_rfl) fun X hX => ?_
  refine W_rseqK [2, 3] (Runs.run tok hX (by simp; rfl)) ?_
  refine W_rseqK [4] (Runs.step 3 tok hX (by simp; rfl) (Runs.callB rfl (by simp) rfl (by simp; rfl) (by apply ct_slices_IndexFunc_impl_Field_impl_Field <;> first | assumption | omega | (simp at *; omega) | simp_all) cb_slices_IndexFunc_impl_Field_impl_Field (by simp) (by simp; rfl) (Runs.run tok hX (by simp; rfl)))) ?_
  refine W_ret ?_
  refine W_retR (by simp; rfl) (.of_eq ?_) rfl
  simp_all
end Go.Proofs
namespace Go.Proofs
open Go Go.Ev


theorem cb_impl_descRead : Callable Tryz.prog 123 := ⟨_, Tryz.func123, by kernel_rfl, by kernel_rfl⟩
set_option maxHeartbeats 2000000 in
set_option maxRecDepth 100000 in
theorem ct_impl_descRead {t : Str} (ht : t.length ≤ 1099511627776) : Ct Tryz.prog 123 [.str t] [] (eDO (dRead t)) [] := by
  refine Ct_bodyS tok Tryz.func123 rfl 66 (by kernel_rfl) (by kernel_rfl) fun X hX => ?_
  refine W_rseqK [0, 2] (Runs.run tok hX (by simp; rfl)) ?_
  refine W_rseqK [0, 2, 3, 4] (Runs.run tok hX (by simp; rfl)) ?_
  refine W_rseqK [0, 2, 3, 4] (Runs.step 1 tok hX (by simp; rfl) (Runs.call [1] rfl (by simp) rfl (by simp; rfl) (by simp; rfl) (by apply ct_impl_reader_want <;> first | assumption | omega | (simp [*] <;> omega) | (simp <;> omega)) cb_impl_reader_want (by simp) (by simp) (by simp; rfl) (Runs.fin (by (try simp); rfl)))) ?_
  refine W_seq ?_
  refine W_block ?_
  refine W_le (Le.nilC 2 0 0 1 (by simp; rfl)) ?_
  -- loop 0: live [0, 2, 3, 4]
  refine W_loopU (α := List Str × Nat × Bool) [0, 2, 3, 4] (fun a => []) (fun a => [(1, rdr t a.2.1 a.2.2), (2, some (2, [.agg [.arr 3 0 a.1.length, .str []]])), (3, some (1, a.1.map V.str))]) (fun a => a.2.1 ≤ t.length ∧ a.1.length ≤ 8 ∧ (a.2.2 = true → dRead t = dErr a.2.1) ∧ (a.2.2 = false → isAt t 0 40 = true ∧ dParams t (8 - a.1.length) a.2.1 a.1 = dParams t 8 1 [])) (fun a => 8 - a.1.length) (([], adv (isAt t 0 40) 0, !isAt t 0 40)) (fun a => by simp; rfl) (by simp) ?_ ?_
  · have h9 := @adv_le t 0 40
    refine ⟨by simp; omega, by simp, ?_, ?_⟩
    · intro h; simp at h; simp [dRead, h]
    · intro h; simp at h; simp [h]
  rintro ⟨ps, p, b⟩ ⟨hp, hn, hE, hI⟩
  simp only at hp hn hE hI
  cases b
  all_goals
    refine W_seq ?_
    first | (refine W_rseqK [0, 2, 3, 4, 20] (Runs.step 7 tok hX (by simp; rfl) (Runs.call [1] rfl (by simp) rfl (by simp; rfl) (by simp; rfl) (by apply ct_impl_reader_take <;> first | assumption | omega | (simp [*] <;> omega) | (simp <;> omega)) cb_impl_reader_take (by simp) (by simp) (by simp; rfl) (Runs.run tok hX (by simp; rfl)))) ?_) | (refine W_rseqK [0, 2, 3, 4, 20] (Runs.run tok hX (by simp; rfl)) ?_) | (refine W_rseqK [0, 2, 3, 4, 20] (Runs.step 6 tok hX (by simp; rfl) (Runs.mrgS 4 16 [0, 2, 3, 4, 20] (by simp; rfl) (by rfl) (fun b3_6 => by (try simp at b3_6); exact (Runs.step 1 tok hX (by simp [-atD_lt, -atL_lt]; rfl) (Runs.call [1] rfl (by simp) rfl (by simp [-atD_lt, -atL_lt]; rfl) (by simp; rfl) (by apply ct_impl_reader_take <;> first | assumption | omega | (simp [*] <;> omega) | (simp <;> omega)) cb_impl_reader_take (by simp) (by simp) (by simp [-atD_lt, -atL_lt]; rfl) (Runs.run tok hX (by simp [-atD_lt, -atL_lt]; rfl))))) (fun b3_6 => by (try simp at b3_6); exact (Runs.run tok hX (by simp [-atD_lt, -atL_lt]; rfl))) (by rfl) (by rfl) (Runs.fin (by (try simp); rfl)))) ?_)
    refine W_condS (by simp; rfl) (by rfl) (fun h3 => ?_) (fun h3 => ?_)
    · (try simp at h3)
      all_goals
        have h3b : isAt t p 41 = false := by simpa using h3
        obtain ⟨hI1, hI⟩ := hI rfl
        have w1 : (ps.length + 1) * 16 ≤ 140737488355328 := by omega
        have w2 : ps.length ≤ 1099511627775 := by omega
        refine W_skip ?_
        refine W_block ?_
        refine W_seq ?_
        refine W_rseqK [0, 2, 3, 4, 24] (Runs.run tok hX (by simp [h3b, w1, w2]; rfl)) ?_
        refine W_condS (by simp; rfl) (by rfl) (fun h4 => ?_) (fun h4 => ?_)
        · (try simp at h4)
          have h4b : 8 - ps.length = 0 := by omega
          rw [h4b, dParams, if_neg (by simp [h3b])] at hI
          have hd : dRead t = dErr p := dRead_err hI1 hI.symm
          refine W_rseqK [0, 2, 3, 4] (Runs.run tok hX (by simp [h3b, w1, w2]; rfl)) ?_
          refine W_exit ?_
          refine W_seq ?_
          refine W_rseqK [0, 2, 3, 4, 36] (Runs.step 1 tok hX (by simp; rfl) (Runs.call [1] rfl (by simp) rfl (by simp [h3b, w1, w2]; rfl) (by simp; rfl) (by apply ct_impl_reader_take <;> first | assumption | omega | (simp [*] <;> omega) | (simp <;> omega)) cb_impl_reader_take (by simp) (by simp) (by simp [h3b, w1, w2]; rfl) (Runs.fin (by (try simp); rfl)))) ?_
          refine W_condS (by simp; rfl) (by rfl) (fun h7 => ?_) (fun h7 => ?_)
          · (try simp at h7)
            all_goals
              have h7b : isAt t (p + 1) 86 = true := by simpa [h3b] using h7
              have w2 := lt_of_isAt h7b
              refine W_reg (Runs.run tok hX (by simp [h3b, w1, w2, h7b, w2]; rfl)) ?_
              refine W_seq ?_
              first | (refine W_dseqK [2, 3, 4, 58] hmo (by kernel_rfl) (RunsQ.run (n0 := 0) tok (by simp [h3b, w1, w2, h7b, w2]; rfl)) ?_) | (refine W_dseqK [2, 3, 4, 58] hmo (by kernel_rfl) (RunsQ.step (n0 := 0) 10 tok (by simp [h3b, w1, w2, h7b, w2]; rfl) (RunsQ.call rfl (by simp) rfl (by simp [h3b, w1, w2, h7b, w2]; rfl) (by apply ct_impl_length <;> first | assumption | omega | (simp [*] <;> omega) | (simp <;> omega)) cb_impl_length rfl (RunsQ.run (n0 := 0) tok (by simp; rfl)))) ?_) | (refine W_dseqK [2, 3, 4, 58] hmo (by kernel_rfl) (RunsQ.step (n0 := 0) 5 tok (by simp [h3b, w1, w2, h7b, w2]; rfl) (RunsQ.mrgS 8 50 [2, 3, 4, 58] (by simp; rfl) (by rfl) (fun b11_5 => by (try simp at b11_5); exact (RunsQ.run (n0 := 0) tok (by simp [-atD_lt, -atL_lt]; rfl))) (fun b11_5 => by (try simp at b11_5); exact (RunsQ.step (n0 := 0) 5 tok (by simp [-atD_lt, -atL_lt, h3b, w1, w2, h7b, w2]; rfl) (RunsQ.call rfl (by simp) rfl (by simp [-atD_lt, -atL_lt, h3b, w1, w2, h7b, w2]; rfl) (by apply ct_impl_length <;> first | assumption | omega | (simp [*] <;> omega) | (simp <;> omega)) cb_impl_length rfl (RunsQ.run (n0 := 0) tok (by simp [-atD_lt, -atL_lt]; rfl))))) (by rfl) (by rfl) (RunsQ.fin (by (try simp); rfl)))) ?_)
              refine W_condS (by simp; rfl) (by rfl) (fun h11 => ?_) (fun h11 => ?_)
              · (try simp at h11)
                all_goals
                  refine W_rseqK [2] (Runs.run tok hX (by simp [h3b, w1, w2, h7b, w2, h11]; rfl)) ?_
                  refine W_ret ?_
                  refine W_retR (by simp [h3b, w1, w2, h7b, w2, h11]; rfl) ?_ rfl
                  first
                    | (rw [hd]; exact wk_err _ _ _)
                    | (rw [hE rfl]; exact wk_err _ _ _)
                    | (rw [hd, show dTail t ps p = dErr (p + 2) from by simp only [dTail, h7b, if_true]; rw [if_pos (by omega)]]; exact wk_err _ _ _)
                    | (rw [hd, show dTail t ps p = dErr (tyP t (p + 1)).1 from by simp only [dTail, h7b, Bool.false_eq_true, if_false]; grind]; exact wk_err _ _ _)
              · (try simp at h11)
                all_goals
                  refine W_skip ?_
                  refine W_rseqK [2] (Runs.run tok hX (by simp [h3b, w1, w2, h7b, w2, h11]; rfl)) ?_
                  refine W_ret ?_
                  refine W_retR (by simp [h3b, w1, w2, h7b, w2, h11]; rfl) ?_ rfl
                  first
                    | (rw [hd, show dTail t ps p = ⟨ps, [86], 0, 0⟩ from by simp only [dTail, h7b, if_true]; rw [if_neg (by omega)]]; exact Wk.refl _)
                    | (rw [hd, show dTail t ps p = ⟨ps, seg t (p + 1) (tyP t (p + 1)).1, 0, 0⟩ from by simp only [dTail, h7b, Bool.false_eq_true, if_false]; grind]; exact Wk.refl _)
          · (try simp at h7)
            all_goals
              first
                | (have h7b : isAt t (p + 1) 86 = false := by simpa [h3b] using h7)
                | have h7b := trivial
              refine W_rseqK [0, 2, 3, 4, 42] (Runs.run tok hX (by simp [h3b, w1, w2, h7b]; rfl)) ?_
              refine W_condS (by simp; rfl) (by rfl) (fun h9 => ?_) (fun h9 => ?_)
              · (try simp at h9)
                all_goals
                  refine W_reg (Runs.step 1 tok hX (by simp; rfl) (Runs.call [1] rfl (by simp) rfl (by simp [h3b, w1, w2, h7b]; rfl) (by simp; rfl) (by apply ct_impl_reader_kind <;> first | assumption | omega | (simp [*] <;> omega) | (simp <;> omega)) cb_impl_reader_kind (by simp) (by simp) (by simp [h3b, w1, w2, h7b]; rfl) (Runs.run tok hX (by simp [h3b, w1, w2, h7b]; rfl)))) ?_
                  refine W_seq ?_
                  first | (refine W_dseqK [2, 3, 4, 58] hmo (by kernel_rfl) (RunsQ.run (n0 := 0) tok (by simp [h3b, w1, w2, h7b]; rfl)) ?_) | (refine W_dseqK [2, 3, 4, 58] hmo (by kernel_rfl) (RunsQ.step (n0 := 0) 10 tok (by simp [h3b, w1, w2, h7b]; rfl) (RunsQ.call rfl (by simp) rfl (by simp [h3b, w1, w2, h7b]; rfl) (by apply ct_impl_length <;> first | assumption | omega | (simp [*] <;> omega) | (simp <;> omega)) cb_impl_length rfl (RunsQ.run (n0 := 0) tok (by simp; rfl)))) ?_) | (refine W_dseqK [2, 3, 4, 58] hmo (by kernel_rfl) (RunsQ.step (n0 := 0) 5 tok (by simp [h3b, w1, w2, h7b]; rfl) (RunsQ.mrgS 8 50 [2, 3, 4, 58] (by simp; rfl) (by rfl) (fun b11_5 => by (try simp at b11_5); exact (RunsQ.run (n0 := 0) tok (by simp [-atD_lt, -atL_lt]; rfl))) (fun b11_5 => by (try simp at b11_5); exact (RunsQ.step (n0 := 0) 5 tok (by simp [-atD_lt, -atL_lt, h3b, w1, w2, h7b]; rfl) (RunsQ.call rfl (by simp) rfl (by simp [-atD_lt, -atL_lt, h3b, w1, w2, h7b]; rfl) (by apply ct_impl_length <;> first | assumption | omega | (simp [*] <;> omega) | (simp <;> omega)) cb_impl_length rfl (RunsQ.run (n0 := 0) tok (by simp [-atD_lt, -atL_lt]; rfl))))) (by rfl) (by rfl) (RunsQ.fin (by (try simp); rfl)))) ?_)
                  refine W_condS (by simp; rfl) (by rfl) (fun h11 => ?_) (fun h11 => ?_)
                  · (try simp at h11)
                    all_goals
                      refine W_rseqK [2] (Runs.run tok hX (by simp [h3b, w1, w2, h7b, h11]; rfl)) ?_
                      refine W_ret ?_
                      refine W_retR (by simp [h3b, w1, w2, h7b, h11]; rfl) ?_ rfl
                      first
                        | (rw [hd]; exact wk_err _ _ _)
                        | (rw [hE rfl]; exact wk_err _ _ _)
                        | (rw [hd, show dTail t ps p = dErr (p + 2) from by simp only [dTail, h7b, if_true]; rw [if_pos (by omega)]]; exact wk_err _ _ _)
                        | (rw [hd, show dTail t ps p = dErr (tyP t (p + 1)).1 from by simp only [dTail, h7b, Bool.false_eq_true, if_false]; grind]; exact wk_err _ _ _)
                  · (try simp at h11)
                    all_goals
                      refine W_skip ?_
                      refine W_rseqK [2] (Runs.run tok hX (by simp [h3b, w1, w2, h7b, h11]; rfl)) ?_
                      refine W_ret ?_
                      refine W_retR (by simp [h3b, w1, w2, h7b, h11]; rfl) ?_ rfl
                      first
                        | (rw [hd, show dTail t ps p = ⟨ps, [86], 0, 0⟩ from by simp only [dTail, h7b, if_true]; rw [if_neg (by omega)]]; exact Wk.refl _)
                        | (rw [hd, show dTail t ps p = ⟨ps, seg t (p + 1) (tyP t (p + 1)).1, 0, 0⟩ from by simp only [dTail, h7b, Bool.false_eq_true, if_false]; grind]; exact Wk.refl _)
              · (try simp at h9)
                all_goals
                  refine W_skip ?_
                  refine W_seq ?_
                  first | (refine W_dseqK [2, 3, 4, 58] hmo (by kernel_rfl) (RunsQ.run (n0 := 0) tok (by simp [h3b, w1, w2, h7b]; rfl)) ?_) | (refine W_dseqK [2, 3, 4, 58] hmo (by kernel_rfl) (RunsQ.step (n0 := 0) 10 tok (by simp [h3b, w1, w2, h7b]; rfl) (RunsQ.call rfl (by simp) rfl (by simp [h3b, w1, w2, h7b]; rfl) (by apply ct_impl_length <;> first | assumption | omega | (simp [*] <;> omega) | (simp <;> omega)) cb_impl_length rfl (RunsQ.run (n0 := 0) tok (by simp; rfl)))) ?_) | (refine W_dseqK [2, 3, 4, 58] hmo (by kernel_rfl) (RunsQ.step (n0 := 0) 5 tok (by simp [h3b, w1, w2, h7b]; rfl) (RunsQ.mrgS 8 50 [2, 3, 4, 58] (by simp; rfl) (by rfl) (fun b11_5 => by (try simp at b11_5); exact (RunsQ.run (n0 := 0) tok (by simp [-atD_lt, -atL_lt]; rfl))) (fun b11_5 => by (try simp at b11_5); exact (RunsQ.step (n0 := 0) 5 tok (by simp [-atD_lt, -atL_lt, h3b, w1, w2, h7b]; rfl) (RunsQ.call rfl (by simp) rfl (by simp [-atD_lt, -atL_lt, h3b, w1, w2, h7b]; rfl) (by apply ct_impl_length <;> first | assumption | omega | (simp [*] <;> omega) | (simp <;> omega)) cb_impl_length rfl (RunsQ.run (n0 := 0) tok (by simp [-atD_lt, -atL_lt]; rfl))))) (by rfl) (by rfl) (RunsQ.fin (by (try simp); rfl)))) ?_)
                  refine W_condS (by simp; rfl) (by rfl) (fun h11 => ?_) (fun h11 => ?_)
                  · (try simp at h11)
                    all_goals
                      refine W_rseqK [2] (Runs.run tok hX (by simp [h3b, w1, w2, h7b, h11]; rfl)) ?_
                      refine W_ret ?_
                      refine W_retR (by simp [h3b, w1, w2, h7b, h11]; rfl) ?_ rfl
                      first
                        | (rw [hd]; exact wk_err _ _ _)
                        | (rw [hE rfl]; exact wk_err _ _ _)
                        | (rw [hd, show dTail t ps p = dErr (p + 2) from by simp only [dTail, h7b, if_true]; rw [if_pos (by omega)]]; exact wk_err _ _ _)
                        | (rw [hd, show dTail t ps p = dErr (tyP t (p + 1)).1 from by simp only [dTail, h7b, Bool.false_eq_true, if_false]; grind]; exact wk_err _ _ _)
                  · (try simp at h11)
                    all_goals
                      refine W_skip ?_
                      refine W_rseqK [2] (Runs.run tok hX (by simp [h3b, w1, w2, h7b, h11]; rfl)) ?_
                      refine W_ret ?_
                      refine W_retR (by simp [h3b, w1, w2, h7b, h11]; rfl) ?_ rfl
                      first
                        | (rw [hd, show dTail t ps p = ⟨ps, [86], 0, 0⟩ from by simp only [dTail, h7b, if_true]; rw [if_neg (by omega)]]; exact Wk.refl _)
                        | (rw [hd, show dTail t ps p = ⟨ps, seg t (p + 1) (tyP t (p + 1)).1, 0, 0⟩ from by simp only [dTail, h7b, Bool.false_eq_true, if_false]; grind]; exact Wk.refl _)
        · (try simp at h4)
          have h4b : 8 - ps.length = (8 - (ps.length + 1)) + 1 := by omega
          rw [h4b, dParams, if_neg (by simp [h3b])] at hI
          obtain ⟨hge, hle, hgt, _⟩ := tyP_le hp
          have hE3 : (!(tyP t p).2) = true → dRead t = dErr (tyP t p).1 := by
            intro h; rw [if_neg (by simpa using h)] at hI; exact dRead_err hI1 hI.symm
          have hI3 : (!(tyP t p).2) = false → isAt t 0 40 = true ∧ dParams t (8 - (ps ++ [if (tyP t p).2 = true then seg t p (tyP t p).1 else []]).length) (tyP t p).1 (ps ++ [if (tyP t p).2 = true then seg t p (tyP t p).1 else []]) = dParams t 8 1 [] := by
            intro h; have h : (tyP t p).2 = true := by simpa using h
            rw [if_pos h] at hI ⊢; refine ⟨hI1, ?_⟩; rw [← hI]; simp
          refine W_skip ?_
          refine W_held (n := 5) (A := [0, 1, 2]) (B := [3, 4])  (L := [2]) hmo (by kernel_rfl) tok hX (by simp [h3b, w1, w2]; rfl) (.cons rfl (by simp) (fun X hX => (Runs.call [1] rfl (by simp) rfl (by simp [h3b, w1, w2]; rfl) (by simp; rfl) (by apply ct_impl_reader_kind <;> first | assumption | omega | (simp [*] <;> omega) | (simp <;> omega)) cb_impl_reader_kind (by simp) (by simp) (by simp [h3b, w1, w2]; rfl) (Runs.fin (by (try simp); rfl)))) (by simp; rfl) (.cons rfl (by simp) (fun X hX => (Runs.run tok hX (by simp; rfl))) (by simp; rfl) .nil)) (Runs.run tok hX (by simp [h3b, w1, w2]; rfl)) ?_
          refine round_endT ((ps ++ [if (tyP t p).2 = true then seg t p (tyP t p).1 else []], (tyP t p).1, !(tyP t p).2)) [0, 2, 3, 4] 4 (by simp [hX]) (by simp) (by simp [h3b, w1, w2]; try (simp (disch := omega) only [wrap_i64])) ?_ ?_
          · exact ⟨hle, by simp; omega, hE3, hI3⟩
          · simp; omega
    · (try simp at h3)
      all_goals
        first
          | (have h3b : isAt t p 41 = true := by simpa using h3
             have hI1 := (hI rfl).1
             have hI := (hI rfl).2
             have hd : dRead t = dTail t ps p := dRead_ok hI1 (by rw [← hI]; cases 8 - ps.length <;> simp [dParams, h3b])
             have w0 : p + 1 ≤ t.length := lt_of_isAt h3b
             have w1 := tyP_le w0)
          | (have h3b := trivial
             have w0 := trivial
             have w1 := trivial)
        refine W_exit ?_
        refine W_seq ?_
        refine W_rseqK [0, 2, 3, 4, 36] (Runs.step 1 tok hX (by simp; rfl) (Runs.call [1] rfl (by simp) rfl (by simp [h3b, w0, w1]; rfl) (by simp; rfl) (by apply ct_impl_reader_take <;> first | assumption | omega | (simp [*] <;> omega) | (simp <;> omega)) cb_impl_reader_take (by simp) (by simp) (by simp [h3b, w0, w1]; rfl) (Runs.fin (by (try simp); rfl)))) ?_
        refine W_condS (by simp; rfl) (by rfl) (fun h7 => ?_) (fun h7 => ?_)
        · (try simp at h7)
          all_goals
            have h7b : isAt t (p + 1) 86 = true := by simpa [h3b] using h7
            have w2 := lt_of_isAt h7b
            refine W_reg (Runs.run tok hX (by simp [h3b, w0, w1, h7b, w2]; rfl)) ?_
            refine W_seq ?_
            first | (refine W_dseqK [2, 3, 4, 58] hmo (by kernel_rfl) (RunsQ.run (n0 := 0) tok (by simp [h3b, w0, w1, h7b, w2]; rfl)) ?_) | (refine W_dseqK [2, 3, 4, 58] hmo (by kernel_rfl) (RunsQ.step (n0 := 0) 10 tok (by simp [h3b, w0, w1, h7b, w2]; rfl) (RunsQ.call rfl (by simp) rfl (by simp [h3b, w0, w1, h7b, w2]; rfl) (by apply ct_impl_length <;> first | assumption | omega | (simp [*] <;> omega) | (simp <;> omega)) cb_impl_length rfl (RunsQ.run (n0 := 0) tok (by simp; rfl)))) ?_) | (refine W_dseqK [2, 3, 4, 58] hmo (by kernel_rfl) (RunsQ.step (n0 := 0) 5 tok (by simp [h3b, w0, w1, h7b, w2]; rfl) (RunsQ.mrgS 8 50 [2, 3, 4, 58] (by simp; rfl) (by rfl) (fun b11_5 => by (try simp at b11_5); exact (RunsQ.run (n0 := 0) tok (by simp [-atD_lt, -atL_lt]; rfl))) (fun b11_5 => by (try simp at b11_5); exact (RunsQ.step (n0 := 0) 5 tok (by simp [-atD_lt, -atL_lt, h3b, w0, w1, h7b, w2]; rfl) (RunsQ.call rfl (by simp) rfl (by simp [-atD_lt, -atL_lt, h3b, w0, w1, h7b, w2]; rfl) (by apply ct_impl_length <;> first | assumption | omega | (simp [*] <;> omega) | (simp <;> omega)) cb_impl_length rfl (RunsQ.run (n0 := 0) tok (by simp [-atD_lt, -atL_lt]; rfl))))) (by rfl) (by rfl) (RunsQ.fin (by (try simp); rfl)))) ?_)
            refine W_condS (by simp; rfl) (by rfl) (fun h11 => ?_) (fun h11 => ?_)
            · (try simp at h11)
              all_goals
                refine W_rseqK [2] (Runs.run tok hX (by simp [h3b, w0, w1, h7b, w2, h11]; rfl)) ?_
                refine W_ret ?_
                refine W_retR (by simp [h3b, w0, w1, h7b, w2, h11]; rfl) ?_ rfl
                first
                  | (rw [hd]; exact wk_err _ _ _)
                  | (rw [hE rfl]; exact wk_err _ _ _)
                  | (rw [hd, show dTail t ps p = dErr (p + 2) from by simp only [dTail, h7b, if_true]; rw [if_pos (by omega)]]; exact wk_err _ _ _)
                  | (rw [hd, show dTail t ps p = dErr (tyP t (p + 1)).1 from by simp only [dTail, h7b, Bool.false_eq_true, if_false]; grind]; exact wk_err _ _ _)
            · (try simp at h11)
              all_goals
                refine W_skip ?_
                refine W_rseqK [2] (Runs.run tok hX (by simp [h3b, w0, w1, h7b, w2, h11]; rfl)) ?_
                refine W_ret ?_
                refine W_retR (by simp [h3b, w0, w1, h7b, w2, h11]; rfl) ?_ rfl
                first
                  | (rw [hd, show dTail t ps p = ⟨ps, [86], 0, 0⟩ from by simp only [dTail, h7b, if_true]; rw [if_neg (by omega)]]; exact Wk.refl _)
                  | (rw [hd, show dTail t ps p = ⟨ps, seg t (p + 1) (tyP t (p + 1)).1, 0, 0⟩ from by simp only [dTail, h7b, Bool.false_eq_true, if_false]; grind]; exact Wk.refl _)
        · (try simp at h7)
          all_goals
            first
              | (have h7b : isAt t (p + 1) 86 = false := by simpa [h3b] using h7)
              | have h7b := trivial
            refine W_rseqK [0, 2, 3, 4, 42] (Runs.run tok hX (by simp [h3b, w0, w1, h7b]; rfl)) ?_
            refine W_condS (by simp; rfl) (by rfl) (fun h9 => ?_) (fun h9 => ?_)
            · (try simp at h9)
              all_goals
                refine W_reg (Runs.step 1 tok hX (by simp; rfl) (Runs.call [1] rfl (by simp) rfl (by simp [h3b, w0, w1, h7b]; rfl) (by simp; rfl) (by apply ct_impl_reader_kind <;> first | assumption | omega | (simp [*] <;> omega) | (simp <;> omega)) cb_impl_reader_kind (by simp) (by simp) (by simp [h3b, w0, w1, h7b]; rfl) (Runs.run tok hX (by simp [h3b, w0, w1, h7b]; rfl)))) ?_
                refine W_seq ?_
                first | (refine W_dseqK [2, 3, 4, 58] hmo (by kernel_rfl) (RunsQ.run (n0 := 0) tok (by simp [h3b, w0, w1, h7b]; rfl)) ?_) | (refine W_dseqK [2, 3, 4, 58] hmo (by kernel_rfl) (RunsQ.step (n0 := 0) 10 tok (by simp [h3b, w0, w1, h7b]; rfl) (RunsQ.call rfl (by simp) rfl (by simp [h3b, w0, w1, h7b]; rfl) (by apply ct_impl_length <;> first | assumption | omega | (simp [*] <;> omega) | (simp <;> omega)) cb_impl_length rfl (RunsQ.run (n0 := 0) tok (by simp; rfl)))) ?_) | (refine W_dseqK [2, 3, 4, 58] hmo (by kernel_rfl) (RunsQ.step (n0 := 0) 5 tok (by simp [h3b, w0, w1, h7b]; rfl) (RunsQ.mrgS 8 50 [2, 3, 4, 58] (by simp; rfl) (by rfl) (fun b11_5 => by (try simp at b11_5); exact (RunsQ.run (n0 := 0) tok (by simp [-atD_lt, -atL_lt]; rfl))) (fun b11_5 => by (try simp at b11_5); exact (RunsQ.step (n0 := 0) 5 tok (by simp [-atD_lt, -atL_lt, h3b, w0, w1, h7b]; rfl) (RunsQ.call rfl (by simp) rfl (by simp [-atD_lt, -atL_lt, h3b, w0, w1, h7b]; rfl) (by apply ct_impl_length <;> first | assumption | omega | (simp [*] <;> omega) | (simp <;> omega)) cb_impl_length rfl (RunsQ.run (n0 := 0) tok (by simp [-atD_lt, -atL_lt]; rfl))))) (by rfl) (by rfl) (RunsQ.fin (by (try simp); rfl)))) ?_)
                refine W_condS (by simp; rfl) (by rfl) (fun h11 => ?_) (fun h11 => ?_)
                · (try simp at h11)
                  all_goals
                    refine W_rseqK [2] (Runs.run tok hX (by simp [h3b, w0, w1, h7b, h11]; rfl)) ?_
                    refine W_ret ?_
                    refine W_retR (by simp [h3b, w0, w1, h7b, h11]; rfl) ?_ rfl
                    first
                      | (rw [hd]; exact wk_err _ _ _)
                      | (rw [hE rfl]; exact wk_err _ _ _)
                      | (rw [hd, show dTail t ps p = dErr (p + 2) from by simp only [dTail, h7b, if_true]; rw [if_pos (by omega)]]; exact wk_err _ _ _)
                      | (rw [hd, show dTail t ps p = dErr (tyP t (p + 1)).1 from by simp only [dTail, h7b, Bool.false_eq_true, if_false]; grind]; exact wk_err _ _ _)
                · (try simp at h11)
                  all_goals
                    refine W_skip ?_
                    refine W_rseqK [2] (Runs.run tok hX (by simp [h3b, w0, w1, h7b, h11]; rfl)) ?_
                    refine W_ret ?_
                    refine W_retR (by simp [h3b, w0, w1, h7b, h11]; rfl) ?_ rfl
                    first
                      | (rw [hd, show dTail t ps p = ⟨ps, [86], 0, 0⟩ from by simp only [dTail, h7b, if_true]; rw [if_neg (by omega)]]; exact Wk.refl _)
                      | (rw [hd, show dTail t ps p = ⟨ps, seg t (p + 1) (tyP t (p + 1)).1, 0, 0⟩ from by simp only [dTail, h7b, Bool.false_eq_true, if_false]; grind]; exact Wk.refl _)
            · (try simp at h9)
              all_goals
                refine W_skip ?_
                refine W_seq ?_
                first | (refine W_dseqK [2, 3, 4, 58] hmo (by kernel_rfl) (RunsQ.run (n0 := 0) tok (by simp [h3b, w0, w1, h7b]; rfl)) ?_) | (refine W_dseqK [2, 3, 4, 58] hmo (by kernel_rfl) (RunsQ.step (n0 := 0) 10 tok (by simp [h3b, w0, w1, h7b]; rfl) (RunsQ.call rfl (by simp) rfl (by simp [h3b, w0, w1, h7b]; rfl) (by apply ct_impl_length <;> first | assumption | omega | (simp [*] <;> omega) | (simp <;> omega)) cb_impl_length rfl (RunsQ.run (n0 := 0) tok (by simp; rfl)))) ?_) | (refine W_dseqK [2, 3, 4, 58] hmo (by kernel_rfl) (RunsQ.step (n0 := 0) 5 tok (by simp [h3b, w0, w1, h7b]; rfl) (RunsQ.mrgS 8 50 [2, 3, 4, 58] (by simp; rfl) (by rfl) (fun b11_5 => by (try simp at b11_5); exact (RunsQ.run (n0 := 0) tok (by simp [-atD_lt, -atL_lt]; rfl))) (fun b11_5 => by (try simp at b11_5); exact (RunsQ.step (n0 := 0) 5 tok (by simp [-atD_lt, -atL_lt, h3b, w0, w1, h7b]; rfl) (RunsQ.call rfl (by simp) rfl (by simp [-atD_lt, -atL_lt, h3b, w0, w1, h7b]; rfl) (by apply ct_impl_length <;> first | assumption | omega | (simp [*] <;> omega) | (simp <;> omega)) cb_impl_length rfl (RunsQ.run (n0 := 0) tok (by simp [-atD_lt, -atL_lt]; rfl))))) (by rfl) (by rfl) (RunsQ.fin (by (try simp); rfl)))) ?_)
                refine W_condS (by simp; rfl) (by rfl) (fun h11 => ?_) (fun h11 => ?_)
                · (try simp at h11)
                  all_goals
                    refine W_rseqK [2] (Runs.run tok hX (by simp [h3b, w0, w1, h7b, h11]; rfl)) ?_
                    refine W_ret ?_
                    refine W_retR (by simp [h3b, w0, w1, h7b, h11]; rfl) ?_ rfl
                    first
                      | (rw [hd]; exact wk_err _ _ _)
                      | (rw [hE rfl]; exact wk_err _ _ _)
                      | (rw [hd, show dTail t ps p = dErr (p + 2) from by simp only [dTail, h7b, if_true]; rw [if_pos (by omega)]]; exact wk_err _ _ _)
                      | (rw [hd, show dTail t ps p = dErr (tyP t (p + 1)).1 from by simp only [dTail, h7b, Bool.false_eq_true, if_false]; grind]; exact wk_err _ _ _)
                · (try simp at h11)
                  all_goals
                    refine W_skip ?_
                    refine W_rseqK [2] (Runs.run tok hX (by simp [h3b, w0, w1, h7b, h11]; rfl)) ?_
                    refine W_ret ?_
                    refine W_retR (by simp [h3b, w0, w1, h7b, h11]; rfl) ?_ rfl
                    first
                      | (rw [hd, show dTail t ps p = ⟨ps, [86], 0, 0⟩ from by simp only [dTail, h7b, if_true]; rw [if_neg (by omega)]]; exact Wk.refl _)
                      | (rw [hd, show dTail t ps p = ⟨ps, seg t (p + 1) (tyP t (p + 1)).1, 0, 0⟩ from by simp only [dTail, h7b, Bool.false_eq_true, if_false]; grind]; exact Wk.refl _)
end Go.Proofs
namespace Go.Proofs
open Go Go.Ev


theorem cb_impl_isMethodName : Callable Tryz.prog 145 := ⟨_, Tryz.func145, by kernel_rfl, by kernel_rfl⟩
set_option maxHeartbeats 2000000 in
set_option maxRecDepth 100000 in
theorem ct_impl_isMethodName {t : Str} (ht : t.length ≤ 1099511627776) : Ct Tryz.prog 145 [.str t] [] (.bool (nameRight t || decide (t = init))) [] := by
  refine Ct_bodyS tok Tryz.func145 rfl 9 (by kernel_rfl) (by kernel_rfl) fun X hX => ?_
  refine W_rseqK [0] (Runs.run tok hX (by simp; rfl)) ?_
  refine W_rseqK [2] (Runs.step 1 tok hX (by simp; rfl) (Runs.call [] rfl (by simp) rfl (by simp; rfl) (by simp; rfl) (by apply ct_impl_NameRight <;> first | assumption | omega | (simp at *; omega) | simp_all) cb_impl_NameRight (by simp) (by simp) (by simp; rfl) (Runs.step 1 tok hX (by simp; rfl) (Runs.mrgS 3 5 [8] (by simp; rfl) (by rfl) (fun b1_3 => by (try simp at b1_3); exact (Runs.run tok hX (by simp [-atD_lt, -atL_lt]; rfl))) (fun b1_3 => by (try simp at b1_3); exact (Runs.run tok hX (by simp [-atD_lt, -atL_lt]; rfl))) (by rfl) (by rfl) (Runs.run tok hX (by simp; rfl)))))) ?_
  refine W_ret ?_
  refine W_retR (by simp; rfl) (.of_eq ?_) rfl
  (try simp_all [init]) <;> grind
end Go.Proofs
namespace Go.Proofs
open Go Go.Ev


theorem cb_impl_isText : Callable Tryz.prog 44 := ⟨_, Tryz.func44, by kernel_rfl, by kernel_rfl⟩
set_option maxHeartbeats 2000000 in
set_option maxRecDepth 100000 in
theorem ct_impl_isText {l : List Str} (hl : l.length ≤ 1099511627776) : Ct Tryz.prog 44 [.lst false 1 (l.map V.str)] [] (.bool (l.all fun t => decide (t.length ≤ 20000))) [] := by
  refine Ct_bodyS tok Tryz.func44 rfl 15 (by kernel_rfl) (by kernel_rfl) fun X hX => ?_
  refine W_rseqK [0] (Runs.run tok hX (by simp; rfl)) ?_
  refine W_seq ?_
  refine W_rseqK [5, 6, 7] (Runs.run tok hX (by simp; rfl)) ?_
  refine W_block ?_
  -- loop 0: live [5, 6, 7]
  refine W_loopU (α := Nat) [5, 6, 7] (fun i => [(7, .int .i64 i)]) (fun i => []) (fun i => i ≤ l.length ∧ (l.drop i).all (fun t => decide (t.length ≤ 20000)) = l.all fun t => decide (t.length ≤ 20000)) (fun i => l.length - i) (0) (fun i => by simp; rfl) (by simp) ?_ ?_
  · simp
  rintro i ⟨hi, hI⟩
  refine W_rseqK [5, 6, 7, 8] (Runs.run tok hX (by simp; rfl)) ?_
  refine W_seq ?_
  refine W_condS (by simp; rfl) (by rfl) (fun h2 => ?_) (fun h2 => ?_)
  · (try simp at h2)
    rw [List.drop_eq_getElem_cons h2] at hI
    simp only [List.all_cons] at hI
    refine W_skip ?_
    refine W_seq ?_
    refine W_block ?_
    refine W_rseqK [4, 5, 6, 7] (Runs.run tok hX (by simp [h2]; rfl)) ?_
    refine W_rseqK [5, 6, 7, 13] (Runs.run tok hX (by simp [h2]; rfl)) ?_
    refine W_condS (by simp; rfl) (by rfl) (fun h4 => ?_) (fun h4 => ?_)
    · (try simp at h4)
      refine W_rseqK [2] (Runs.run tok hX (by simp; rfl)) ?_
      refine W_ret ?_
      refine W_retR (by simp [h2, h4]; rfl) (.of_eq ?_) rfl
      rw [← hI, decide_eq_false (by omega)]; rfl
    · (try simp at h4)
      rw [decide_eq_true (by omega), Bool.true_and] at hI
      refine W_skip ?_
      refine W_reg (Runs.run tok hX (by simp; (try (simp (disch := omega) only [wrap_i64]; (try simp))); rfl)) ?_
      refine round_end (i + 1) [5, 6, 7] (by simp [h2, h4]; try (simp (disch := omega) only [wrap_i64])) ?_ ?_
      · exact ⟨by omega, hI⟩
      · omega
  · (try simp at h2)
    refine W_exit ?_
    refine W_rseqK [2] (Runs.run tok hX (by simp; rfl)) ?_
    refine W_ret ?_
    refine W_retR (by simp [h2]; rfl) (.of_eq ?_) rfl
    rw [← hI, List.drop_eq_nil_of_le h2]; rfl
end Go.Proofs
namespace Go.Proofs
open Go Go.Ev


theorem cb_impl_isDesc : Callable Tryz.prog 146 := ⟨_, Tryz.func146, by kernel_rfl, by kernel_rfl⟩
set_option maxHeartbeats 2000000 in
set_option maxRecDepth 100000 in
theorem ct_impl_isDesc {t : Str} (ht : t.length ≤ 1099511627776) : Ct Tryz.prog 146 [.str t] [] (.bool (decide ((descRead t).code = 0))) [] := by
  refine Ct_bodyS tok Tryz.func146 rfl 12 (by kernel_rfl) (by kernel_rfl) fun X hX => ?_
  refine W_rseqK [0] (Runs.run tok hX (by simp; rfl)) ?_
  refine W_rseqK [2] (Runs.step 2 tok hX (by simp; rfl) (Runs.callB rfl (by simp) rfl (by simp; rfl) (by apply (ct_impl_isText (l := [t])) <;> simp) cb_impl_isText (by simp) (by simp; rfl) (Runs.step 1 tok hX (by simp; rfl) (Runs.mrgS 5 6 [11] (by simp; rfl) (by rfl) (fun b1_4 => by (try simp at b1_4); exact (Runs.step 1 tok hX (by simp [-atD_lt, -atL_lt]; rfl) (Runs.callF rfl (by simp) rfl (by simp [-atD_lt, -atL_lt]; rfl) (by apply ct_impl_descRead <;> first | assumption | omega | (simp at *; omega) | simp_all) cb_impl_descRead (by simp [-atD_lt, -atL_lt]; rfl) (Runs.run tok hX (by simp [-atD_lt, -atL_lt]; rfl))))) (fun b1_4 => by (try simp at b1_4); exact (Runs.run tok hX (by simp [-atD_lt, -atL_lt]; rfl))) (by rfl) (by rfl) (Runs.run tok hX (by simp; rfl)))))) ?_
  refine W_ret ?_
  refine W_retR (by simp; rfl) (.of_eq ?_) rfl
  unfold descRead
  (try simp_all) <;> grind
end Go.Proofs
namespace Go.Proofs
open Go Go.Ev


theorem cb_impl_size_impl_Ins : Callable Tryz.prog 163 := ⟨_, Tryz.func163, by kernel_rfl, by kernel_rfl⟩
set_option maxHeartbeats 2000000 in
set_option maxRecDepth 100000 in
theorem ct_impl_size_impl_Ins {l : List Ins} : Ct Tryz.prog 163 [.lst false 5 (l.map eI)] [] (.int .i64 l.length) [] := by
  refine Ct_bodyS tok Tryz.func163 rfl 5 (by kernel_rfl) (by kernel_rfl) fun X hX => ?_
  refine W_rseqK [0] (Runs.run tok hX (by simp; rfl)) ?_
  refine W_rseqK [2] (Runs.run tok hX (by simp; rfl)) ?_
  refine W_ret ?_
  refine W_retR (by simp; rfl) (.of_eq ?_) rfl
  simp
end Go.Proofs
namespace Go.Proofs
open Go Go.Ev


theorem cb_impl_isOp : Callable Tryz.prog 172 := ⟨_, Tryz.func172, by kernel_rfl, by kernel_rfl⟩
set_option maxHeartbeats 2000000 in
set_option maxRecDepth 100000 in
theorem ct_impl_isOp {n : Int} : Ct Tryz.prog 172 [.int .i64 n] [] (.bool (decide (1 ≤ n ∧ n ≤ 44))) [] := by
  refine Ct_bodyS tok Tryz.func172 rfl 5 (by kernel_rfl) (by kernel_rfl) fun X hX => ?_
  refine W_rseqK [0] (Runs.run tok hX (by simp; rfl)) ?_
  refine W_rseqK [2] (Runs.step 1 tok hX (by simp; rfl) (Runs.call [] rfl (by simp) rfl (by simp; rfl) (by simp; rfl) (by apply ct_impl_within <;> first | assumption | omega | (simp at *; omega) | simp_all) cb_impl_within (by simp) (by simp) (by simp; rfl) (Runs.run tok hX (by simp; rfl)))) ?_
  refine W_ret ?_
  refine W_retR (by simp; rfl) (.of_eq ?_) rfl
  simp
end Go.Proofs
namespace Go.Proofs
open Go Go.Ev


theorem cb_impl_opForms : Callable Tryz.prog 173 := ⟨_, Tryz.func173, by kernel_rfl, by kernel_rfl⟩
set_option maxHeartbeats 2000000 in
set_option maxRecDepth 100000 in
theorem ct_impl_opForms  : Ct Tryz.prog 173 [] [] (.lst true 1 (formL.map V.str)) [] := by
  refine Ct_bodyS tok Tryz.func173 rfl 2 (by kernel_rfl) (by kernel_rfl) fun X hX => ?_
  refine W_rseqK [] (Runs.run tok hX (by simp; rfl)) ?_
  refine W_rseqK [0] (Runs.run tok hX (by simp; rfl)) ?_
  refine W_ret ?_
  refine W_retR (by simp; rfl) (.of_eq ?_) rfl
  rfl
end Go.Proofs
namespace Go.Proofs
open Go Go.Ev


theorem cb_impl_OpForm : Callable Tryz.prog 165 := ⟨_, Tryz.func165, by kernel_rfl, by kernel_rfl⟩
set_option maxHeartbeats 2000000 in
set_option maxRecDepth 100000 in
theorem ct_impl_OpForm {op : Int} : Ct Tryz.prog 165 [.int .i64 op] [] (.str (opForm op)) [] := by
  have hol : formL.length = 44 := rfl
  refine Ct_bodyS tok Tryz.func165 rfl 11 (by kernel_rfl) (by kernel_rfl) fun X hX => ?_
  refine W_rseqK [0] (Runs.run tok hX (by simp; rfl)) ?_
  refine W_seq ?_
  refine W_rseqK [0, 5] (Runs.step 1 tok hX (by simp; rfl) (Runs.call [] rfl (by simp) rfl (by simp; rfl) (by simp; rfl) (by apply ct_impl_isOp <;> first | assumption | omega | (simp at *; omega) | simp_all) cb_impl_isOp (by simp) (by simp) (by simp; rfl) (Runs.run tok hX (by simp; rfl)))) ?_
  refine W_condS (by simp; rfl) (by rfl) (fun h1 => ?_) (fun h1 => ?_)
  · (try simp at h1)
    refine W_rseqK [2] (Runs.run tok hX (by simp; rfl)) ?_
    refine W_ret ?_
    refine W_retR (by simp; rfl) (.of_eq ?_) rfl
    simp only [opForm]; rw [if_pos (by omega)]
  · (try simp at h1)
    obtain ⟨k, rfl⟩ : ∃ k : Nat, op = (k : Int) + 1 := ⟨(op - 1).toNat, by omega⟩
    have hk : k < formL.length := by rw [hol]; omega
    have hk1 : IntKind.i64.wrap ((k : Int) + 1 - 1) = k := by rw [wrap_i64 (by omega) (by omega)]; omega
    refine W_skip ?_
    refine W_rseqK [2] (Runs.callF rfl (by simp) rfl (by simp [hk, hk1]; rfl) (by apply ct_impl_opForms <;> first | assumption | omega | (simp at *; omega) | simp_all) cb_impl_opForms (by simp [hk, hk1]; rfl) (Runs.run tok hX (by simp [hk, hk1]; (try (simp (disch := omega) only [wrap_i64]; (try simp [hk, hk1]))); rfl))) ?_
    refine W_ret ?_
    refine W_retR (by simp [hk, hk1]; rfl) (.of_eq ?_) rfl
    simp only [opForm]; rw [if_neg (by omega), show ((k : Int) + 1 - 1).toNat = k from by omega]; simp [hk]
end Go.Proofs
namespace Go.Proofs
open Go Go.Ev


theorem cb_impl_isInt : Callable Tryz.prog 171 := ⟨_, Tryz.func171, by kernel_rfl, by kernel_rfl⟩
set_option maxHeartbeats 2000000 in
set_option maxRecDepth 100000 in
theorem ct_impl_isInt {n : Int} : Ct Tryz.prog 171 [.int .i64 n] [] (.bool (isInt n)) [] := by
  refine Ct_bodyS tok Tryz.func171 rfl 5 (by kernel_rfl) (by kernel_rfl) fun X hX => ?_
  refine W_rseqK [0] (Runs.run tok hX (by simp; rfl)) ?_
  refine W_rseqK [2] (Runs.step 1 tok hX (by simp; rfl) (Runs.call [] rfl (by simp) rfl (by simp; rfl) (by simp; rfl) (by apply ct_impl_within <;> first | assumption | omega | (simp at *; omega) | simp_all) cb_impl_within (by simp) (by simp) (by simp; rfl) (Runs.run tok hX (by simp; rfl)))) ?_
  refine W_ret ?_
  refine W_retR (by simp; rfl) (.of_eq ?_) rfl
  simp [isInt]
end Go.Proofs
namespace Go.Proofs
open Go Go.Ev


theorem cb_impl_InsRight : Callable Tryz.prog 164 := ⟨_, Tryz.func164, by kernel_rfl, by kernel_rfl⟩
set_option maxHeartbeats 2000000 in
set_option maxRecDepth 100000 in
theorem ct_impl_InsRight {x : Ins} (h : sizeI x ≤ 1099511627776) : Ct Tryz.prog 164 [eI x] [] (.bool (insRight x)) [] := by
  simp only [sizeI] at h
  refine Ct_bodyS tok Tryz.func164 rfl 143 (by kernel_rfl) (by kernel_rfl) fun X hX => ?_
  refine W_rseqK [1] (Runs.run tok hX (by simp; rfl)) ?_
  refine W_rseqK [1, 3] (Runs.step 4 tok hX (by simp; rfl) (Runs.mrgS 4 7 [1, 11] (by simp; rfl) (by rfl) (fun b1_4 => by (try simp at b1_4); exact (Runs.run tok hX (by simp [-atD_lt, -atL_lt]; rfl))) (fun b1_4 => by (try simp at b1_4); exact (Runs.run tok hX (by simp [-atD_lt, -atL_lt]; rfl))) (by rfl) (by rfl) (Runs.step 1 tok hX (by simp; rfl) (Runs.mrgS 4 12 [1, 16] (by simp; rfl) (by rfl) (fun b1_9 => by (try simp at b1_9); exact (Runs.run tok hX (by simp [-atD_lt, -atL_lt]; rfl))) (fun b1_9 => by (try simp at b1_9); exact (Runs.run tok hX (by simp [-atD_lt, -atL_lt]; rfl))) (by rfl) (by rfl) (Runs.run tok hX (by simp; rfl)))))) ?_
  refine W_seq ?_
  refine W_rseqK [1, 3, 19] (Runs.step 2 tok hX (by simp; rfl) (Runs.call [] rfl (by simp) rfl (by simp; rfl) (by simp; rfl) (by apply ct_impl_OpForm <;> first | assumption | omega | (simp at *; omega) | simp_all) cb_impl_OpForm (by simp) (by simp) (by simp; rfl) (Runs.fin (by (try simp); rfl)))) ?_
  refine W_block ?_
  refine W_rseqK [1, 3, 19, 20] (Runs.run tok hX (by simp; rfl)) ?_
  refine W_condS (by simp; rfl) (by rfl) (fun h3 => ?_) (fun h3 => ?_)
  · (try simp at h3)
    refine W_rseqK [2] (Runs.step 2 tok hX (by simp; rfl) (Runs.mrgS 4 23 [27] (by simp; rfl) (by rfl) (fun b4_2 => by (try simp at b4_2); exact (Runs.run tok hX (by simp [-atD_lt, -atL_lt]; rfl))) (fun b4_2 => by (try simp at b4_2); exact (Runs.run tok hX (by simp [-atD_lt, -atL_lt]; rfl))) (by rfl) (by rfl) (Runs.run tok hX (by simp; rfl)))) ?_
    refine W_ret ?_
    refine W_retR (by simp; rfl) (.of_eq ?_) rfl
    (try simp_all [insRight, insEmpty, isInt, init]) <;> grind
  · (try simp at h3)
    refine W_rseqK [1, 3, 19, 28] (Runs.run tok hX (by simp; rfl)) ?_
    refine W_condS (by simp; rfl) (by rfl) (fun h5 => ?_) (fun h5 => ?_)
    · (try simp at h5)
      refine W_rseqK [2] (Runs.step 2 tok hX (by simp; rfl) (Runs.mrgS 4 31 [35] (by simp; rfl) (by rfl) (fun b6_2 => by (try simp at b6_2); exact (Runs.step 2 tok hX (by simp [-atD_lt, -atL_lt]; rfl) (Runs.call [] rfl (by simp) rfl (by simp [-atD_lt, -atL_lt]; rfl) (by simp; rfl) (by apply ct_impl_isInt <;> first | assumption | omega | (simp at *; omega) | simp_all) cb_impl_isInt (by simp) (by simp) (by simp [-atD_lt, -atL_lt]; rfl) (Runs.run tok hX (by simp [-atD_lt, -atL_lt]; rfl))))) (fun b6_2 => by (try simp at b6_2); exact (Runs.run tok hX (by simp [-atD_lt, -atL_lt]; rfl))) (by rfl) (by rfl) (Runs.run tok hX (by simp; rfl)))) ?_
      refine W_ret ?_
      refine W_retR (by simp; rfl) (.of_eq ?_) rfl
      (try simp_all [insRight, insEmpty, isInt, init]) <;> grind
    · (try simp at h5)
      refine W_rseqK [1, 3, 19, 36] (Runs.run tok hX (by simp; rfl)) ?_
      refine W_condS (by simp; rfl) (by rfl) (fun h7 => ?_) (fun h7 => ?_)
      · (try simp at h7)
        refine W_rseqK [2] (Runs.step 2 tok hX (by simp; rfl) (Runs.mrgS 4 39 [43] (by simp; rfl) (by rfl) (fun b8_2 => by (try simp at b8_2); exact (Runs.step 2 tok hX (by simp [-atD_lt, -atL_lt]; rfl) (Runs.call [] rfl (by simp) rfl (by simp [-atD_lt, -atL_lt]; rfl) (by simp; rfl) (by apply ct_impl_within <;> first | assumption | omega | (simp at *; omega) | simp_all) cb_impl_within (by simp) (by simp) (by simp [-atD_lt, -atL_lt]; rfl) (Runs.run tok hX (by simp [-atD_lt, -atL_lt]; rfl))))) (fun b8_2 => by (try simp at b8_2); exact (Runs.run tok hX (by simp [-atD_lt, -atL_lt]; rfl))) (by rfl) (by rfl) (Runs.run tok hX (by simp; rfl)))) ?_
        refine W_ret ?_
        refine W_retR (by simp; rfl) (.of_eq ?_) rfl
        (try simp_all [insRight, insEmpty, isInt, init]) <;> grind
      · (try simp at h7)
        refine W_rseqK [1, 3, 19, 44] (Runs.run tok hX (by simp; rfl)) ?_
        refine W_condS (by simp; rfl) (by rfl) (fun h9 => ?_) (fun h9 => ?_)
        · (try simp at h9)
          refine W_rseqK [2] (Runs.step 2 tok hX (by simp; rfl) (Runs.mrgS 4 47 [51] (by simp; rfl) (by rfl) (fun b10_2 => by (try simp at b10_2); exact (Runs.step 2 tok hX (by simp [-atD_lt, -atL_lt]; rfl) (Runs.call [] rfl (by simp) rfl (by simp [-atD_lt, -atL_lt]; rfl) (by simp; rfl) (by apply ct_impl_within <;> first | assumption | omega | (simp at *; omega) | simp_all) cb_impl_within (by simp) (by simp) (by simp [-atD_lt, -atL_lt]; rfl) (Runs.run tok hX (by simp [-atD_lt, -atL_lt]; rfl))))) (fun b10_2 => by (try simp at b10_2); exact (Runs.run tok hX (by simp [-atD_lt, -atL_lt]; rfl))) (by rfl) (by rfl) (Runs.run tok hX (by simp; rfl)))) ?_
          refine W_ret ?_
          refine W_retR (by simp; rfl) (.of_eq ?_) rfl
          (try simp_all [insRight, insEmpty, isInt, init]) <;> grind
        · (try simp at h9)
          refine W_rseqK [1, 19, 52] (Runs.run tok hX (by simp; rfl)) ?_
          refine W_condS (by simp; rfl) (by rfl) (fun h11 => ?_) (fun h11 => ?_)
          · (try simp at h11)
            refine W_rseqK [2] (Runs.step 4 tok hX (by simp; rfl) (Runs.mrgS 4 57 [1, 61] (by simp; rfl) (by rfl) (fun b12_4 => by (try simp at b12_4); exact (Runs.step 2 tok hX (by simp [-atD_lt, -atL_lt]; rfl) (Runs.call [] rfl (by simp) rfl (by simp [-atD_lt, -atL_lt]; rfl) (by simp; rfl) (by apply ct_impl_NameRight <;> first | assumption | omega | (simp at *; omega) | simp_all) cb_impl_NameRight (by simp) (by simp) (by simp [-atD_lt, -atL_lt]; rfl) (Runs.run tok hX (by simp [-atD_lt, -atL_lt]; rfl))))) (fun b12_4 => by (try simp at b12_4); exact (Runs.run tok hX (by simp [-atD_lt, -atL_lt]; rfl))) (by rfl) (by rfl) (Runs.step 1 tok hX (by simp; rfl) (Runs.mrgS 4 62 [1, 66] (by simp; rfl) (by rfl) (fun b12_9 => by (try simp at b12_9); exact (Runs.run tok hX (by simp [-atD_lt, -atL_lt]; rfl))) (fun b12_9 => by (try simp at b12_9); exact (Runs.run tok hX (by simp [-atD_lt, -atL_lt]; rfl))) (by rfl) (by rfl) (Runs.step 1 tok hX (by simp; rfl) (Runs.mrgS 4 67 [71] (by simp; rfl) (by rfl) (fun b12_14 => by (try simp at b12_14); exact (Runs.run tok hX (by simp [-atD_lt, -atL_lt]; rfl))) (fun b12_14 => by (try simp at b12_14); exact (Runs.run tok hX (by simp [-atD_lt, -atL_lt]; rfl))) (by rfl) (by rfl) (Runs.run tok hX (by simp; rfl)))))))) ?_
            refine W_ret ?_
            refine W_retR (by simp; rfl) (.of_eq ?_) rfl
            (try simp_all [insRight, insEmpty, isInt, init]) <;> grind
          · (try simp at h11)
            refine W_rseqK [1, 19, 72] (Runs.run tok hX (by simp; rfl)) ?_
            refine W_condS (by simp; rfl) (by rfl) (fun h13 => ?_) (fun h13 => ?_)
            · (try simp at h13)
              refine W_rseqK [2] (Runs.step 4 tok hX (by simp; rfl) (Runs.mrgS 4 77 [1, 81] (by simp; rfl) (by rfl) (fun b14_4 => by (try simp at b14_4); exact (Runs.run tok hX (by simp [-atD_lt, -atL_lt]; rfl))) (fun b14_4 => by (try simp at b14_4); exact (Runs.run tok hX (by simp [-atD_lt, -atL_lt]; rfl))) (by rfl) (by rfl) (Runs.step 1 tok hX (by simp; rfl) (Runs.mrgS 4 82 [1, 86] (by simp; rfl) (by rfl) (fun b14_9 => by (try simp at b14_9); exact (Runs.run tok hX (by simp [-atD_lt, -atL_lt]; rfl))) (fun b14_9 => by (try simp at b14_9); exact (Runs.run tok hX (by simp [-atD_lt, -atL_lt]; rfl))) (by rfl) (by rfl) (Runs.step 1 tok hX (by simp; rfl) (Runs.mrgS 15 87 [102] (by simp; rfl) (by rfl) (fun b14_14 => by (try simp at b14_14); exact (Runs.step 4 tok hX (by simp [-atD_lt, -atL_lt]; rfl) (Runs.mrgS 10 91 [87, 101] (by simp; rfl) (by rfl) (fun b14_18 => by (try simp at b14_18); exact (Runs.run tok hX (by simp [-atD_lt, -atL_lt]; rfl))) (fun b14_18 => by (try simp at b14_18); exact (Runs.step 2 tok hX (by simp [-atD_lt, -atL_lt]; rfl) (Runs.call [] rfl (by simp) rfl (by simp [-atD_lt, -atL_lt]; rfl) (by simp; rfl) (by apply ct_impl_typeRight <;> first | assumption | omega | (simp at *; omega) | simp_all) cb_impl_typeRight (by simp) (by simp) (by simp [-atD_lt, -atL_lt]; rfl) (Runs.step 1 tok hX (by simp [-atD_lt, -atL_lt]; rfl) (Runs.mrgS 5 95 [87, 91, 100] (by simp; rfl) (by rfl) (fun b14_22 => by (try simp at b14_22); (have hlt := (len_of_typeRight b14_22).1; have hat := isAt_lt (n := 76) hlt); exact (Runs.run tok hX (by simp [-atD_lt, -atL_lt, hlt]; rfl))) (fun b14_22 => by (try simp at b14_22); exact (Runs.run tok hX (by simp [-atD_lt, -atL_lt]; rfl))) (by rfl) (by rfl) (Runs.run tok hX (by simp [-atD_lt, -atL_lt]; rfl))))))) (by rfl) (by rfl) (Runs.run tok hX (by simp [-atD_lt, -atL_lt]; rfl))))) (fun b14_14 => by (try simp at b14_14); exact (Runs.run tok hX (by simp [-atD_lt, -atL_lt]; rfl))) (by rfl) (by rfl) (Runs.run tok hX (by simp; rfl)))))))) ?_
              refine W_ret ?_
              refine W_retR (by simp; rfl) (.of_eq ?_) rfl
              have hp := plainType x.desc
              have hq : typeRight x.desc = true → isAt x.desc 0 76 = decide ((atD x.desc 0).toNat = 76) := fun h => by have hlt := (len_of_typeRight h).1; rw [isAt_lt hlt, atD_lt hlt]; simp
              (try simp_all [insRight, insEmpty]) <;> grind
            · (try simp at h13)
              refine W_rseqK [1, 19, 103] (Runs.run tok hX (by simp; rfl)) ?_
              refine W_condS (by simp; rfl) (by rfl) (fun h15 => ?_) (fun h15 => ?_)
              · (try simp at h15)
                refine W_rseqK [2] (Runs.step 4 tok hX (by simp; rfl) (Runs.mrgS 4 108 [1, 112] (by simp; rfl) (by rfl) (fun b16_4 => by (try simp at b16_4); exact (Runs.step 2 tok hX (by simp [-atD_lt, -atL_lt]; rfl) (Runs.call [] rfl (by simp) rfl (by simp [-atD_lt, -atL_lt]; rfl) (by simp; rfl) (by apply ct_impl_NameRight <;> first | assumption | omega | (simp at *; omega) | simp_all) cb_impl_NameRight (by simp) (by simp) (by simp [-atD_lt, -atL_lt]; rfl) (Runs.run tok hX (by simp [-atD_lt, -atL_lt]; rfl))))) (fun b16_4 => by (try simp at b16_4); exact (Runs.run tok hX (by simp [-atD_lt, -atL_lt]; rfl))) (by rfl) (by rfl) (Runs.step 1 tok hX (by simp; rfl) (Runs.mrgS 4 113 [1, 117] (by simp; rfl) (by rfl) (fun b16_9 => by (try simp at b16_9); exact (Runs.step 2 tok hX (by simp [-atD_lt, -atL_lt]; rfl) (Runs.call [] rfl (by simp) rfl (by simp [-atD_lt, -atL_lt]; rfl) (by simp; rfl) (by apply ct_impl_NameRight <;> first | assumption | omega | (simp at *; omega) | simp_all) cb_impl_NameRight (by simp) (by simp) (by simp [-atD_lt, -atL_lt]; rfl) (Runs.run tok hX (by simp [-atD_lt, -atL_lt]; rfl))))) (fun b16_9 => by (try simp at b16_9); exact (Runs.run tok hX (by simp [-atD_lt, -atL_lt]; rfl))) (by rfl) (by rfl) (Runs.step 1 tok hX (by simp; rfl) (Runs.mrgS 4 118 [122] (by simp; rfl) (by rfl) (fun b16_14 => by (try simp at b16_14); exact (Runs.step 2 tok hX (by simp [-atD_lt, -atL_lt]; rfl) (Runs.call [] rfl (by simp) rfl (by simp [-atD_lt, -atL_lt]; rfl) (by simp; rfl) (by apply ct_impl_typeRight <;> first | assumption | omega | (simp at *; omega) | simp_all) cb_impl_typeRight (by simp) (by simp) (by simp [-atD_lt, -atL_lt]; rfl) (Runs.run tok hX (by simp [-atD_lt, -atL_lt]; rfl))))) (fun b16_14 => by (try simp at b16_14); exact (Runs.run tok hX (by simp [-atD_lt, -atL_lt]; rfl))) (by rfl) (by rfl) (Runs.run tok hX (by simp; rfl)))))))) ?_
                refine W_ret ?_
                refine W_retR (by simp; rfl) (.of_eq ?_) rfl
                (try simp_all [insRight, insEmpty, isInt, init]) <;> grind
              · (try simp at h15)
                refine W_rseqK [1, 123] (Runs.run tok hX (by simp; rfl)) ?_
                refine W_condS (by simp; rfl) (by rfl) (fun h17 => ?_) (fun h17 => ?_)
                · (try simp at h17)
                  refine W_rseqK [2] (Runs.step 4 tok hX (by simp; rfl) (Runs.mrgS 4 128 [1, 132] (by simp; rfl) (by rfl) (fun b18_4 => by (try simp at b18_4); exact (Runs.step 2 tok hX (by simp [-atD_lt, -atL_lt]; rfl) (Runs.call [] rfl (by simp) rfl (by simp [-atD_lt, -atL_lt]; rfl) (by simp; rfl) (by apply ct_impl_NameRight <;> first | assumption | omega | (simp at *; omega) | simp_all) cb_impl_NameRight (by simp) (by simp) (by simp [-atD_lt, -atL_lt]; rfl) (Runs.run tok hX (by simp [-atD_lt, -atL_lt]; rfl))))) (fun b18_4 => by (try simp at b18_4); exact (Runs.run tok hX (by simp [-atD_lt, -atL_lt]; rfl))) (by rfl) (by rfl) (Runs.step 1 tok hX (by simp; rfl) (Runs.mrgS 4 133 [1, 137] (by simp; rfl) (by rfl) (fun b18_9 => by (try simp at b18_9); exact (Runs.step 2 tok hX (by simp [-atD_lt, -atL_lt]; rfl) (Runs.call [] rfl (by simp) rfl (by simp [-atD_lt, -atL_lt]; rfl) (by simp; rfl) (by apply ct_impl_isMethodName <;> first | assumption | omega | (simp at *; omega) | simp_all) cb_impl_isMethodName (by simp) (by simp) (by simp [-atD_lt, -atL_lt]; rfl) (Runs.run tok hX (by simp [-atD_lt, -atL_lt]; rfl))))) (fun b18_9 => by (try simp at b18_9); exact (Runs.run tok hX (by simp [-atD_lt, -atL_lt]; rfl))) (by rfl) (by rfl) (Runs.step 1 tok hX (by simp; rfl) (Runs.mrgS 4 138 [142] (by simp; rfl) (by rfl) (fun b18_14 => by (try simp at b18_14); exact (Runs.step 2 tok hX (by simp [-atD_lt, -atL_lt]; rfl) (Runs.call [] rfl (by simp) rfl (by simp [-atD_lt, -atL_lt]; rfl) (by simp; rfl) (by apply ct_impl_isDesc <;> first | assumption | omega | (simp at *; omega) | simp_all) cb_impl_isDesc (by simp) (by simp) (by simp [-atD_lt, -atL_lt]; rfl) (Runs.run tok hX (by simp [-atD_lt, -atL_lt]; rfl))))) (fun b18_14 => by (try simp at b18_14); exact (Runs.run tok hX (by simp [-atD_lt, -atL_lt]; rfl))) (by rfl) (by rfl) (Runs.run tok hX (by simp; rfl)))))))) ?_
                  refine W_ret ?_
                  refine W_retR (by simp; rfl) (.of_eq ?_) rfl
                  (try simp_all [insRight, insEmpty, isInt, init]) <;> grind
                · (try simp at h17)
                  refine W_skip ?_
                  refine W_rseqK [2] (Runs.run tok hX (by simp; rfl)) ?_
                  refine W_ret ?_
                  refine W_retR (by simp; rfl) (.of_eq ?_) rfl
                  (try simp_all [insRight, insEmpty, isInt, init]) <;> grind
end Go.Proofs
namespace Go.Proofs
open Go Go.Ev


theorem cb_impl_codeRight_1 : Callable Tryz.prog 167 := ⟨_, Tryz.func167, by kernel_rfl, by kernel_rfl⟩
set_option maxHeartbeats 2000000 in
set_option maxRecDepth 100000 in
theorem ct_impl_codeRight_1 {x : Hdl} {n : Int} (h : x.cls.length ≤ 1099511627776) (hn0 : 0 ≤ n) (hn : n ≤ 1099511627776) : Ct Tryz.prog 167 [eH x, .fp [.int .i64 n]] [] (.bool (!hdlRight n x)) [] := by
  refine Ct_bodyS tok Tryz.func167 rfl 34 (by kernel_rfl) (by kernel_rfl) fun X hX => ?_
  refine W_rseqK [1, 2] (Runs.run tok hX (by simp; rfl)) ?_
  refine W_rseqK [3] (Runs.step 4 tok hX (by simp; rfl) (Runs.mrgS 6 7 [1, 2, 13] (by simp; rfl) (by rfl) (fun b1_4 => by (try simp at b1_4); exact (Runs.run tok hX (by simp [-atD_lt, -atL_lt]; rfl))) (fun b1_4 => by (try simp at b1_4); exact (Runs.run tok hX (by simp [-atD_lt, -atL_lt, b1_4]; rfl))) (by rfl) (by rfl) (Runs.step 1 tok hX (by simp; rfl) (Runs.mrgS 5 14 [1, 2, 19] (by simp; rfl) (by rfl) (fun b1_11 => by (try simp at b1_11); exact (Runs.run tok hX (by simp [-atD_lt, -atL_lt]; rfl))) (fun b1_11 => by (try simp at b1_11); exact (Runs.run tok hX (by simp [-atD_lt, -atL_lt, b1_11]; rfl))) (by rfl) (by rfl) (Runs.step 1 tok hX (by simp; rfl) (Runs.mrgS 7 20 [2, 27] (by simp; rfl) (by rfl) (fun b1_17 => by (try simp at b1_17); exact (Runs.run tok hX (by simp [-atD_lt, -atL_lt]; rfl))) (fun b1_17 => by (try simp at b1_17); exact (Runs.step 4 tok hX (by simp [-atD_lt, -atL_lt, b1_17]; (try (simp (disch := omega) only [wrap_i64]; (try simp [-atD_lt, -atL_lt, b1_17]))); rfl) (Runs.call [] rfl (by simp) rfl (by simp [-atD_lt, -atL_lt, b1_17]; rfl) (by simp; rfl) (by apply ct_impl_within <;> first | assumption | omega | (simp at *; omega) | simp_all) cb_impl_within (by simp) (by simp) (by simp [-atD_lt, -atL_lt, b1_17]; rfl) (Runs.run tok hX (by simp [-atD_lt, -atL_lt]; rfl))))) (by rfl) (by rfl) (Runs.step 1 tok hX (by simp; rfl) (Runs.mrgS 5 28 [33] (by simp; rfl) (by rfl) (fun b1_25 => by (try simp at b1_25); exact (Runs.run tok hX (by simp [-atD_lt, -atL_lt]; rfl))) (fun b1_25 => by (try simp at b1_25); exact (Runs.step 2 tok hX (by simp [-atD_lt, -atL_lt, b1_25]; rfl) (Runs.call [] rfl (by simp) rfl (by simp [-atD_lt, -atL_lt, b1_25]; rfl) (by simp; rfl) (by apply ct_impl_NameRight <;> first | assumption | omega | (simp at *; omega) | simp_all) cb_impl_NameRight (by simp) (by simp) (by simp [-atD_lt, -atL_lt, b1_25]; rfl) (Runs.run tok hX (by simp [-atD_lt, -atL_lt]; rfl))))) (by rfl) (by rfl) (Runs.run tok hX (by simp; rfl)))))))))) ?_
  refine W_ret ?_
  refine W_retR (by simp; rfl) (.of_eq ?_) rfl
  (try simp_all [hdlRight]) <;> grind
end Go.Proofs
namespace Go.Proofs
open Go Go.Ev


theorem cb_slices_IndexFunc_impl_Handler_impl_Handler : Callable Tryz.prog 174 := ⟨_, Tryz.func174, by kernel_rfl, by kernel_rfl⟩
set_option maxHeartbeats 2000000 in
set_option maxRecDepth 100000 in
theorem ct_slices_IndexFunc_impl_Handler_impl_Handler {n : Int} (hn0 : 0 ≤ n) (hn : n ≤ 1099511627776) {l : List Hdl} (hl : l.length ≤ 1099511627776) (hs : ∀ x ∈ l, x.cls.length ≤ 1099511627776) : Ct Tryz.prog 174 [.lst false 4 (l.map eH), .clo (.func 167) [] [.fp [.int .i64 n]]] [] (.int .i64 (fix (fun x => !hdlRight n x) l)) [] := by
  refine Ct_bodyS tok Tryz.func174 rfl 19 (by kernel_rfl) (by kernel_rfl) fun X hX => ?_
  refine W_rseqK [0, 1] (Runs.run tok hX (by simp; rfl)) ?_
  refine W_seq ?_
  refine W_rseqK [0, 1, 7, 8] (Runs.run tok hX (by simp; rfl)) ?_
  refine W_block ?_
  -- loop 0: live [0, 1, 7, 8]
  refine W_loopU (α := Nat) [0, 1, 7, 8] (fun i => [(8, .int .i64 i)]) (fun i => []) (fun i => i ≤ l.length ∧ ∀ x ∈ l.take i, (fun x => !hdlRight n x) x = false) (fun i => l.length - i) (0) (fun i => by simp; rfl) (by simp) ?_ ?_
  · simp
  rintro i ⟨hi, hI⟩
  refine W_rseqK [0, 1, 7, 8, 9] (Runs.run tok hX (by simp; rfl)) ?_
  refine W_seq ?_
  refine W_condS (by simp; rfl) (by rfl) (fun h2 => ?_) (fun h2 => ?_)
  · (try simp at h2)
    refine W_skip ?_
    refine W_seq ?_
    refine W_block ?_
    refine W_rseqK [0, 1, 5, 7, 8] (Runs.run tok hX (by simp; rfl)) ?_
    refine W_rseqK [0, 1, 5, 7, 8, 16] (Runs.step 5 tok hX (by simp [h2]; rfl) (Runs.call [] rfl (by simp) rfl (by simp [h2]; rfl) (by simp; rfl) (by apply ct_impl_codeRight_1 <;> first | assumption | exact hs _ (List.getElem_mem h2) | omega) cb_impl_codeRight_1 (by simp) (by simp) (by simp [h2]; rfl) (Runs.fin (by (try simp); rfl)))) ?_
    refine W_condS (by simp; rfl) (by rfl) (fun h4 => ?_) (fun h4 => ?_)
    · (try simp at h4)
      refine W_rseqK [4] (Runs.run tok hX (by simp; rfl)) ?_
      refine W_ret ?_
      refine W_retR (by simp [h2]; rfl) (.of_eq ?_) rfl
      rw [fix_hit h2 hI (by simpa using h4)]
    · (try simp at h4)
      refine W_skip ?_
      refine W_reg (Runs.run tok hX (by simp; (try (simp (disch := omega) only [wrap_i64]; (try simp))); rfl)) ?_
      refine round_end (i + 1) [0, 1, 7, 8] (by simp [h2]; try (simp (disch := omega) only [wrap_i64])) ?_ ?_
      · exact ⟨by omega, take_not h2 hI (by simpa using h4)⟩
      · omega
  · (try simp at h2)
    refine W_exit ?_
    refine W_rseqK [4] (Runs.run tok hX (by simp; rfl)) ?_
    refine W_ret ?_
    refine W_retR (by simp [h2]; rfl) (.of_eq ?_) rfl
    rw [fix_none (p := fun x => !hdlRight n x) (fun x hx => hI x (by rw [List.take_of_length_le h2]; exact hx))]
end Go.Proofs
namespace Go.Proofs
open Go Go.Ev


theorem cb_slices_ContainsFunc_impl_Handler_impl_Handler : Callable Tryz.prog 166 := ⟨_, Tryz.func166, by kernel_rfl, by kernel_rfl⟩
set_option maxHeartbeats 2000000 in
set_option maxRecDepth 100000 in
theorem ct_slices_ContainsFunc_impl_Handler_impl_Handler {n : Int} (hn0 : 0 ≤ n) (hn : n ≤ 1099511627776) {l : List Hdl} (hl : l.length ≤ 1099511627776) (hs : ∀ x ∈ l, x.cls.length ≤ 1099511627776) : Ct Tryz.prog 166 [.lst false 4 (l.map eH), .clo (.func 167) [] [.fp [.int .i64 n]]] [] (.bool (l.any (fun x => !hdlRight n x))) [] := by
  refine Ct_bodyS tok Tryz.func166 rfl 9 (by kernel_rfl) (by kernel_rfl) fun X hX => ?_
  refine W_rseqK [0, 1] (Runs.run tok hX (by simp; rfl)) ?_
  refine W_rseqK [4] (Runs.step 2 tok hX (by simp; rfl) (Runs.call [] rfl (by simp) rfl (by simp; rfl) (by simp; rfl) (by apply ct_slices_IndexFunc_impl_Handler_impl_Handler <;> first | assumption | omega | (simp at *; omega) | simp_all) cb_slices_IndexFunc_impl_Handler_impl_Handler (by simp) (by simp) (by simp; rfl) (Runs.run tok hX (by simp; rfl)))) ?_
  refine W_ret ?_
  refine W_retR (by simp; rfl) (.of_eq ?_) rfl
  rw [← fix_ge]
end Go.Proofs
namespace Go.Proofs
open Go Go.Ev


theorem cb_impl_codeRight : Callable Tryz.prog 147 := ⟨_, Tryz.func147, by kernel_rfl, by kernel_rfl⟩
set_option maxHeartbeats 2000000 in
set_option maxRecDepth 100000 in
theorem ct_impl_codeRight {x : Mth} (h : sizeM x ≤ 1099511627776) : Ct Tryz.prog 147 [eM x] [] (.bool (codeR x)) [] := by
  unfold codeR
  simp only [sizeM] at h
  refine Ct_bodyS tok Tryz.func147 rfl 46 (by kernel_rfl) (by kernel_rfl) fun X hX => ?_
  refine W_rseqK [1] (Runs.run tok hX (by simp; rfl)) ?_
  refine W_rseqK [1, 3] (Runs.step 2 tok hX (by simp; rfl) (Runs.call [] rfl (by simp) rfl (by simp; rfl) (by simp; rfl) (by apply ct_impl_size_impl_Ins <;> first | assumption | omega | (have := mem_sum (f := sizeI) (List.getElem_mem (l := x.code) (n := i) (by omega)); simp only [sizeI] at *; omega)) cb_impl_size_impl_Ins (by simp) (by simp) (by simp; rfl) (Runs.run tok hX (by simp; rfl)))) ?_
  refine W_seq ?_
  refine W_rseqK [1, 3, 17] (Runs.step 1 tok hX (by simp; rfl) (Runs.call [] rfl (by simp) rfl (by simp; rfl) (by simp; rfl) (by apply ct_impl_within <;> first | assumption | omega | (have := mem_sum (f := sizeI) (List.getElem_mem (l := x.code) (n := i) (by omega)); simp only [sizeI] at *; omega)) cb_impl_within (by simp) (by simp) (by simp; rfl) (Runs.step 2 tok hX (by simp; rfl) (Runs.mrgS 5 12 [1, 3, 17] (by simp; rfl) (by rfl) (fun b2_4 => by (try simp at b2_4); exact (Runs.run tok hX (by simp [-atD_lt, -atL_lt]; rfl))) (fun b2_4 => by (try simp at b2_4); exact (Runs.run tok hX (by simp [-atD_lt, -atL_lt]; rfl))) (by rfl) (by rfl) (Runs.fin (by (try simp); rfl)))))) ?_
  refine W_condS (by simp; rfl) (by rfl) (fun h2 => ?_) (fun h2 => ?_)
  · (try simp at h2)
    refine W_rseqK [2] (Runs.run tok hX (by simp; rfl)) ?_
    refine W_ret ?_
    refine W_retR (by simp [h2]; rfl) (.of_eq ?_) rfl
    have h2b : x.code.length < 1 ∨ 60 < x.code.length ∨ 6 < x.hdls.length := by
      rcases h2 with (h | h) | h
      · simp [h]
      · omega
      · omega
    rw [decide_eq_true h2b]; rfl
  · (try simp at h2)
    refine W_skip ?_
    refine W_seq ?_
    refine W_rseqK [1, 3, 19, 20, 21] (Runs.run tok hX (by simp [h2]; rfl)) ?_
    refine W_block ?_
    -- loop 0: live [1, 3, 19, 20, 21]
    refine W_loopU (α := Nat) [1, 3, 19, 20, 21] (fun i => [(21, .int .i64 i)]) (fun i => []) (fun i => i ≤ x.code.length ∧ (x.code.drop i).all (codeOK x.code.length) = x.code.all (codeOK x.code.length)) (fun i => x.code.length - i) (0) (fun i => by simp; rfl) (by simp) ?_ ?_
    · simp
    rintro i ⟨hi, hI⟩
    refine W_rseqK [1, 3, 19, 20, 21, 22] (Runs.run tok hX (by simp; rfl)) ?_
    refine W_seq ?_
    refine W_condS (by simp; rfl) (by rfl) (fun h5 => ?_) (fun h5 => ?_)
    · (try simp at h5)
      rw [all_drop h5] at hI
      refine W_skip ?_
      refine W_seq ?_
      refine W_block ?_
      refine W_rseqK [1, 3, 5, 19, 20, 21] (Runs.run tok hX (by simp [h2, h5]; rfl)) ?_
      refine W_rseqK [1, 3, 19, 20, 21, 39] (Runs.step 1 tok hX (by simp [h2, h5]; rfl) (Runs.call [] rfl (by simp) rfl (by simp [h2, h5]; rfl) (by simp; rfl) (by apply ct_impl_InsRight <;> first | assumption | omega | (have := mem_sum (f := sizeI) (List.getElem_mem (l := x.code) (n := i) (by omega)); simp only [sizeI] at *; omega)) cb_impl_InsRight (by simp) (by simp) (by simp [h2, h5]; rfl) (Runs.step 2 tok hX (by simp; rfl) (Runs.mrgS 11 28 [1, 3, 19, 20, 21, 39] (by simp; rfl) (by rfl) (fun b7_4 => by (try simp at b7_4); exact (Runs.run tok hX (by simp [-atD_lt, -atL_lt]; rfl))) (fun b7_4 => by (try simp at b7_4); exact (Runs.step 2 tok hX (by simp [-atD_lt, -atL_lt, h2, h5]; rfl) (Runs.call [] rfl (by simp) rfl (by simp [-atD_lt, -atL_lt, h2, h5]; rfl) (by simp; rfl) (by apply ct_impl_OpForm <;> first | assumption | omega | (have := mem_sum (f := sizeI) (List.getElem_mem (l := x.code) (n := i) (by omega)); simp only [sizeI] at *; omega)) cb_impl_OpForm (by simp) (by simp) (by simp [-atD_lt, -atL_lt, h2, h5]; rfl) (Runs.step 2 tok hX (by simp [-atD_lt, -atL_lt]; rfl) (Runs.mrgS 5 33 [1, 3, 19, 20, 21, 28, 38] (by simp; rfl) (by rfl) (fun b7_9 => by (try simp at b7_9); exact (Runs.run tok hX (by simp [-atD_lt, -atL_lt, h2, h5]; rfl))) (fun b7_9 => by (try simp at b7_9); exact (Runs.run tok hX (by simp [-atD_lt, -atL_lt]; rfl))) (by rfl) (by rfl) (Runs.run tok hX (by simp [-atD_lt, -atL_lt]; rfl))))))) (by rfl) (by rfl) (Runs.fin (by (try simp); rfl)))))) ?_
      refine W_condS (by simp; rfl) (by rfl) (fun h7 => ?_) (fun h7 => ?_)
      · (try simp at h7)
        refine W_rseqK [2] (Runs.run tok hX (by simp; rfl)) ?_
        refine W_ret ?_
        refine W_retR (by simp [h2, h5, h7]; rfl) (.of_eq ?_) rfl
        have : codeOK x.code.length x.code[i] = false := by unfold codeOK; grind
        simp [← hI, this]
      · (try simp at h7)
        have h7b : codeOK x.code.length x.code[i] = true := by unfold codeOK; grind
        rw [h7b, Bool.true_and] at hI
        refine W_skip ?_
        refine W_reg (Runs.run tok hX (by simp; (try (simp (disch := omega) only [wrap_i64]; (try simp))); rfl)) ?_
        refine round_endT (i + 1) [1, 3, 19, 20, 21] 2 (by simp [hX]) (by simp) (by simp [h2, h5, h7]; try (simp (disch := omega) only [wrap_i64])) ?_ ?_
        · exact ⟨by omega, hI⟩
        · omega
    · (try simp at h5)
      rw [List.drop_eq_nil_of_le h5] at hI
      refine W_exit ?_
      refine W_rseqK [2] (Runs.step 3 tok hX (by simp [h2, h5]; rfl) (Runs.callB rfl (by simp) rfl (by simp [h2, h5]; rfl) (by apply ct_slices_ContainsFunc_impl_Handler_impl_Handler <;> first | assumption | omega | (intro y hy; have := mem_sum (f := sizeH) hy; simp only [sizeH] at *; omega)) cb_slices_ContainsFunc_impl_Handler_impl_Handler (by simp) (by simp [h2, h5]; rfl) (Runs.run tok hX (by simp; rfl)))) ?_
      refine W_ret ?_
      refine W_retR (by simp [h2, h5]; rfl) (.of_eq ?_) rfl
      have h2b : ¬ (x.code.length < 1 ∨ 60 < x.code.length ∨ 6 < x.hdls.length) := by omega
      rw [decide_eq_false h2b, ← hI]
      simp only [List.all_nil, Bool.true_and, Bool.not_false]
      congr 1
      rw [Bool.eq_iff_iff]
      simp
end Go.Proofs
namespace Go.Proofs
open Go Go.Ev


theorem cb_impl_DescRead : Callable Tryz.prog 175 := ⟨_, Tryz.func175, by kernel_rfl, by kernel_rfl⟩
set_option maxHeartbeats 2000000 in
set_option maxRecDepth 100000 in
theorem ct_impl_DescRead {t : Str} (ht : t.length ≤ 1099511627776) : Ct Tryz.prog 175 [.str t] [] (eDO (descRead t)) [] := by
  refine Ct_bodyS tok Tryz.func175 rfl 10 (by kernel_rfl) (by kernel_rfl) fun X hX => ?_
  refine W_rseqK [0, 2] (Runs.run tok hX (by simp; rfl)) ?_
  refine W_seq ?_
  refine W_rseqK [0, 2, 6] (Runs.step 2 tok hX (by simp; rfl) (Runs.callB rfl (by simp) rfl (by simp; rfl) (by apply (ct_impl_isText (l := [t])) <;> simp) cb_impl_isText (by simp) (by simp; rfl) (Runs.run tok hX (by simp; rfl)))) ?_
  refine W_condS (by simp; rfl) (by rfl) (fun h1 => ?_) (fun h1 => ?_)
  · (try simp at h1)
    refine W_rseqK [2] (Runs.run tok hX (by simp; rfl)) ?_
    refine W_ret ?_
    refine W_retR (by simp; rfl) ?_ rfl
    rw [show descRead t = ⟨[], [], 0, 2⟩ from by unfold descRead; rw [if_pos (by simpa using h1)]]
    exact wk_err _ _ _
  · (try simp at h1)
    refine W_skip ?_
    refine W_rseqK [2] (Runs.step 1 tok hX (by simp; rfl) (Runs.call [] rfl (by simp) rfl (by simp; rfl) (by simp; rfl) (by apply ct_impl_descRead <;> first | assumption | omega | (simp at *; omega) | simp_all) cb_impl_descRead (by simp) (by simp) (by simp; rfl) (Runs.run tok hX (by simp; rfl)))) ?_
    refine W_ret ?_
    refine W_retR (by simp; rfl) ?_ rfl
    rw [show descRead t = dRead t from by unfold descRead; rw [if_neg (by simpa using h1)]]
    exact Wk.refl _
end Go.Proofs
namespace Go.Proofs
open Go Go.Ev


theorem cb_impl_size_string : Callable Tryz.prog 176 := ⟨_, Tryz.func176, by kernel_rfl, by kernel_rfl⟩
set_option maxHeartbeats 2000000 in
set_option maxRecDepth 100000 in
theorem ct_impl_size_string {l : List Str} : Ct Tryz.prog 176 [.lst false 1 (l.map V.str)] [] (.int .i64 l.length) [] := by
  refine Ct_bodyS tok Tryz.func176 rfl 5 (by kernel_rfl) (by kernel_rfl) fun X hX => ?_
  refine W_rseqK [0] (Runs.run tok hX (by simp; rfl)) ?_
  refine W_rseqK [2] (Runs.run tok hX (by simp; rfl)) ?_
  refine W_ret ?_
  refine W_retR (by simp; rfl) (.of_eq ?_) rfl
  simp
end Go.Proofs
namespace Go.Proofs
open Go Go.Ev


theorem cb_impl_DescSlots : Callable Tryz.prog 168 := ⟨_, Tryz.func168, by kernel_rfl, by kernel_rfl⟩
set_option maxHeartbeats 2000000 in
set_option maxRecDepth 100000 in
theorem ct_impl_DescSlots {t : Str} (ht : t.length ≤ 1099511627776) : Ct Tryz.prog 168 [.str t] [] (.int .i64 (dSlots t)) [] := by
  have hd8 := descRead_le t
  refine Ct_bodyS tok Tryz.func168 rfl 13 (by kernel_rfl) (by kernel_rfl) fun X hX => ?_
  refine W_rseqK [0] (Runs.run tok hX (by simp; rfl)) ?_
  refine W_rseqK [3] (Runs.step 1 tok hX (by simp; rfl) (Runs.callF rfl (by simp) rfl (by simp; rfl) (by apply ct_impl_DescRead <;> first | assumption | omega) cb_impl_DescRead (by simp; rfl) (Runs.run tok hX (by simp; rfl)))) ?_
  refine W_seq ?_
  refine W_rseqK [3, 8] (Runs.run tok hX (by simp; rfl)) ?_
  refine W_condS (by simp; rfl) (by rfl) (fun h2 => ?_) (fun h2 => ?_)
  · (try simp at h2)
    refine W_rseqK [2] (Runs.run tok hX (by simp; rfl)) ?_
    refine W_ret ?_
    refine W_retR (by simp; rfl) (.of_eq ?_) rfl
    simp_all [dSlots]
  · (try simp at h2)
    refine W_skip ?_
    refine W_rseqK [2] (Runs.step 3 tok hX (by simp; rfl) (Runs.call [] rfl (by simp) rfl (by simp; rfl) (by simp; rfl) (by apply ct_impl_size_string <;> first | assumption | omega) cb_impl_size_string (by simp) (by simp) (by simp; rfl) (Runs.run tok hX (by simp; rfl)))) ?_
    refine W_ret ?_
    refine W_retR (by simp; rfl) (.of_eq ?_) rfl
    simp_all [dSlots]
end Go.Proofs
namespace Go.Proofs
open Go Go.Ev


theorem cb_impl_Method_slots : Callable Tryz.prog 148 := ⟨_, Tryz.func148, by kernel_rfl, by kernel_rfl⟩
set_option maxHeartbeats 2000000 in
set_option maxRecDepth 100000 in
theorem ct_impl_Method_slots {x : Mth} (h : x.desc.length ≤ 1099511627776) : Ct Tryz.prog 148 [eM x] [] (.int .i64 (dSlots x.desc + if x.static = true then 0 else 1)) [] := by
  refine Ct_bodyS tok Tryz.func148 rfl 13 (by kernel_rfl) (by kernel_rfl) fun X hX => ?_
  refine W_rseqK [1] (Runs.run tok hX (by simp; rfl)) ?_
  refine W_rseqK [1, 3] (Runs.step 2 tok hX (by simp; rfl) (Runs.call [] rfl (by simp) rfl (by simp; rfl) (by simp; rfl) (by apply ct_impl_DescSlots <;> first | assumption | omega | (simp at *; omega) | simp_all) cb_impl_DescSlots (by simp) (by simp) (by simp; rfl) (Runs.run tok hX (by simp; rfl)))) ?_
  have hd8 := dSlots_le x.desc
  have hw : IntKind.i64.wrap (dSlots x.desc + 1) = dSlots x.desc + 1 := wrap_i64 (by omega) (by omega)
  refine W_seq ?_
  refine W_rseqK [3, 9] (Runs.run tok hX (by simp; rfl)) ?_
  refine' W_condS3 [3] (by simp; rfl) (by rfl) (fun h2 => ?a1_1) (fun h2 => ?a0_1) ?ak_1
  case a1_1 =>
    (try simp at h2)
    refine W_reg (Runs.run tok hX (by simp; (try (simp (disch := omega) only [wrap_i64]; (try simp))); rfl)) ?_
    exact ⟨rfl, Eq.trans (by (try simp); rfl) (by rfl)⟩
  case a0_1 =>
    (try simp at h2)
    refine W_skip ?_
    exact ⟨rfl, Eq.trans (by (try simp); rfl) (by rfl)⟩
  case ak_1 =>
    refine W_le (Le.of_eq (by simp; rfl)) ?_
    refine W_rseqK [2] (Runs.run tok hX (by simp; rfl)) ?_
    refine W_ret ?_
    refine W_retR (by simp; rfl) (.of_eq ?_) rfl
    cases hst : x.static <;> simp_all
end Go.Proofs
namespace Go.Proofs
open Go Go.Ev


theorem cb_impl_MethodRight : Callable Tryz.prog 119 := ⟨_, Tryz.func119, by kernel_rfl, by kernel_rfl⟩
set_option maxHeartbeats 2000000 in
set_option maxRecDepth 100000 in
theorem ct_impl_MethodRight {x : Mth} (h : sizeM x ≤ 1099511627776) : Ct Tryz.prog 119 [eM x] [] (.bool (mthRight x)) [] := by
  have hM := h
  simp only [sizeM] at h
  refine Ct_bodyS tok Tryz.func119 rfl 93 (by kernel_rfl) (by kernel_rfl) fun X hX => ?_
  refine W_rseqK [1] (Runs.run tok hX (by simp; rfl)) ?_
  refine W_seq ?_
  refine W_rseqK [1, 24] (Runs.step 2 tok hX (by simp; rfl) (Runs.call [] rfl (by simp) rfl (by simp; rfl) (by simp; rfl) (by apply ct_impl_isMethodName <;> first | assumption | omega | (simp at *; omega) | simp_all) cb_impl_isMethodName (by simp) (by simp) (by simp; rfl) (Runs.step 2 tok hX (by simp; rfl) (Runs.mrgS 5 7 [1, 12] (by simp; rfl) (by rfl) (fun b1_5 => by (try simp at b1_5); exact (Runs.run tok hX (by simp [-atD_lt, -atL_lt]; rfl))) (fun b1_5 => by (try simp at b1_5); exact (Runs.step 2 tok hX (by simp [-atD_lt, -atL_lt]; rfl) (Runs.call [] rfl (by simp) rfl (by simp [-atD_lt, -atL_lt]; rfl) (by simp; rfl) (by apply ct_impl_isDesc <;> first | assumption | omega | (simp at *; omega) | simp_all) cb_impl_isDesc (by simp) (by simp) (by simp [-atD_lt, -atL_lt]; rfl) (Runs.run tok hX (by simp [-atD_lt, -atL_lt]; rfl))))) (by rfl) (by rfl) (Runs.step 1 tok hX (by simp; rfl) (Runs.mrgS 5 13 [1, 18] (by simp; rfl) (by rfl) (fun b1_11 => by (try simp at b1_11); exact (Runs.run tok hX (by simp [-atD_lt, -atL_lt]; rfl))) (fun b1_11 => by (try simp at b1_11); exact (Runs.step 2 tok hX (by simp [-atD_lt, -atL_lt]; rfl) (Runs.call [] rfl (by simp) rfl (by simp [-atD_lt, -atL_lt]; rfl) (by simp; rfl) (by apply ct_impl_within <;> first | assumption | omega | (simp at *; omega) | simp_all) cb_impl_within (by simp) (by simp) (by simp [-atD_lt, -atL_lt]; rfl) (Runs.run tok hX (by simp [-atD_lt, -atL_lt]; rfl))))) (by rfl) (by rfl) (Runs.step 1 tok hX (by simp; rfl) (Runs.mrgS 5 19 [1, 24] (by simp; rfl) (by rfl) (fun b1_17 => by (try simp at b1_17); exact (Runs.run tok hX (by simp [-atD_lt, -atL_lt]; rfl))) (fun b1_17 => by (try simp at b1_17); exact (Runs.step 2 tok hX (by simp [-atD_lt, -atL_lt]; rfl) (Runs.call [] rfl (by simp) rfl (by simp [-atD_lt, -atL_lt]; rfl) (by simp; rfl) (by apply ct_impl_within <;> first | assumption | omega | (simp at *; omega) | simp_all) cb_impl_within (by simp) (by simp) (by simp [-atD_lt, -atL_lt]; rfl) (Runs.run tok hX (by simp [-atD_lt, -atL_lt]; rfl))))) (by rfl) (by rfl) (Runs.fin (by (try simp); rfl)))))))))) ?_
  refine W_condS (by simp; rfl) (by rfl) (fun h1 => ?_) (fun h1 => ?_)
  · (try simp at h1)
    have hh : mthHead x = false := by unfold mthHead; grind
    refine W_rseqK [2] (Runs.run tok hX (by simp; rfl)) ?_
    refine W_ret ?_
    refine W_retR (by simp; rfl) (.of_eq ?_) rfl
    rw [mthRight_no hh]
  · (try simp at h1)
    have hh : mthHead x = true := by unfold mthHead; grind
    refine W_skip ?_
    refine W_seq ?_
    refine W_rseqK [1, 26] (Runs.run tok hX (by simp; rfl)) ?_
    refine W_condS (by simp; rfl) (by rfl) (fun h3 => ?_) (fun h3 => ?_)
    · (try simp at h3)
      refine W_rseqK [2] (Runs.step 4 tok hX (by simp; rfl) (Runs.mrgS 4 30 [1, 34] (by simp; rfl) (by rfl) (fun b4_4 => by (try simp at b4_4); exact (Runs.run tok hX (by simp [-atD_lt, -atL_lt]; rfl))) (fun b4_4 => by (try simp at b4_4); exact (Runs.run tok hX (by simp [-atD_lt, -atL_lt]; rfl))) (by rfl) (by rfl) (Runs.step 1 tok hX (by simp; rfl) (Runs.mrgS 5 35 [1, 40] (by simp; rfl) (by rfl) (fun b4_9 => by (try simp at b4_9); exact (Runs.run tok hX (by simp [-atD_lt, -atL_lt]; rfl))) (fun b4_9 => by (try simp at b4_9); exact (Runs.run tok hX (by simp [-atD_lt, -atL_lt]; rfl))) (by rfl) (by rfl) (Runs.step 1 tok hX (by simp; rfl) (Runs.mrgS 5 41 [1, 46] (by simp; rfl) (by rfl) (fun b4_15 => by (try simp at b4_15); exact (Runs.run tok hX (by simp [-atD_lt, -atL_lt]; rfl))) (fun b4_15 => by (try simp at b4_15); exact (Runs.run tok hX (by simp [-atD_lt, -atL_lt]; rfl))) (by rfl) (by rfl) (Runs.step 1 tok hX (by simp; rfl) (Runs.mrgS 4 47 [1, 51] (by simp; rfl) (by rfl) (fun b4_21 => by (try simp at b4_21); exact (Runs.run tok hX (by simp [-atD_lt, -atL_lt]; rfl))) (fun b4_21 => by (try simp at b4_21); exact (Runs.run tok hX (by simp [-atD_lt, -atL_lt]; rfl))) (by rfl) (by rfl) (Runs.step 1 tok hX (by simp; rfl) (Runs.mrgS 4 52 [1, 56] (by simp; rfl) (by rfl) (fun b4_26 => by (try simp at b4_26); exact (Runs.run tok hX (by simp [-atD_lt, -atL_lt]; rfl))) (fun b4_26 => by (try simp at b4_26); exact (Runs.run tok hX (by simp [-atD_lt, -atL_lt]; rfl))) (by rfl) (by rfl) (Runs.step 1 tok hX (by simp; rfl) (Runs.mrgS 4 57 [61] (by simp; rfl) (by rfl) (fun b4_31 => by (try simp at b4_31); exact (Runs.run tok hX (by simp [-atD_lt, -atL_lt]; rfl))) (fun b4_31 => by (try simp at b4_31); exact (Runs.run tok hX (by simp [-atD_lt, -atL_lt]; rfl))) (by rfl) (by rfl) (Runs.run tok hX (by simp; rfl)))))))))))))) ?_
      refine W_ret ?_
      refine W_retR (by simp; rfl) (.of_eq ?_) rfl
      rw [mthRight_abs hh h3]
      simp [init]; grind
    · (try simp at h3)
      rw [mthRight_eq hh h3]
      refine W_skip ?_
      refine W_seq ?_
      refine W_dseqK [1, 71] hmo (by kernel_rfl) (RunsQ.step (n0 := 0) 1 tok (by simp; rfl) (RunsQ.call rfl (by simp) rfl (by simp; rfl) (by apply ct_impl_codeRight <;> first | assumption | omega | (simp at *; omega) | simp_all) cb_impl_codeRight rfl (RunsQ.step (n0 := 0) 2 tok (by simp; rfl) (RunsQ.mrgS 6 65 [1, 71] (by simp; rfl) (by rfl) (fun b5_4 => by (try simp at b5_4); exact (RunsQ.run (n0 := 0) tok (by simp [-atD_lt, -atL_lt]; rfl))) (fun b5_4 => by (try simp at b5_4); exact (RunsQ.step (n0 := 0) 3 tok (by simp [-atD_lt, -atL_lt]; rfl) (RunsQ.call rfl (by simp) rfl (by simp [-atD_lt, -atL_lt]; rfl) (by apply ct_impl_Method_slots <;> first | assumption | omega | (simp at *; omega) | simp_all) cb_impl_Method_slots rfl (RunsQ.run (n0 := 0) tok (by simp [-atD_lt, -atL_lt]; rfl))))) (by rfl) (by rfl) (RunsQ.fin (by (try simp); rfl)))))) ?_
      refine W_condS (by simp; rfl) (by rfl) (fun h5 => ?_) (fun h5 => ?_)
      · (try simp at h5)
        refine W_rseqK [2] (Runs.run tok hX (by simp; rfl)) ?_
        refine W_ret ?_
        refine W_retR (by simp [h5]; rfl) (.of_eq ?_) rfl
        rcases h5 with h5 | h5
        · simp [h5]
        · rw [decide_eq_false (p := _ ≤ _) (by omega)]; simp
      · (try simp at h5)
        refine W_skip ?_
        refine W_rseqK [2] (Runs.step 4 tok hX (by simp [h5]; rfl) (Runs.mrgS 17 75 [92] (by simp; rfl) (by rfl) (fun b7_4 => by (try simp at b7_4); exact (Runs.run tok hX (by simp [-atD_lt, -atL_lt]; rfl))) (fun b7_4 => by (try simp at b7_4); exact (Runs.step 4 tok hX (by simp [-atD_lt, -atL_lt, h5]; rfl) (Runs.mrgS 4 79 [1, 75, 83] (by simp; rfl) (by rfl) (fun b7_8 => by (try simp at b7_8); exact (Runs.run tok hX (by simp [-atD_lt, -atL_lt, h5]; rfl))) (fun b7_8 => by (try simp at b7_8); exact (Runs.run tok hX (by simp [-atD_lt, -atL_lt]; rfl))) (by rfl) (by rfl) (Runs.step 1 tok hX (by simp [-atD_lt, -atL_lt]; rfl) (Runs.mrgS 7 84 [75, 91] (by simp; rfl) (by rfl) (fun b7_13 => by (try simp at b7_13); exact (Runs.step 2 tok hX (by simp [-atD_lt, -atL_lt, h5]; rfl) (Runs.callF rfl (by simp) rfl (by simp [-atD_lt, -atL_lt, h5]; rfl) (by apply ct_impl_descRead <;> first | assumption | omega | (simp at *; omega) | simp_all) cb_impl_descRead (by simp [-atD_lt, -atL_lt, h5]; rfl) (Runs.run tok hX (by simp [-atD_lt, -atL_lt]; rfl))))) (fun b7_13 => by (try simp at b7_13); exact (Runs.run tok hX (by simp [-atD_lt, -atL_lt]; rfl))) (by rfl) (by rfl) (Runs.run tok hX (by simp [-atD_lt, -atL_lt]; rfl))))))) (by rfl) (by rfl) (Runs.run tok hX (by simp; rfl)))) ?_
        refine W_ret ?_
        refine W_retR (by simp [h5]; rfl) (.of_eq ?_) rfl
        rw [h5.1, decide_eq_true h5.2]
        simp only [Bool.true_and, init]
        congr 1
end Go.Proofs
namespace Go.Proofs
open Go Go.Ev


theorem cb_impl_Class_methodAt_1 : Callable Tryz.prog 150 := ⟨_, Tryz.func150, by kernel_rfl, by kernel_rfl⟩
set_option maxHeartbeats 2000000 in
set_option maxRecDepth 100000 in
theorem ct_impl_Class_methodAt_1 {x : Mth} {n d : Str} : Ct Tryz.prog 150 [eM x, .fp [.str n], .fp [.str d]] [] (.bool (decide (x.name = n) && decide (x.desc = d))) [] := by
  refine Ct_bodyS tok Tryz.func150 rfl 15 (by kernel_rfl) (by kernel_rfl) fun X hX => ?_
  refine W_rseqK [1, 2, 3] (Runs.run tok hX (by simp; rfl)) ?_
  refine W_rseqK [4] (Runs.step 5 tok hX (by simp; rfl) (Runs.mrgS 5 9 [14] (by simp; rfl) (by rfl) (fun b1_5 => by (try simp at b1_5); exact (Runs.run tok hX (by simp [-atD_lt, -atL_lt]; rfl))) (fun b1_5 => by (try simp at b1_5); exact (Runs.run tok hX (by simp [-atD_lt, -atL_lt]; rfl))) (by rfl) (by rfl) (Runs.run tok hX (by simp; rfl)))) ?_
  refine W_ret ?_
  refine W_retR (by simp; rfl) (.of_eq ?_) rfl
  simp_all
end Go.Proofs
namespace Go.Proofs
open Go Go.Ev


theorem cb_slices_IndexFunc_impl_Method_impl_Method : Callable Tryz.prog 149 := ⟨_, Tryz.func149, by kernel_rfl, by kernel_rfl⟩
set_option maxHeartbeats 2000000 in
set_option maxRecDepth 100000 in
theorem ct_slices_IndexFunc_impl_Method_impl_Method {n d : Str} {l : List Mth} (hl : l.length ≤ 1099511627776) : Ct Tryz.prog 149 [.lst false 9 (l.map eM), .clo (.func 150) [] [.fp [.str n], .fp [.str d]]] [] (.int .i64 (fix (fun x => decide (x.name = n) && decide (x.desc = d)) l)) [] := by
  refine Ct_bodyS tok Tryz.func149 rfl 19 (by kernel_rfl) (by kernel_rfl) fun X hX => ?_
  refine W_rseqK [0, 1] (Runs.run tok hX (by simp; rfl)) ?_
  refine W_seq ?_
  refine W_rseqK [0, 1, 7, 8] (Runs.run tok hX (by simp; rfl)) ?_
  refine W_block ?_
  -- loop 0: live [0, 1, 7, 8]
  refine W_loopU (α := Nat) [0, 1, 7, 8] (fun i => [(8, .int .i64 i)]) (fun i => []) (fun i => i ≤ l.length ∧ ∀ x ∈ l.take i, (fun x => decide (x.name = n) && decide (x.desc = d)) x = false) (fun i => l.length - i) (0) (fun i => by simp; rfl) (by simp) ?_ ?_
  · simp
  rintro i ⟨hi, hI⟩
  refine W_rseqK [0, 1, 7, 8, 9] (Runs.run tok hX (by simp; rfl)) ?_
  refine W_seq ?_
  refine W_condS (by simp; rfl) (by rfl) (fun h2 => ?_) (fun h2 => ?_)
  · (try simp at h2)
    refine W_skip ?_
    refine W_seq ?_
    refine W_block ?_
    refine W_rseqK [0, 1, 5, 7, 8] (Runs.run tok hX (by simp; rfl)) ?_
    refine W_rseqK [0, 1, 5, 7, 8, 16] (Runs.step 5 tok hX (by simp [h2]; rfl) (Runs.call [] rfl (by simp) rfl (by simp [h2]; rfl) (by simp; rfl) (by apply ct_impl_Class_methodAt_1 <;> first | assumption | exact hs _ (List.getElem_mem h2) | omega) cb_impl_Class_methodAt_1 (by simp) (by simp) (by simp [h2]; rfl) (Runs.fin (by (try simp); rfl)))) ?_
    refine W_condS (by simp; rfl) (by rfl) (fun h4 => ?_) (fun h4 => ?_)
    · (try simp at h4)
      refine W_rseqK [4] (Runs.run tok hX (by simp; rfl)) ?_
      refine W_ret ?_
      refine W_retR (by simp [h2]; rfl) (.of_eq ?_) rfl
      rw [fix_hit h2 hI (by simpa using h4)]
    · (try simp at h4)
      refine W_skip ?_
      refine W_reg (Runs.run tok hX (by simp; (try (simp (disch := omega) only [wrap_i64]; (try simp))); rfl)) ?_
      refine round_end (i + 1) [0, 1, 7, 8] (by simp [h2]; try (simp (disch := omega) only [wrap_i64])) ?_ ?_
      · exact ⟨by omega, take_not h2 hI (by simpa using h4)⟩
      · omega
  · (try simp at h2)
    refine W_exit ?_
    refine W_rseqK [4] (Runs.run tok hX (by simp; rfl)) ?_
    refine W_ret ?_
    refine W_retR (by simp [h2]; rfl) (.of_eq ?_) rfl
    rw [fix_none (p := fun x => decide (x.name = n) && decide (x.desc = d)) (fun x hx => hI x (by rw [List.take_of_length_le h2]; exact hx))]
end Go.Proofs
namespace Go.Proofs
open Go Go.Ev


theorem cb_impl_Class_methodAt : Callable Tryz.prog 120 := ⟨_, Tryz.func120, by kernel_rfl, by kernel_rfl⟩
set_option maxHeartbeats 2000000 in
set_option maxRecDepth 100000 in
theorem ct_impl_Class_methodAt {x : Cls} {n d : Str} (h : x.methods.length ≤ 1099511627776) : Ct Tryz.prog 120 [eC x, .str n, .str d] [] (.int .i64 (fix (fun f => decide (f.name = n) && decide (f.desc = d)) x.methods)) [] := by
  refine Ct_bodyS tok Tryz.func120 rfl 11 (by kernel_rfl) (by kernel_rfl) fun X hX => ?_
  refine W_rseqK [3, 4, 5] (Runs.run tok hX (by simp; rfl)) ?_
  refine W_rseqK [6] (Runs.step 3 tok hX (by simp; rfl) (Runs.callB rfl (by simp) rfl (by simp; rfl) (by apply ct_slices_IndexFunc_impl_Method_impl_Method <;> first | assumption | omega | (simp at *; omega) | simp_all) cb_slices_IndexFunc_impl_Method_impl_Method (by simp) (by simp; rfl) (Runs.run tok hX (by simp; rfl)))) ?_
  refine W_ret ?_
  refine W_retR (by simp; rfl) (.of_eq ?_) rfl
  simp_all
end Go.Proofs
namespace Go.Proofs
open Go Go.Ev


theorem cb_impl_ClassRight : Callable Tryz.prog 86 := ⟨_, Tryz.func86, by kernel_rfl, by kernel_rfl⟩
set_option maxHeartbeats 2000000 in
set_option maxRecDepth 100000 in
theorem ct_impl_ClassRight {x : Cls} (h : sizeC x ≤ 1099511627776) : Ct Tryz.prog 86 [eC x] [] (.bool (clsRight x)) [] := by
  simp only [sizeC] at h
  refine Ct_bodyS tok Tryz.func86 rfl 102 (by kernel_rfl) (by kernel_rfl) fun X hX => ?_
  refine W_rseqK [1] (Runs.run tok hX (by simp; rfl)) ?_
  refine W_seq ?_
  refine W_rseqK [1, 43] (Runs.step 2 tok hX (by simp; rfl) (Runs.call [] rfl (by simp) rfl (by simp; rfl) (by simp; rfl) (by apply ct_impl_NameRight <;> first | assumption | omega | (have := mem_sum (f := sizeF) (List.getElem_mem h4); simp only [sizeF] at *; (try simp only [atL_lt h4]); omega) | (have := mem_sum (f := sizeM) (List.getElem_mem h10); (try simp only [atL_lt h10]); omega)) cb_impl_NameRight (by simp) (by simp) (by simp; rfl) (Runs.step 2 tok hX (by simp; rfl) (Runs.mrgS 5 11 [1, 16] (by simp; rfl) (by rfl) (fun b1_5 => by (try simp at b1_5); exact (Runs.run tok hX (by simp [-atD_lt, -atL_lt]; rfl))) (fun b1_5 => by (try simp at b1_5); exact (Runs.step 2 tok hX (by simp [-atD_lt, -atL_lt]; rfl) (Runs.call [] rfl (by simp) rfl (by simp [-atD_lt, -atL_lt]; rfl) (by simp; rfl) (by apply ct_impl_NameRight <;> first | assumption | omega | (have := mem_sum (f := sizeF) (List.getElem_mem h4); simp only [sizeF] at *; (try simp only [atL_lt h4]); omega) | (have := mem_sum (f := sizeM) (List.getElem_mem h10); (try simp only [atL_lt h10]); omega)) cb_impl_NameRight (by simp) (by simp) (by simp [-atD_lt, -atL_lt]; rfl) (Runs.run tok hX (by simp [-atD_lt, -atL_lt]; rfl))))) (by rfl) (by rfl) (Runs.step 1 tok hX (by simp; rfl) (Runs.mrgS 6 17 [1, 23] (by simp; rfl) (by rfl) (fun b1_11 => by (try simp at b1_11); exact (Runs.run tok hX (by simp [-atD_lt, -atL_lt]; rfl))) (fun b1_11 => by (try simp at b1_11); exact (Runs.run tok hX (by simp [-atD_lt, -atL_lt]; rfl))) (by rfl) (by rfl) (Runs.step 1 tok hX (by simp; rfl) (Runs.mrgS 7 24 [1, 31] (by simp; rfl) (by rfl) (fun b1_18 => by (try simp at b1_18); exact (Runs.run tok hX (by simp [-atD_lt, -atL_lt]; rfl))) (fun b1_18 => by (try simp at b1_18); exact (Runs.step 3 tok hX (by simp [-atD_lt, -atL_lt]; rfl) (Runs.mrgS 3 27 [1, 24, 30] (by simp; rfl) (by rfl) (fun b1_21 => by (try simp at b1_21); exact (Runs.run tok hX (by simp [-atD_lt, -atL_lt]; rfl))) (fun b1_21 => by (try simp at b1_21); exact (Runs.run tok hX (by simp [-atD_lt, -atL_lt]; rfl))) (by rfl) (by rfl) (Runs.run tok hX (by simp [-atD_lt, -atL_lt]; rfl))))) (by rfl) (by rfl) (Runs.step 1 tok hX (by simp; rfl) (Runs.mrgS 5 32 [1, 37] (by simp; rfl) (by rfl) (fun b1_26 => by (try simp at b1_26); exact (Runs.run tok hX (by simp [-atD_lt, -atL_lt]; rfl))) (fun b1_26 => by (try simp at b1_26); exact (Runs.run tok hX (by simp [-atD_lt, -atL_lt]; rfl))) (by rfl) (by rfl) (Runs.step 1 tok hX (by simp; rfl) (Runs.mrgS 5 38 [1, 43] (by simp; rfl) (by rfl) (fun b1_32 => by (try simp at b1_32); exact (Runs.run tok hX (by simp [-atD_lt, -atL_lt]; rfl))) (fun b1_32 => by (try simp at b1_32); exact (Runs.run tok hX (by simp [-atD_lt, -atL_lt, b1_32]; rfl))) (by rfl) (by rfl) (Runs.fin (by (try simp); rfl)))))))))))))) ?_
  refine W_condS (by simp; rfl) (by rfl) (fun h1 => ?_) (fun h1 => ?_)
  · (try simp at h1)
    have hh : clsHead x = false := by unfold clsHead; grind
    refine W_rseqK [2] (Runs.run tok hX (by simp; rfl)) ?_
    refine W_ret ?_
    refine W_retR (by simp [h1]; rfl) (.of_eq ?_) rfl
    simp [clsRight, hh]
  · (try simp at h1)
    have hh : clsHead x = true := by unfold clsHead; grind
    rw [show clsRight x = (fldsR [] x.fields && mthsR x.abstr [] x.methods) from by simp [clsRight, hh]]
    refine W_skip ?_
    refine W_seq ?_
    refine W_rseqK [1, 45, 46, 47] (Runs.run tok hX (by simp [h1]; rfl)) ?_
    refine W_block ?_
    -- loop 0: live [1, 45, 46, 47]
    refine W_loopU (α := Nat) [1, 45, 46, 47] (fun i => [(47, .int .i64 i)]) (fun i => []) (fun i => i ≤ x.fields.length ∧ fldsR (x.fields.take i) (x.fields.drop i) = fldsR [] x.fields) (fun i => x.fields.length - i) (0) (fun i => by simp; rfl) (by simp) ?_ ?_
    · simp
    rintro i ⟨hi, hI⟩
    refine W_rseqK [1, 45, 46, 47, 48] (Runs.run tok hX (by simp; rfl)) ?_
    refine W_seq ?_
    refine W_condS (by simp; rfl) (by rfl) (fun h4 => ?_) (fun h4 => ?_)
    · (try simp at h4)
      rw [List.drop_eq_getElem_cons h4] at hI
      simp only [fldsR] at hI
      have hfx := fix_first (p := fun f : Fld => decide (f.name = x.fields[i].name)) h4 (by simp)
      refine W_skip ?_
      refine W_seq ?_
      refine W_block ?_
      refine W_rseqK [1, 3, 4, 45, 46, 47] (Runs.run tok hX (by simp [h1, h4]; rfl)) ?_
      refine W_rseqK [1, 45, 46, 47, 69] (Runs.step 2 tok hX (by simp [h1, h4]; rfl) (Runs.call [] rfl (by simp) rfl (by simp [h1, h4]; rfl) (by simp; rfl) (by apply ct_impl_NameRight <;> first | assumption | omega | (have := mem_sum (f := sizeF) (List.getElem_mem h4); simp only [sizeF] at *; (try simp only [atL_lt h4]); omega) | (have := mem_sum (f := sizeM) (List.getElem_mem h10); (try simp only [atL_lt h10]); omega)) cb_impl_NameRight (by simp) (by simp) (by simp [h1, h4]; rfl) (Runs.step 2 tok hX (by simp; rfl) (Runs.mrgS 5 56 [1, 3, 4, 45, 46, 47, 61] (by simp; rfl) (by rfl) (fun b6_5 => by (try simp at b6_5); exact (Runs.run tok hX (by simp [-atD_lt, -atL_lt]; rfl))) (fun b6_5 => by (try simp at b6_5); exact (Runs.step 2 tok hX (by simp [-atD_lt, -atL_lt, h1, h4]; rfl) (Runs.call [] rfl (by simp) rfl (by simp [-atD_lt, -atL_lt, h1, h4]; rfl) (by simp; rfl) (by apply ct_impl_typeRight <;> first | assumption | omega | (have := mem_sum (f := sizeF) (List.getElem_mem h4); simp only [sizeF] at *; (try simp only [atL_lt h4]); omega) | (have := mem_sum (f := sizeM) (List.getElem_mem h10); (try simp only [atL_lt h10]); omega)) cb_impl_typeRight (by simp) (by simp) (by simp [-atD_lt, -atL_lt, h1, h4]; rfl) (Runs.run tok hX (by simp [-atD_lt, -atL_lt]; rfl))))) (by rfl) (by rfl) (Runs.step 1 tok hX (by simp; rfl) (Runs.mrgS 7 62 [1, 45, 46, 47, 69] (by simp; rfl) (by rfl) (fun b6_11 => by (try simp at b6_11); exact (Runs.run tok hX (by simp [-atD_lt, -atL_lt]; rfl))) (fun b6_11 => by (try simp at b6_11); exact (Runs.step 3 tok hX (by simp [-atD_lt, -atL_lt, h1, h4]; rfl) (Runs.call [] rfl (by simp) rfl (by simp [-atD_lt, -atL_lt, h1, h4]; rfl) (by simp; rfl) (by apply ct_impl_Class_fieldAt <;> first | assumption | omega | (have := mem_sum (f := sizeF) (List.getElem_mem h4); simp only [sizeF] at *; (try simp only [atL_lt h4]); omega) | (have := mem_sum (f := sizeM) (List.getElem_mem h10); (try simp only [atL_lt h10]); omega)) cb_impl_Class_fieldAt (by simp) (by simp) (by simp [-atD_lt, -atL_lt, h1, h4]; rfl) (Runs.run tok hX (by simp [-atD_lt, -atL_lt]; rfl))))) (by rfl) (by rfl) (Runs.fin (by (try simp); rfl)))))))) ?_
      refine W_condS (by simp; rfl) (by rfl) (fun h6 => ?_) (fun h6 => ?_)
      · (try simp at h6)
        refine W_rseqK [2] (Runs.run tok hX (by simp; rfl)) ?_
        refine W_ret ?_
        refine W_retR (by simp [h1, h4]; rfl) (.of_eq ?_) rfl
        have h6b : (nameRight x.fields[i].name && typeRight x.fields[i].type && (x.fields.take i).all (fun g => !decide (g.name = x.fields[i].name))) = false := by rw [← hfx]; grind
        rw [← hI, h6b]; rfl
      · (try simp at h6)
        have h6b : (nameRight x.fields[i].name && typeRight x.fields[i].type && (x.fields.take i).all (fun g => !decide (g.name = x.fields[i].name))) = true := by rw [← hfx]; grind
        refine W_skip ?_
        refine W_reg (Runs.run tok hX (by simp; (try (simp (disch := omega) only [wrap_i64]; (try simp))); rfl)) ?_
        refine round_endT (i + 1) [1, 45, 46, 47] 1 (by simp [hX]) (by simp) (by simp [h1, h4]; try (simp (disch := omega) only [wrap_i64])) ?_ ?_
        · exact ⟨by omega, by rw [List.take_succ_eq_append_getElem h4, ← hI, h6b]; simp⟩
        · omega
    · (try simp at h4)
      rw [List.drop_eq_nil_of_le h4] at hI
      simp only [fldsR] at hI
      rw [← hI, Bool.true_and]
      refine W_exit ?_
      refine W_seq ?_
      refine W_rseqK [1, 72, 73, 74] (Runs.run tok hX (by simp [h1, h4]; rfl)) ?_
      refine W_block ?_
      -- loop 1: live [1, 72, 73, 74]
      refine W_loopU (α := Nat) [1, 72, 73, 74] (fun i => [(74, .int .i64 i)]) (fun i => []) (fun i => i ≤ x.methods.length ∧ mthsR x.abstr (x.methods.take i) (x.methods.drop i) = mthsR x.abstr [] x.methods) (fun i => x.methods.length - i) (0) (fun i => by simp; rfl) (by simp) ?_ ?_
      · simp
      rintro i ⟨hi2, hI2⟩
      refine W_rseqK [1, 72, 73, 74, 75] (Runs.run tok hX (by simp; rfl)) ?_
      refine W_seq ?_
      refine W_condS (by simp; rfl) (by rfl) (fun h10 => ?_) (fun h10 => ?_)
      · (try simp at h10)
        rw [List.drop_eq_getElem_cons h10] at hI2
        simp only [mthsR] at hI2
        have hfx := fix_first (p := fun m : Mth => decide (m.name = x.methods[i].name) && decide (m.desc = x.methods[i].desc)) h10 (by simp)
        refine W_skip ?_
        refine W_seq ?_
        refine W_block ?_
        refine W_rseqK [1, 5, 6, 72, 73, 74] (Runs.run tok hX (by simp [h1, h4, h10]; rfl)) ?_
        refine W_rseqK [1, 72, 73, 74, 100] (Runs.step 1 tok hX (by simp [h1, h4, h10]; rfl) (Runs.call [] rfl (by simp) rfl (by simp [h1, h4, h10]; rfl) (by simp; rfl) (by apply ct_impl_MethodRight <;> first | assumption | omega | (have := mem_sum (f := sizeF) (List.getElem_mem h4); simp only [sizeF] at *; (try simp only [atL_lt h4]); omega) | (have := mem_sum (f := sizeM) (List.getElem_mem h10); (try simp only [atL_lt h10]); omega)) cb_impl_MethodRight (by simp) (by simp) (by simp [h1, h4, h10]; rfl) (Runs.step 2 tok hX (by simp; rfl) (Runs.mrgS 8 82 [1, 5, 6, 72, 73, 74, 90] (by simp; rfl) (by rfl) (fun b12_4 => by (try simp at b12_4); exact (Runs.run tok hX (by simp [-atD_lt, -atL_lt]; rfl))) (fun b12_4 => by (try simp at b12_4); exact (Runs.step 3 tok hX (by simp [-atD_lt, -atL_lt, h1, h4, h10]; rfl) (Runs.mrgS 4 85 [1, 5, 6, 72, 73, 74, 82, 89] (by simp; rfl) (by rfl) (fun b12_7 => by (try simp at b12_7); exact (Runs.run tok hX (by simp [-atD_lt, -atL_lt, h1, h4, h10]; rfl))) (fun b12_7 => by (try simp at b12_7); exact (Runs.run tok hX (by simp [-atD_lt, -atL_lt]; rfl))) (by rfl) (by rfl) (Runs.run tok hX (by simp [-atD_lt, -atL_lt]; rfl))))) (by rfl) (by rfl) (Runs.step 1 tok hX (by simp; rfl) (Runs.mrgS 9 91 [1, 72, 73, 74, 100] (by simp; rfl) (by rfl) (fun b12_13 => by (try simp at b12_13); exact (Runs.run tok hX (by simp [-atD_lt, -atL_lt]; rfl))) (fun b12_13 => by (try simp at b12_13); exact (Runs.step 5 tok hX (by simp [-atD_lt, -atL_lt, h1, h4, h10]; rfl) (Runs.call [] rfl (by simp) rfl (by simp [-atD_lt, -atL_lt, h1, h4, h10]; rfl) (by simp; rfl) (by apply ct_impl_Class_methodAt <;> first | assumption | omega | (have := mem_sum (f := sizeF) (List.getElem_mem h4); simp only [sizeF] at *; (try simp only [atL_lt h4]); omega) | (have := mem_sum (f := sizeM) (List.getElem_mem h10); (try simp only [atL_lt h10]); omega)) cb_impl_Class_methodAt (by simp) (by simp) (by simp [-atD_lt, -atL_lt, h1, h4, h10]; rfl) (Runs.run tok hX (by simp [-atD_lt, -atL_lt]; rfl))))) (by rfl) (by rfl) (Runs.fin (by (try simp); rfl)))))))) ?_
        refine W_condS (by simp; rfl) (by rfl) (fun h12 => ?_) (fun h12 => ?_)
        · (try simp at h12)
          refine W_rseqK [2] (Runs.run tok hX (by simp; rfl)) ?_
          refine W_ret ?_
          refine W_retR (by simp [h1, h4, h10]; rfl) (.of_eq ?_) rfl
          have h12b : (mthRight x.methods[i] && !(x.methods[i].abstr && !x.abstr) && (x.methods.take i).all (fun g => !(decide (g.name = x.methods[i].name) && decide (g.desc = x.methods[i].desc)))) = false := by rw [← hfx]; grind
          rw [← hI2, h12b]; rfl
        · (try simp at h12)
          have h12b : (mthRight x.methods[i] && !(x.methods[i].abstr && !x.abstr) && (x.methods.take i).all (fun g => !(decide (g.name = x.methods[i].name) && decide (g.desc = x.methods[i].desc)))) = true := by rw [← hfx]; grind
          refine W_skip ?_
          refine W_reg (Runs.run tok hX (by simp; (try (simp (disch := omega) only [wrap_i64]; (try simp))); rfl)) ?_
          refine round_endT (i + 1) [1, 72, 73, 74] 1 (by simp [hX]) (by simp) (by simp [h1, h4, h10]; try (simp (disch := omega) only [wrap_i64])) ?_ ?_
          · exact ⟨by omega, by rw [List.take_succ_eq_append_getElem h10, ← hI2, h12b]; simp⟩
          · omega
      · (try simp at h10)
        rw [List.drop_eq_nil_of_le h10] at hI2
        simp only [mthsR] at hI2
        rw [← hI2]
        refine W_exit ?_
        refine W_rseqK [2] (Runs.run tok hX (by simp; rfl)) ?_
        refine W_ret ?_
        refine W_retR (by simp [h1, h4, h10]; rfl) (.of_eq ?_) rfl
        simp
end Go.Proofs
namespace Go.Proofs
open Go Go.Ev


theorem cb_impl_world_check_1 : Callable Tryz.prog 85 := ⟨_, Tryz.func85, by kernel_rfl, by kernel_rfl⟩
set_option maxHeartbeats 2000000 in
set_option maxRecDepth 100000 in
theorem ct_impl_world_check_1 {l : List Cls} (hl : l.length ≤ 1099511627776) {c : Cls} {k : Int} (h : sizeC c ≤ 1099511627776) : Ct Tryz.prog 85 [.int .i64 k, eC c, .fp [wv l]] [] (.int .i64 (pI1 l c k)) [] := by
  refine Ct_bodyS tok Tryz.func85 rfl 25 (by kernel_rfl) (by kernel_rfl) fun X hX => ?_
  refine W_rseqK [0, 2, 4] (Runs.run tok hX (by simp; rfl)) ?_
  refine W_seq ?_
  refine W_block ?_
  refine W_rseqK [0, 2, 4, 6] (Runs.step 1 tok hX (by simp; rfl) (Runs.call [] rfl (by simp) rfl (by simp; rfl) (by simp; rfl) (by apply ct_impl_ClassRight <;> first | assumption | omega | (simp at *; omega) | simp_all) cb_impl_ClassRight (by simp) (by simp) (by simp; rfl) (Runs.run tok hX (by simp; rfl)))) ?_
  refine W_condS (by simp; rfl) (by rfl) (fun h1 => ?_) (fun h1 => ?_)
  · (try simp at h1)
    refine W_rseqK [5] (Runs.run tok hX (by simp; rfl)) ?_
    refine W_ret ?_
    refine W_retR (by simp; rfl) (.of_eq ?_) rfl
    simp only [pI1]
    simp_all
  · (try simp at h1)
    refine W_dseqK [10] hmo (by kernel_rfl) (RunsQ.step (n0 := 0) 2 tok (by simp; rfl) (RunsQ.call rfl (by simp) rfl (by simp; rfl) (by apply ct_impl_isBuiltIn <;> first | assumption | omega | (simp at *; omega) | simp_all) cb_impl_isBuiltIn rfl (RunsQ.step (n0 := 0) 1 tok (by simp; rfl) (RunsQ.mrgS 10 14 [24] (by simp; rfl) (by rfl) (fun b3_4 => by (try simp at b3_4); exact (RunsQ.run (n0 := 0) tok (by simp [-atD_lt, -atL_lt]; rfl))) (fun b3_4 => by (try simp at b3_4); exact (RunsQ.run (n0 := 0) tok (by simp [-atD_lt, -atL_lt]; rfl))) (by rfl) (by rfl) (RunsQ.run (n0 := 0) tok (by simp; rfl)))))) ?_
    refine W_condS (by simp; rfl) (by rfl) (fun h3 => ?_) (fun h3 => ?_)
    · (try simp at h3)
      refine W_rseqK [5] (Runs.run tok hX (by simp; rfl)) ?_
      refine W_ret ?_
      refine W_retR (by simp; rfl) (.of_eq ?_) rfl
      simp only [pI1]
      simp_all
    · (try simp at h3)
      refine W_skip ?_
      refine W_rseqK [5] (Runs.run tok hX (by simp; rfl)) ?_
      refine W_ret ?_
      refine W_retR (by simp; rfl) (.of_eq ?_) rfl
      simp only [pI1]
      simp_all
end Go.Proofs
namespace Go.Proofs
open Go Go.Ev


theorem cb_impl_world_known : Callable Tryz.prog 45 := ⟨_, Tryz.func45, by kernel_rfl, by kernel_rfl⟩
set_option maxHeartbeats 2000000 in
set_option maxRecDepth 100000 in
theorem ct_impl_world_known {l : List Cls} {n : Str} (hl : l.length ≤ 1099511627776) : Ct Tryz.prog 45 [wv l, .str n] [] (.bool (isKnown l n)) [] := by
  refine Ct_bodyS tok Tryz.func45 rfl 21 (by kernel_rfl) (by kernel_rfl) fun X hX => ?_
  refine W_rseqK [0, 1] (Runs.run tok hX (by simp; rfl)) ?_
  refine W_rseqK [1, 6] (Runs.run tok hX (by simp; rfl)) ?_
  refine W_rseqK [4] (Runs.step 2 tok hX (by simp; rfl) (Runs.mrgS 3 17 [20] (by simp; rfl) (by rfl) (fun b2_2 => by (try simp at b2_2); exact (Runs.run tok hX (by simp [-atD_lt, -atL_lt]; rfl))) (fun b2_2 => by (try simp at b2_2); exact (Runs.step 1 tok hX (by simp [-atD_lt, -atL_lt]; rfl) (Runs.call [] rfl (by simp) rfl (by simp [-atD_lt, -atL_lt]; rfl) (by simp; rfl) (by apply ct_impl_isBuiltIn <;> first | assumption | omega | (simp at *; omega) | simp_all) cb_impl_isBuiltIn (by simp) (by simp) (by simp [-atD_lt, -atL_lt]; rfl) (Runs.run tok hX (by simp [-atD_lt, -atL_lt]; rfl))))) (by rfl) (by rfl) (Runs.run tok hX (by simp; rfl)))) ?_
  refine W_ret ?_
  refine W_retR (by simp; rfl) (.of_eq ?_) rfl
  unfold isKnown
  simp_all [bIn, Bool.or_comm]
end Go.Proofs
namespace Go.Proofs
open Go Go.Ev


theorem cb_impl_world_class : Callable Tryz.prog 96 := ⟨_, Tryz.func96, by kernel_rfl, by kernel_rfl⟩
set_option maxHeartbeats 2000000 in
set_option maxRecDepth 100000 in
theorem ct_impl_world_class {l : List Cls} {n : Str} (hl : l.length ≤ 1099511627776) : Ct Tryz.prog 96 [wv l, .str n] [] (.tup [eC (clsOf l n), .bool (decide (0 ≤ findFrom n l 0))]) [] := by
  refine Ct_bodyS tok Tryz.func96 rfl 27 (by kernel_rfl) (by kernel_rfl) fun X hX => ?_
  refine W_rseqK [0, 1, 4] (Runs.run tok hX (by simp; rfl)) ?_
  refine W_rseqK [0, 4, 6, 7] (Runs.run tok hX (by simp; rfl)) ?_
  refine W_seq ?_
  refine W_rseqK [0, 4, 6, 18] (Runs.run tok hX (by simp; rfl)) ?_
  refine W_condS (by simp; rfl) (by rfl) (fun h2 => ?_) (fun h2 => ?_)
  · (try simp at h2)
    refine W_rseqK [4, 5] (Runs.run tok hX (by simp; rfl)) ?_
    refine W_ret ?_
    refine W_retR (by simp; rfl) ?_ rfl
    rw [clsOf_none (by omega), decide_eq_false (p := 0 ≤ findFrom n l 0) (by omega)]
    exact Wk.tup (.cons wk_zC (.cons (Wk.refl _) .nil))
  · (try simp at h2)
    obtain ⟨i, hi, hf, hp, hcl, _⟩ := clsOf_found h2
    refine W_skip ?_
    refine W_rseqK [4, 5] (Runs.run tok hX (by simp [hi, hp]; rfl)) ?_
    refine W_ret ?_
    refine W_retR (by simp [hi, hp]; rfl) ?_ rfl
    rw [hcl, decide_eq_true h2]
    exact Wk.refl _
end Go.Proofs
namespace Go.Proofs
open Go Go.Ev


theorem cb_impl_world_superCode : Callable Tryz.prog 88 := ⟨_, Tryz.func88, by kernel_rfl, by kernel_rfl⟩
set_option maxHeartbeats 2000000 in
set_option maxRecDepth 100000 in
theorem ct_impl_world_superCode {l : List Cls} (hl : l.length ≤ 1099511627776) {c : Cls} : Ct Tryz.prog 88 [wv l, eC c] [] (.int .i64 (superCode l c)) [] := by
  have hcase : ((decide (0 ≤ findFrom c.super l 0)) = true ∧ (clsOf l c.super).final = true) ∨ ((decide (0 ≤ findFrom c.super l 0)) = true ∧ (clsOf l c.super).final = false) ∨ ((decide (0 ≤ findFrom c.super l 0)) = false ∧ True) := by
    cases decide (0 ≤ findFrom c.super l 0) <;> cases (clsOf l c.super).final <;> simp
  rcases hcase with ⟨hc1, hc2⟩ | ⟨hc1, hc2⟩ | ⟨hc1, hc2⟩
  all_goals
    refine Ct_bodyS tok Tryz.func88 rfl 33 (by kernel_rfl) (by kernel_rfl) fun X hX => ?_
    refine W_rseqK [0, 3] (Runs.run tok hX (by simp; rfl)) ?_
    refine W_rseqK [0, 3, 5, 6] (Runs.step 3 tok hX (by simp [hc1, hc2]; rfl) (Runs.callF rfl (by simp) rfl (by simp [hc1, hc2]; rfl) (by apply ct_impl_world_class <;> first | assumption | omega | (simp at *; omega) | simp_all) cb_impl_world_class (by simp [hc1, hc2]; rfl) (Runs.run tok hX (by simp [hc1, hc2]; rfl)))) ?_
    refine W_seq ?_
    refine W_block ?_
    refine W_rseqK [3, 5, 6, 14] (Runs.step 3 tok hX (by simp [hc1, hc2]; rfl) (Runs.call [] rfl (by simp) rfl (by simp [hc1, hc2]; rfl) (by simp; rfl) (by apply ct_impl_world_known <;> first | assumption | omega | (simp at *; omega) | simp_all) cb_impl_world_known (by simp) (by simp) (by simp [hc1, hc2]; rfl) (Runs.run tok hX (by simp; rfl)))) ?_
    refine W_condS (by simp; rfl) (by rfl) (fun h2 => ?_) (fun h2 => ?_)
    · (try simp at h2)
      refine W_rseqK [4] (Runs.run tok hX (by simp; rfl)) ?_
      refine W_ret ?_
      refine W_retR (by simp [hc1, hc2]; rfl) (.of_eq ?_) rfl
      simp only [superCode]
      (try simp_all) <;> grind
    · (try simp at h2)
      first | (refine W_hseqK (n := 10) (A := [0, 1, 2, 3, 4, 5, 8, 9]) (B := [6, 7]) [20] ([0, 1]) hmo (by kernel_rfl) tok hX (by simp [hc1, hc2]; rfl) (.cons rfl (by simp) (fun X hX => (Runs.run tok hX (by simp; rfl))) (by simp; rfl) (.cons rfl (by simp) (fun X hX => (Runs.run tok hX (by simp; rfl))) (by simp; rfl) .nil)) (Runs.run tok hX (by simp; rfl)) ?_) | (refine W_hseqK (n := 10) (A := [0, 1, 2, 3, 4, 5, 8, 9]) (B := [6, 7]) [20] ([0, 1]) hmo (by kernel_rfl) tok hX (by simp [hc1, hc2]; rfl) (.cons rfl (by simp) (fun X hX => (Runs.call [] rfl (by simp) rfl (by simp [hc1, hc2]; rfl) (by simp; rfl) (by apply ct_impl_builtIn <;> first | assumption | omega | (simp at *; omega) | simp_all) cb_impl_builtIn (by simp) (by simp) (by simp [hc1, hc2]; rfl) (Runs.fin (by (try simp); rfl)))) (by simp; rfl) (.cons rfl (by simp) (fun X hX => (Runs.run tok hX (by simp [hc1, hc2]; rfl))) (by simp; rfl) .nil)) (Runs.callB rfl (by simp) rfl (by simp [hc1, hc2]; rfl) (by apply (ct_slices_Contains_string_string (l := builtIn.drop 2)) <;> first | decide | simp) cb_slices_Contains_string_string (by simp) (by simp [hc1, hc2]; rfl) (Runs.run tok hX (by simp; rfl))) ?_) | (refine W_hseqK (n := 10) (A := [0, 1, 2, 3, 4, 5, 8, 9]) (B := [6, 7]) [20] ([0, 1]) hmo (by kernel_rfl) tok hX (by simp [hc1, hc2]; rfl) (.cons rfl (by simp) (fun X hX => (Runs.call [] rfl (by simp) rfl (by simp [hc1, hc2]; rfl) (by simp; rfl) (by apply ct_impl_builtIn <;> first | assumption | omega | (simp at *; omega) | simp_all) cb_impl_builtIn (by simp) (by simp) (by simp [hc1, hc2]; rfl) (Runs.fin (by (try simp); rfl)))) (by simp; rfl) (.cons rfl (by simp) (fun X hX => (Runs.run tok hX (by simp [hc1, hc2]; rfl))) (by simp; rfl) .nil)) (Runs.callB rfl (by simp) rfl (by simp [hc1, hc2]; rfl) (by apply (ct_slices_Contains_string_string (l := builtIn.drop 2)) <;> first | decide | simp) cb_slices_Contains_string_string (by simp) (by simp [hc1, hc2]; rfl) (Runs.run tok hX (by simp; rfl))) ?_)
      refine W_condS (by simp; rfl) (by rfl) (fun h4 => ?_) (fun h4 => ?_)
      · (try simp at h4)
        all_goals
          refine W_rseqK [4] (Runs.run tok hX (by simp; rfl)) ?_
          refine W_ret ?_
          refine W_retR (by simp [hc1, hc2]; rfl) (.of_eq ?_) rfl
          simp only [superCode]
          (try simp_all) <;> grind
      · (try simp at h4)
        all_goals
          refine W_skip ?_
          refine W_rseqK [4] (Runs.run tok hX (by simp; rfl)) ?_
          refine W_ret ?_
          refine W_retR (by simp [hc1, hc2]; rfl) (.of_eq ?_) rfl
          simp only [superCode]
          (try simp_all) <;> grind
end Go.Proofs
namespace Go.Proofs
open Go Go.Ev


theorem cb_impl_world_check_2 : Callable Tryz.prog 87 := ⟨_, Tryz.func87, by kernel_rfl, by kernel_rfl⟩
set_option maxHeartbeats 2000000 in
set_option maxRecDepth 100000 in
theorem ct_impl_world_check_2 {l : List Cls} (hl : l.length ≤ 1099511627776) {c : Cls} {k : Int} : Ct Tryz.prog 87 [.int .i64 k, eC c, .fp [wv l]] [] (.int .i64 (superCode l c)) [] := by
  refine Ct_bodyS tok Tryz.func87 rfl 9 (by kernel_rfl) (by kernel_rfl) fun X hX => ?_
  refine W_rseqK [2, 4] (Runs.run tok hX (by simp; rfl)) ?_
  refine W_rseqK [5] (Runs.step 2 tok hX (by simp; rfl) (Runs.call [] rfl (by simp) rfl (by simp; rfl) (by simp; rfl) (by apply ct_impl_world_superCode <;> first | assumption | omega | (simp at *; omega) | simp_all) cb_impl_world_superCode (by simp) (by simp) (by simp; rfl) (Runs.run tok hX (by simp; rfl)))) ?_
  refine W_ret ?_
  refine W_retR (by simp; rfl) (.of_eq ?_) rfl
  simp_all
end Go.Proofs
namespace Go.Proofs
open Go Go.Ev


theorem cb_impl_codeUnless : Callable Tryz.prog 90 := ⟨_, Tryz.func90, by kernel_rfl, by kernel_rfl⟩
set_option maxHeartbeats 2000000 in
set_option maxRecDepth 100000 in
theorem ct_impl_codeUnless {b : Bool} {n : Int} : Ct Tryz.prog 90 [.bool b, .int .i64 n] [] (.int .i64 (if b = true then 0 else n)) [] := by
  refine Ct_bodyS tok Tryz.func90 rfl 7 (by kernel_rfl) (by kernel_rfl) fun X hX => ?_
  refine W_rseqK [0, 1] (Runs.run tok hX (by simp; rfl)) ?_
  refine W_seq ?_
  refine W_rseqK [1, 5] (Runs.run tok hX (by simp; rfl)) ?_
  refine W_condS (by simp; rfl) (by rfl) (fun h1 => ?_) (fun h1 => ?_)
  · (try simp at h1)
    refine W_rseqK [4] (Runs.run tok hX (by simp; rfl)) ?_
    refine W_ret ?_
    refine W_retR (by simp; rfl) (.of_eq ?_) rfl
    simp_all
  · (try simp at h1)
    refine W_skip ?_
    refine W_rseqK [4] (Runs.run tok hX (by simp; rfl)) ?_
    refine W_ret ?_
    refine W_retR (by simp; rfl) (.of_eq ?_) rfl
    simp_all
end Go.Proofs
namespace Go.Proofs
open Go Go.Ev


theorem cb_impl_typeClass : Callable Tryz.prog 122 := ⟨_, Tryz.func122, by kernel_rfl, by kernel_rfl⟩
set_option maxHeartbeats 2000000 in
set_option maxRecDepth 100000 in
theorem ct_impl_typeClass {t : Str} (ht : t.length ≤ 1099511627776) : Ct Tryz.prog 122 [.str t] [] (.str (typeClass t)) [] := by
  refine Ct_bodyS tok Tryz.func122 rfl 29 (by kernel_rfl) (by kernel_rfl) fun X hX => ?_
  refine W_rseqK [0] (Runs.run tok hX (by simp; rfl)) ?_
  refine W_seq ?_
  refine W_block ?_
  refine W_rseqK [0, 3] (Runs.step 3 tok hX (by simp; rfl) (Runs.mrgS 3 6 [0, 9] (by simp; rfl) (by rfl) (fun b1_3 => by (try simp at b1_3); exact (Runs.run tok hX (by simp [-atD_lt, -atL_lt]; rfl))) (fun b1_3 => by (try simp at b1_3); exact (Runs.run tok hX (by simp [-atD_lt, -atL_lt]; rfl))) (by rfl) (by rfl) (Runs.step 1 tok hX (by simp; rfl) (Runs.mrgS 4 10 [0, 14] (by simp; rfl) (by rfl) (fun b1_7 => by (try simp at b1_7); exact (Runs.run tok hX (by simp [-atD_lt, -atL_lt]; rfl))) (fun b1_7 => by (try simp at b1_7); exact (Runs.step 1 tok hX (by simp [-atD_lt, -atL_lt]; rfl) (Runs.call [] rfl (by simp) rfl (by simp [-atD_lt, -atL_lt]; rfl) (by simp; rfl) (by apply ct_impl_typeRight <;> first | assumption | omega | (simp at *; omega) | simp_all) cb_impl_typeRight (by simp) (by simp) (by simp [-atD_lt, -atL_lt]; rfl) (Runs.run tok hX (by simp [-atD_lt, -atL_lt]; rfl))))) (by rfl) (by rfl) (Runs.run tok hX (by simp; rfl)))))) ?_
  refine W_condS (by simp; rfl) (by rfl) (fun h1 => ?_) (fun h1 => ?_)
  · (try simp at h1)
    have hx : typeClass t = [] := typeClass_no (fun e => by
      rcases h1 with (h1 | h1) | h1
      · exact .inl h1
      · exact .inr h1
      · rw [h1] at e; cases e)
    refine W_rseqK [2] (Runs.run tok hX (by simp; rfl)) ?_
    refine W_ret ?_
    refine W_retR (by simp; rfl) (.of_eq ?_) rfl
    rw [hx]
  · (try simp at h1)
    obtain ⟨hl1, hl2, hx⟩ := typeClass_eq h1.2 h1.1.1 h1.1.2
    rw [hx]
    have hl0 : 0 < t.length := by omega
    have hat := isAt_lt (n := 91) hl0
    have hs1 : 0 ≤ (t.length : Int) - 1 := by omega
    have hs2 : ((t.length : Int) - 1).toNat = t.length - 1 := by omega
    have hs3 : t.length - 1 ≤ t.length := by omega
    have hs4 : 1 ≤ t.length - 1 := by omega
    have hs6 : 1 ≤ t.length := by omega
    refine W_rseqK [0, 15] (Runs.run tok hX (by simp [hl0, hs1, hs2, hs3, hs4, hs6]; rfl)) ?_
    refine W_condS (by simp; rfl) (by rfl) (fun h3 => ?_) (fun h3 => ?_)
    · (try simp at h3)
      have h3b : isAt t 0 91 = true := by rw [hat]; simpa using h3
      have hs5 : 2 ≤ t.length - 1 := by have := hl2 h3b; omega
      rw [if_pos h3b]
      refine W_rseqK [2] (Runs.run tok hX (by simp [hl0, hs1, hs2, hs3, hs4, hs6, hs5]; (try (simp (disch := omega) only [wrap_i64]; (try simp [hl0, hs1, hs2, hs3, hs4, hs6, hs5]))); rfl)) ?_
      refine W_ret ?_
      refine W_retR (by simp [hl0, hs1, hs2, hs3, hs4, hs6, hs5]; rfl) (.of_eq ?_) rfl
      simp [seg]
    · (try simp at h3)
      have h3b : isAt t 0 91 = false := by rw [hat]; simpa using h3
      rw [if_neg (by simp [h3b])]
      refine W_skip ?_
      refine W_rseqK [2] (Runs.run tok hX (by simp [hl0, hs1, hs2, hs3, hs4, hs6]; (try (simp (disch := omega) only [wrap_i64]; (try simp [hl0, hs1, hs2, hs3, hs4, hs6]))); rfl)) ?_
      refine W_ret ?_
      refine W_retR (by simp [hl0, hs1, hs2, hs3, hs4, hs6]; rfl) (.of_eq ?_) rfl
      simp [seg]
end Go.Proofs
namespace Go.Proofs
open Go Go.Ev


theorem cb_impl_world_namesOK_1 : Callable Tryz.prog 121 := ⟨_, Tryz.func121, by kernel_rfl, by kernel_rfl⟩
set_option maxHeartbeats 2000000 in
set_option maxRecDepth 100000 in
theorem ct_impl_world_namesOK_1 {l : List Cls} (hl : l.length ≤ 1099511627776) {t : Str} (ht : t.length ≤ 1099511627776) : Ct Tryz.prog 121 [.str t, .fp [wv l]] [] (.bool (typeK l t)) [] := by
  refine Ct_bodyS tok Tryz.func121 rfl 14 (by kernel_rfl) (by kernel_rfl) fun X hX => ?_
  refine W_rseqK [0, 1] (Runs.run tok hX (by simp; rfl)) ?_
  refine W_rseqK [1, 4] (Runs.step 1 tok hX (by simp; rfl) (Runs.call [] rfl (by simp) rfl (by simp; rfl) (by simp; rfl) (by apply ct_impl_typeClass <;> first | assumption | omega | (simp at *; omega) | simp_all) cb_impl_typeClass (by simp) (by simp) (by simp; rfl) (Runs.run tok hX (by simp; rfl)))) ?_
  refine W_rseqK [3] (Runs.step 3 tok hX (by simp; rfl) (Runs.mrgS 4 9 [13] (by simp; rfl) (by rfl) (fun b2_3 => by (try simp at b2_3); exact (Runs.run tok hX (by simp [-atD_lt, -atL_lt]; rfl))) (fun b2_3 => by (try simp at b2_3); exact (Runs.step 2 tok hX (by simp [-atD_lt, -atL_lt]; rfl) (Runs.call [] rfl (by simp) rfl (by simp [-atD_lt, -atL_lt]; rfl) (by simp; rfl) (by apply ct_impl_world_known <;> first | assumption | omega | (simp at *; omega) | simp_all) cb_impl_world_known (by simp) (by simp) (by simp [-atD_lt, -atL_lt]; rfl) (Runs.run tok hX (by simp [-atD_lt, -atL_lt]; rfl))))) (by rfl) (by rfl) (Runs.run tok hX (by simp; rfl)))) ?_
  refine W_ret ?_
  refine W_retR (by simp; rfl) (.of_eq ?_) rfl
  rw [← typeK_of]
end Go.Proofs
namespace Go.Proofs
open Go Go.Ev


theorem cb_impl_world_namesOK_2 : Callable Tryz.prog 125 := ⟨_, Tryz.func125, by kernel_rfl, by kernel_rfl⟩
set_option maxHeartbeats 2000000 in
set_option maxRecDepth 100000 in
theorem ct_impl_world_namesOK_2 {l : List Cls} (hl : l.length ≤ 1099511627776) {t : Str} (ht : t.length ≤ 1099511627776) : Ct Tryz.prog 125 [.str t, .fp [.clo (.func 121) [] [.fp [wv l]]]] [] (.bool (!typeK l t)) [] := by
  refine Ct_bodyS tok Tryz.func125 rfl 8 (by kernel_rfl) (by kernel_rfl) fun X hX => ?_
  refine W_rseqK [0, 1] (Runs.run tok hX (by simp; rfl)) ?_
  refine W_rseqK [3] (Runs.step 2 tok hX (by simp; rfl) (Runs.call [] rfl (by simp) rfl (by simp; rfl) (by simp; rfl) (by apply ct_impl_world_namesOK_1 <;> first | assumption | omega | (simp at *; omega) | simp_all) cb_impl_world_namesOK_1 (by simp) (by simp) (by simp; rfl) (Runs.run tok hX (by simp; rfl)))) ?_
  refine W_ret ?_
  refine W_retR (by simp; rfl) (.of_eq ?_) rfl
  simp_all
end Go.Proofs
