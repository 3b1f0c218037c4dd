/- Part 11 of what the proofs lean on: what the functions of the program and of the reference compute. Conditions: none. -/
import Derived.Test.YtebbhmbngfpkaaaGreatK09
set_option linter.all false
set_option linter.unusedVariables false
set_option linter.unusedSimpArgs false
set_option maxHeartbeats 2000000
set_option maxRecDepth 100000
namespace Go.Proofs
open Go Go.Ev


theorem cb_impl_DescRead : Callable Tryz.prog 244 := ⟨_, Tryz.func244, by kernel_rfl, by kernel_rfl⟩
theorem ct_impl_DescRead {t : Str} (ht : t.length ≤ 1099511627776) : Ct Tryz.prog 244 [.str t] [] (eDO (descRead t)) [] := by
  refine Ct_bodyS tok Tryz.func244 rfl 10 (by kernel_rfl) (by kernel_rfl) fun X hX => ?_
  refine jq [0, 2] ?_
  refine W_seq (W_rseqK [0, 2, 6] (jt 2 (k:=(jB (c:=(by apply (ct_impl_isText (l := [t])) <;> simp)) (a:=cb_impl_isText) (k:=jr)))) ?_)
  refine jd (fun h1 => ?_) (fun h1 => ?_)
  · try simp at h1
    refine jq [2] ?_
    refine W_ret (W_retR (by simp; rfl) ?_ rfl)
    rw [show descRead t = ⟨[], [], 0, 2⟩ from by unfold descRead; rw [if_pos (by simpa using h1)]]
    exact wk_err _ _ _
  · try simp at h1
    refine W_skip (W_rseqK [2] (jt 1 (k:=(jc [] (c:=(by apply ct_impl_descRead <;> first | assumption | omega | (simp at *; omega) | simp_all)) (a:=cb_impl_descRead) (k:=jr)))) ?_)
    refine W_ret (W_retR (by simp; rfl) ?_ rfl)
    rw [show descRead t = dRead t from by unfold descRead; rw [if_neg (by simpa using h1)]]
    exact Wk.refl _
end Go.Proofs
namespace Go.Proofs
open Go Go.Ev


theorem cb_impl_DescSlots : Callable Tryz.prog 239 := ⟨_, Tryz.func239, by kernel_rfl, by kernel_rfl⟩
theorem ct_impl_DescSlots {t : Str} (ht : t.length ≤ 1099511627776) : Ct Tryz.prog 239 [.str t] [] (.int .i64 (dSlots t)) [] := by
  have hd8 := descRead_le t
  refine Ct_bodyS tok Tryz.func239 rfl 13 (by kernel_rfl) (by kernel_rfl) fun X hX => ?_
  refine jq [0] ?_
  refine W_rseqK [3] (jt 1 (k:=(jF (c:=(by apply ct_impl_DescRead <;> first | assumption | omega)) (a:=cb_impl_DescRead) (k:=jr)))) ?_
  refine W_seq (jq [3, 8] ?_)
  refine jd (fun h2 => ?_) (fun h2 => ?_)
  · try simp at h2
    refine jq [2] ?_
    refine W_ret (je0 ?_)
    simp_all [dSlots]
  · try simp at h2
    refine W_skip (W_rseqK [2] (jt 3 (k:=(jc [] (c:=(by apply ct_impl_size_string <;> first | assumption | omega)) (a:=cb_impl_size_string) (k:=jr)))) ?_)
    refine W_ret (je0 ?_)
    simp_all [dSlots]
end Go.Proofs
namespace Go.Proofs
open Go Go.Ev


theorem cb_impl_Method_slots : Callable Tryz.prog 230 := ⟨_, Tryz.func230, by kernel_rfl, by kernel_rfl⟩
theorem ct_impl_Method_slots {x : Mth} (h : x.desc.length ≤ 1099511627776) : Ct Tryz.prog 230 [eM x] [] (.int .i64 (dSlots x.desc + if x.static = true then 0 else 1)) [] := by
  refine Ct_bodyS tok Tryz.func230 rfl 13 (by kernel_rfl) (by kernel_rfl) fun X hX => ?_
  refine jq [1] ?_
  refine W_rseqK [1, 3] (jt 2 (k:=(jc [] (c:=(by apply ct_impl_DescSlots <;> first | assumption | omega | (simp at *; omega) | simp_all)) (a:=cb_impl_DescSlots) (k:=jr)))) ?_
  have hd8 := dSlots_le x.desc
  have hw : IntKind.i64.wrap (dSlots x.desc + 1) = dSlots x.desc + 1 := wrap_i64 (by omega) (by omega)
  refine W_seq (jq [3, 9] ?_)
  refine' W_condS3 [3] (by simp; rfl) (by rfl) (fun h2 => ?a1_1) (fun h2 => ?a0_1) ?ak_1
  case a1_1 =>
    try simp at h2
    refine W_reg (jh hX (by simp; (try (simp (disch := omega) only [wrap_i64]; (try simp))); rfl)) ?_
    exact ⟨rfl, Eq.trans (by (try simp); rfl) (by rfl)⟩
  case a0_1 =>
    try simp at h2
    refine W_skip ?_
    exact ⟨rfl, Eq.trans (by (try simp); rfl) (by rfl)⟩
  case ak_1 =>
    refine W_le (Le.of_eq (by simp; rfl)) ?_
    refine jq [2] ?_
    refine W_ret (je0 ?_)
    cases hst : x.static <;> simp_all
end Go.Proofs
namespace Go.Proofs
open Go Go.Ev


theorem cb_impl_MethodRight : Callable Tryz.prog 202 := ⟨_, Tryz.func202, by kernel_rfl, by kernel_rfl⟩
theorem ct_impl_MethodRight {x : Mth} (h : sizeM x ≤ 1099511627776) : Ct Tryz.prog 202 [eM x] [] (.bool (mthRight x)) [] := by
  have hM := h
  simp only [sizeM] at h
  refine Ct_bodyS tok Tryz.func202 rfl 93 (by kernel_rfl) (by kernel_rfl) fun X hX => ?_
  refine jq [1] ?_
  refine W_seq (W_rseqK [1, 24] (jt 2 (k:=(jc [] (c:=(by apply ct_impl_isMethodName <;> first | assumption | omega | (simp at *; omega) | simp_all)) (a:=cb_impl_isMethodName) (k:=(jt 2 (k:=(jm 5 7 [1, 12] (p:=fun b1_5 => by (try simp at b1_5); exact (jh hX (by simp [-atD_lt, -atL_lt]; rfl))) (q:=fun b1_5 => by (try simp at b1_5); exact (js hX 2 (by simp [-atD_lt, -atL_lt]; rfl) (Runs.call [] rfl (by simp) rfl (by simp [-atD_lt, -atL_lt]; rfl) (by simp; rfl) (by apply ct_impl_isDesc <;> first | assumption | omega | (simp at *; omega) | simp_all) cb_impl_isDesc (by simp) (by simp) (by simp [-atD_lt, -atL_lt]; rfl) (jh hX (by simp [-atD_lt, -atL_lt]; rfl))))) (k:=(jt 1 (k:=(jm 5 13 [1, 18] (p:=fun b1_11 => by (try simp at b1_11); exact (jh hX (by simp [-atD_lt, -atL_lt]; rfl))) (q:=fun b1_11 => by (try simp at b1_11); exact (js hX 2 (by simp [-atD_lt, -atL_lt]; rfl) (Runs.call [] rfl (by simp) rfl (by simp [-atD_lt, -atL_lt]; rfl) (by simp; rfl) (by apply ct_impl_within <;> first | assumption | omega | (simp at *; omega) | simp_all) cb_impl_within (by simp) (by simp) (by simp [-atD_lt, -atL_lt]; rfl) (jh hX (by simp [-atD_lt, -atL_lt]; rfl))))) (k:=(jt 1 (k:=(jm 5 19 [1, 24] (p:=fun b1_17 => by (try simp at b1_17); exact (jh hX (by simp [-atD_lt, -atL_lt]; rfl))) (q:=fun b1_17 => by (try simp at b1_17); exact (js hX 2 (by simp [-atD_lt, -atL_lt]; rfl) (Runs.call [] rfl (by simp) rfl (by simp [-atD_lt, -atL_lt]; rfl) (by simp; rfl) (by apply ct_impl_within <;> first | assumption | omega | (simp at *; omega) | simp_all) cb_impl_within (by simp) (by simp) (by simp [-atD_lt, -atL_lt]; rfl) (jh hX (by simp [-atD_lt, -atL_lt]; rfl))))) (k:=jf)))))))))))))))) ?_)
  refine jd (fun h1 => ?_) (fun h1 => ?_)
  · try simp at h1
    have hh : mthHead x = false := by unfold mthHead; grind
    refine jq [2] ?_
    refine W_ret (je0 ?_)
    rw [mthRight_no hh]
  · try simp at h1
    have hh : mthHead x = true := by unfold mthHead; grind
    refine W_skip (W_seq (jq [1, 26] ?_))
    refine jd (fun h3 => ?_) (fun h3 => ?_)
    · try simp at h3
      refine W_rseqK [2] (jt 4 (k:=(jm 4 30 [1, 34] (p:=fun b4_4 => by (try simp at b4_4); exact (jh hX (by simp [-atD_lt, -atL_lt]; rfl))) (q:=fun b4_4 => by (try simp at b4_4); exact (jh hX (by simp [-atD_lt, -atL_lt]; rfl))) (k:=(jt 1 (k:=(jm 5 35 [1, 40] (p:=fun b4_9 => by (try simp at b4_9); exact (jh hX (by simp [-atD_lt, -atL_lt]; rfl))) (q:=fun b4_9 => by (try simp at b4_9); exact (jh hX (by simp [-atD_lt, -atL_lt]; rfl))) (k:=(jt 1 (k:=(jm 5 41 [1, 46] (p:=fun b4_15 => by (try simp at b4_15); exact (jh hX (by simp [-atD_lt, -atL_lt]; rfl))) (q:=fun b4_15 => by (try simp at b4_15); exact (jh hX (by simp [-atD_lt, -atL_lt]; rfl))) (k:=(jt 1 (k:=(jm 4 47 [1, 51] (p:=fun b4_21 => by (try simp at b4_21); exact (jh hX (by simp [-atD_lt, -atL_lt]; rfl))) (q:=fun b4_21 => by (try simp at b4_21); exact (jh hX (by simp [-atD_lt, -atL_lt]; rfl))) (k:=(jt 1 (k:=(jm 4 52 [1, 56] (p:=fun b4_26 => by (try simp at b4_26); exact (jh hX (by simp [-atD_lt, -atL_lt]; rfl))) (q:=fun b4_26 => by (try simp at b4_26); exact (jh hX (by simp [-atD_lt, -atL_lt]; rfl))) (k:=(jt 1 (k:=(jm 4 57 [61] (p:=fun b4_31 => by (try simp at b4_31); exact (jh hX (by simp [-atD_lt, -atL_lt]; rfl))) (q:=fun b4_31 => by (try simp at b4_31); exact (jh hX (by simp [-atD_lt, -atL_lt]; rfl))) (k:=jr)))))))))))))))))))))))) ?_
      refine W_ret (je0 ?_)
      rw [mthRight_abs hh h3]
      simp [init]; grind
    · try simp at h3
      rw [mthRight_eq hh h3]
      refine W_skip (W_seq (jD [1, 71] (jS 1 (by simp; rfl) (jC (c:=by apply ct_impl_codeRight <;> first | assumption | omega | (simp at *; omega) | simp_all) (a:=cb_impl_codeRight) (k:=(jS 2 (by simp; rfl) (jM 6 65 [1, 71] (p:=fun b5_4 => by (try simp at b5_4); exact (jQ (by simp [-atD_lt, -atL_lt]; rfl))) (q:=fun b5_4 => by (try simp at b5_4); exact (jS 3 (by simp [-atD_lt, -atL_lt]; rfl) (jC (c:=by apply ct_impl_Method_slots <;> first | assumption | omega | (simp at *; omega) | simp_all) (a:=cb_impl_Method_slots) (k:=(jQ (by simp [-atD_lt, -atL_lt]; rfl)))))) (k:=(RunsQ.fin (by (try simp); rfl)))))))) ?_))
      refine jd (fun h5 => ?_) (fun h5 => ?_)
      · try simp at h5
        refine jq [2] ?_
        refine W_ret (je (by simp [h5]; rfl) ?_)
        rcases h5 with h5 | h5
        · simp [h5]
        · rw [decide_eq_false (p := _ ≤ _) (by omega)]; simp
      · try simp at h5
        refine W_skip (W_rseqK [2] (js hX 4 (by simp [h5]; rfl) (jm 17 75 [92] (p:=fun b7_4 => by (try simp at b7_4); exact (jh hX (by simp [-atD_lt, -atL_lt]; rfl))) (q:=fun b7_4 => by (try simp at b7_4); exact (js hX 4 (by simp [-atD_lt, -atL_lt, h5]; rfl) (jm 4 79 [1, 75, 83] (p:=fun b7_8 => by (try simp at b7_8); exact (jh hX (by simp [-atD_lt, -atL_lt, h5]; rfl))) (q:=fun b7_8 => by (try simp at b7_8); exact (jh hX (by simp [-atD_lt, -atL_lt]; rfl))) (k:=(js hX 1 (by simp [-atD_lt, -atL_lt]; rfl) (jm 7 84 [75, 91] (p:=fun b7_13 => by (try simp at b7_13); exact (js hX 2 (by simp [-atD_lt, -atL_lt, h5]; rfl) (Runs.callF rfl (by simp) rfl (by simp [-atD_lt, -atL_lt]; rfl) (by apply ct_impl_descRead <;> first | assumption | omega | (simp at *; omega) | simp_all) cb_impl_descRead (by simp [-atD_lt, -atL_lt]; rfl) (jh hX (by simp [-atD_lt, -atL_lt]; rfl))))) (q:=fun b7_13 => by (try simp at b7_13); exact (jh hX (by simp [-atD_lt, -atL_lt]; rfl))) (k:=(jh hX (by simp [-atD_lt, -atL_lt]; rfl))))))))) (k:=jr))) ?_)
        refine W_ret (je (by simp [h5]; rfl) ?_)
        rw [h5.1, decide_eq_true h5.2]
        simp only [Bool.true_and, init]
        congr 1
end Go.Proofs
namespace Go.Proofs
open Go Go.Ev


theorem cb_impl_Class_methodAt_1 : Callable Tryz.prog 232 := ⟨_, Tryz.func232, by kernel_rfl, by kernel_rfl⟩
theorem ct_impl_Class_methodAt_1 {x : Mth} {n d : Str} : Ct Tryz.prog 232 [eM x, .fp [.str n], .fp [.str d]] [] (.bool (decide (x.name = n) && decide (x.desc = d))) [] := by
  refine Ct_bodyS tok Tryz.func232 rfl 15 (by kernel_rfl) (by kernel_rfl) fun X hX => ?_
  refine jq [1, 2, 3] ?_
  refine W_rseqK [4] (jt 5 (k:=(jm 5 9 [14] (p:=fun b1_5 => by (try simp at b1_5); exact (jh hX (by simp [-atD_lt, -atL_lt]; rfl))) (q:=fun b1_5 => by (try simp at b1_5); exact (jh hX (by simp [-atD_lt, -atL_lt]; rfl))) (k:=jr)))) ?_
  refine W_ret (je0 ?_)
  simp_all
end Go.Proofs
namespace Go.Proofs
open Go Go.Ev


theorem cb_slices_IndexFunc_impl_Method_impl_Method : Callable Tryz.prog 231 := ⟨_, Tryz.func231, by kernel_rfl, by kernel_rfl⟩
theorem ct_slices_IndexFunc_impl_Method_impl_Method {n d : Str} {l : List Mth} (hl : l.length ≤ 1099511627776) : Ct Tryz.prog 231 [.lst false 9 (l.map eM), .clo (.func 232) [] [.fp [.str n], .fp [.str d]]] [] (.int .i64 (fix (fun x => decide (x.name = n) && decide (x.desc = d)) l)) [] := by
  refine Ct_bodyS tok Tryz.func231 rfl 19 (by kernel_rfl) (by kernel_rfl) fun X hX => ?_
  refine jq [0, 1] ?_
  refine W_seq (jq [0, 1, 7, 8] ?_)
  refine W_block (W_loopU (α := Nat) [0, 1, 7, 8] (fun i => [(8, .int .i64 i)]) (fun i => []) (fun i => i ≤ l.length ∧ ∀ x ∈ l.take i, (fun x => decide (x.name = n) && decide (x.desc = d)) x = false) (fun i => l.length - i) (0) (fun i => by simp; rfl) (by simp) ?_ ?_)
  · simp
  rintro i ⟨hi, hI⟩
  refine jq [0, 1, 7, 8, 9] ?_
  refine W_seq (jd (fun h2 => ?_) (fun h2 => ?_))
  · try simp at h2
    refine W_skip (W_seq (W_block (jq [0, 1, 5, 7, 8] ?_)))
    refine W_rseqK [0, 1, 5, 7, 8, 16] (js hX 5 (by simp [h2]; rfl) (jc [] (c:=(by apply ct_impl_Class_methodAt_1 <;> first | assumption | exact hs _ (List.getElem_mem h2) | omega)) (a:=cb_impl_Class_methodAt_1) (k:=jf))) ?_
    refine jd (fun h4 => ?_) (fun h4 => ?_)
    · try simp at h4
      refine jq [4] ?_
      refine W_ret (je (by simp [h2]; rfl) ?_)
      rw [fix_hit h2 hI (by simpa using h4)]
    · try simp at h4
      refine W_skip (W_reg (jh hX (by simp; (try (simp (disch := omega) only [wrap_i64]; (try simp))); rfl)) ?_)
      refine round_end (i + 1) [0, 1, 7, 8] (by simp [h2]; try (simp (disch := omega) only [wrap_i64])) ?_ ?_
      · exact ⟨by omega, take_not h2 hI (by simpa using h4)⟩
      · omega
  · try simp at h2
    refine W_exit (jq [4] ?_)
    refine W_ret (je (by simp [h2]; rfl) ?_)
    rw [fix_none (p := fun x => decide (x.name = n) && decide (x.desc = d)) (fun x hx => hI x (by rw [List.take_of_length_le h2]; exact hx))]
end Go.Proofs
namespace Go.Proofs
open Go Go.Ev


theorem cb_impl_Class_methodAt : Callable Tryz.prog 203 := ⟨_, Tryz.func203, by kernel_rfl, by kernel_rfl⟩
theorem ct_impl_Class_methodAt {x : Cls} {n d : Str} (h : x.methods.length ≤ 1099511627776) : Ct Tryz.prog 203 [eC x, .str n, .str d] [] (.int .i64 (fix (fun f => decide (f.name = n) && decide (f.desc = d)) x.methods)) [] := by
  refine Ct_bodyS tok Tryz.func203 rfl 11 (by kernel_rfl) (by kernel_rfl) fun X hX => ?_
  refine jq [3, 4, 5] ?_
  refine W_rseqK [6] (jt 3 (k:=(jB (c:=(by apply ct_slices_IndexFunc_impl_Method_impl_Method <;> first | assumption | omega | (simp at *; omega) | simp_all)) (a:=cb_slices_IndexFunc_impl_Method_impl_Method) (k:=jr)))) ?_
  refine W_ret (je0 ?_)
  simp_all
end Go.Proofs
namespace Go.Proofs
open Go Go.Ev


theorem cb_impl_ClassRight : Callable Tryz.prog 156 := ⟨_, Tryz.func156, by kernel_rfl, by kernel_rfl⟩
theorem ct_impl_ClassRight {x : Cls} (h : sizeC x ≤ 1099511627776) : Ct Tryz.prog 156 [eC x] [] (.bool (clsRight x)) [] := by
  simp only [sizeC] at h
  refine Ct_bodyS tok Tryz.func156 rfl 102 (by kernel_rfl) (by kernel_rfl) fun X hX => ?_
  refine jq [1] ?_
  refine W_seq (W_rseqK [1, 43] (jt 2 (k:=(jc [] (c:=(by apply ct_impl_NameRight <;> first | assumption | omega | (have := mem_sum (f := sizeF) (List.getElem_mem h4); simp only [sizeF] at *; (try simp only [atL_lt h4]); omega) | (have := mem_sum (f := sizeM) (List.getElem_mem h10); (try simp only [atL_lt h10]); omega))) (a:=cb_impl_NameRight) (k:=(jt 2 (k:=(jm 5 11 [1, 16] (p:=fun b1_5 => by (try simp at b1_5); exact (jh hX (by simp [-atD_lt, -atL_lt]; rfl))) (q:=fun b1_5 => by (try simp at b1_5); exact (js hX 2 (by simp [-atD_lt, -atL_lt]; rfl) (Runs.call [] rfl (by simp) rfl (by simp [-atD_lt, -atL_lt]; rfl) (by simp; rfl) (by apply ct_impl_NameRight <;> first | assumption | omega | (have := mem_sum (f := sizeF) (List.getElem_mem h4); simp only [sizeF] at *; (try simp only [atL_lt h4]); omega) | (have := mem_sum (f := sizeM) (List.getElem_mem h10); (try simp only [atL_lt h10]); omega)) cb_impl_NameRight (by simp) (by simp) (by simp [-atD_lt, -atL_lt]; rfl) (jh hX (by simp [-atD_lt, -atL_lt]; rfl))))) (k:=(jt 1 (k:=(jm 6 17 [1, 23] (p:=fun b1_11 => by (try simp at b1_11); exact (jh hX (by simp [-atD_lt, -atL_lt]; rfl))) (q:=fun b1_11 => by (try simp at b1_11); exact (jh hX (by simp [-atD_lt, -atL_lt]; rfl))) (k:=(jt 1 (k:=(jm 7 24 [1, 31] (p:=fun b1_18 => by (try simp at b1_18); exact (jh hX (by simp [-atD_lt, -atL_lt]; rfl))) (q:=fun b1_18 => by (try simp at b1_18); exact (js hX 3 (by simp [-atD_lt, -atL_lt]; rfl) (jm 3 27 [1, 24, 30] (p:=fun b1_21 => by (try simp at b1_21); exact (jh hX (by simp [-atD_lt, -atL_lt]; rfl))) (q:=fun b1_21 => by (try simp at b1_21); exact (jh hX (by simp [-atD_lt, -atL_lt]; rfl))) (k:=(jh hX (by simp [-atD_lt, -atL_lt]; rfl)))))) (k:=(jt 1 (k:=(jm 5 32 [1, 37] (p:=fun b1_26 => by (try simp at b1_26); exact (jh hX (by simp [-atD_lt, -atL_lt]; rfl))) (q:=fun b1_26 => by (try simp at b1_26); exact (jh hX (by simp [-atD_lt, -atL_lt]; rfl))) (k:=(jt 1 (k:=(jm 5 38 [1, 43] (p:=fun b1_32 => by (try simp at b1_32); exact (jh hX (by simp [-atD_lt, -atL_lt]; rfl))) (q:=fun b1_32 => by (try simp at b1_32); exact (jh hX (by simp [-atD_lt, -atL_lt, b1_32]; rfl))) (k:=jf)))))))))))))))))))))))) ?_)
  refine jd (fun h1 => ?_) (fun h1 => ?_)
  · try simp at h1
    have hh : clsHead x = false := by unfold clsHead; grind
    refine jq [2] ?_
    refine W_ret (je (by simp [h1]; rfl) ?_)
    simp [clsRight, hh]
  · try simp at h1
    have hh : clsHead x = true := by unfold clsHead; grind
    rw [show clsRight x = (fldsR [] x.fields && mthsR x.abstr [] x.methods) from by simp [clsRight, hh]]
    refine W_skip (W_seq (W_rseqK [1, 45, 46, 47] (jh hX (by simp [h1]; rfl)) ?_))
    refine W_block (W_loopU (α := Nat) [1, 45, 46, 47] (fun i => [(47, .int .i64 i)]) (fun i => []) (fun i => i ≤ x.fields.length ∧ fldsR (x.fields.take i) (x.fields.drop i) = fldsR [] x.fields) (fun i => x.fields.length - i) (0) (fun i => by simp; rfl) (by simp) ?_ ?_)
    · simp
    rintro i ⟨hi, hI⟩
    refine jq [1, 45, 46, 47, 48] ?_
    refine W_seq (jd (fun h4 => ?_) (fun h4 => ?_))
    · try simp at h4
      rw [List.drop_eq_getElem_cons h4] at hI
      simp only [fldsR] at hI
      have hfx := fix_first (p := fun f : Fld => decide (f.name = x.fields[i].name)) h4 (by simp)
      refine W_skip (W_seq (W_block (W_rseqK [1, 3, 4, 45, 46, 47] (jh hX (by simp [h1, h4]; rfl)) ?_)))
      refine W_rseqK [1, 45, 46, 47, 69] (js hX 2 (by simp [h1, h4]; rfl) (jc [] (c:=(by apply ct_impl_NameRight <;> first | assumption | omega | (have := mem_sum (f := sizeF) (List.getElem_mem h4); simp only [sizeF] at *; (try simp only [atL_lt h4]); omega) | (have := mem_sum (f := sizeM) (List.getElem_mem h10); (try simp only [atL_lt h10]); omega))) (a:=cb_impl_NameRight) (k:=(jt 2 (k:=(jm 5 56 [1, 3, 4, 45, 46, 47, 61] (p:=fun b6_5 => by (try simp at b6_5); exact (jh hX (by simp [-atD_lt, -atL_lt]; rfl))) (q:=fun b6_5 => by (try simp at b6_5); exact (js hX 2 (by simp [-atD_lt, -atL_lt, h1, h4]; rfl) (Runs.call [] rfl (by simp) rfl (by simp [-atD_lt, -atL_lt]; rfl) (by simp; rfl) (by apply ct_impl_typeRight <;> first | assumption | omega | (have := mem_sum (f := sizeF) (List.getElem_mem h4); simp only [sizeF] at *; (try simp only [atL_lt h4]); omega) | (have := mem_sum (f := sizeM) (List.getElem_mem h10); (try simp only [atL_lt h10]); omega)) cb_impl_typeRight (by simp) (by simp) (by simp [-atD_lt, -atL_lt]; rfl) (jh hX (by simp [-atD_lt, -atL_lt]; rfl))))) (k:=(jt 1 (k:=(jm 7 62 [1, 45, 46, 47, 69] (p:=fun b6_11 => by (try simp at b6_11); exact (jh hX (by simp [-atD_lt, -atL_lt]; rfl))) (q:=fun b6_11 => by (try simp at b6_11); exact (js hX 3 (by simp [-atD_lt, -atL_lt, h1, h4]; rfl) (Runs.call [] rfl (by simp) rfl (by simp [-atD_lt, -atL_lt]; rfl) (by simp; rfl) (by apply ct_impl_Class_fieldAt <;> first | assumption | omega | (have := mem_sum (f := sizeF) (List.getElem_mem h4); simp only [sizeF] at *; (try simp only [atL_lt h4]); omega) | (have := mem_sum (f := sizeM) (List.getElem_mem h10); (try simp only [atL_lt h10]); omega)) cb_impl_Class_fieldAt (by simp) (by simp) (by simp [-atD_lt, -atL_lt]; rfl) (jh hX (by simp [-atD_lt, -atL_lt]; rfl))))) (k:=jf))))))))))) ?_
      refine jd (fun h6 => ?_) (fun h6 => ?_)
      · try simp at h6
        refine jq [2] ?_
        refine W_ret (je (by simp [h1, h4]; rfl) ?_)
        have h6b : (nameRight x.fields[i].name && typeRight x.fields[i].type && (x.fields.take i).all (fun g => !decide (g.name = x.fields[i].name))) = false := by rw [← hfx]; grind
        rw [← hI, h6b]; rfl
      · try simp at h6
        have h6b : (nameRight x.fields[i].name && typeRight x.fields[i].type && (x.fields.take i).all (fun g => !decide (g.name = x.fields[i].name))) = true := by rw [← hfx]; grind
        refine W_skip (W_reg (jh hX (by simp; (try (simp (disch := omega) only [wrap_i64]; (try simp))); rfl)) ?_)
        refine round_endT (i + 1) [1, 45, 46, 47] 1 (by simp [hX]) (by simp) (by simp [h1, h4]; try (simp (disch := omega) only [wrap_i64])) ?_ ?_
        · exact ⟨by omega, by rw [List.take_succ_eq_append_getElem h4, ← hI, h6b]; simp⟩
        · omega
    · try simp at h4
      rw [List.drop_eq_nil_of_le h4] at hI
      simp only [fldsR] at hI
      rw [← hI, Bool.true_and]
      refine W_exit (W_seq (W_rseqK [1, 72, 73, 74] (jh hX (by simp [h1, h4]; rfl)) ?_))
      refine W_block (W_loopU (α := Nat) [1, 72, 73, 74] (fun i => [(74, .int .i64 i)]) (fun i => []) (fun i => i ≤ x.methods.length ∧ mthsR x.abstr (x.methods.take i) (x.methods.drop i) = mthsR x.abstr [] x.methods) (fun i => x.methods.length - i) (0) (fun i => by simp; rfl) (by simp) ?_ ?_)
      · simp
      rintro i ⟨hi2, hI2⟩
      refine jq [1, 72, 73, 74, 75] ?_
      refine W_seq (jd (fun h10 => ?_) (fun h10 => ?_))
      · try simp at h10
        rw [List.drop_eq_getElem_cons h10] at hI2
        simp only [mthsR] at hI2
        have hfx := fix_first (p := fun m : Mth => decide (m.name = x.methods[i].name) && decide (m.desc = x.methods[i].desc)) h10 (by simp)
        refine W_skip (W_seq (W_block (W_rseqK [1, 5, 6, 72, 73, 74] (jh hX (by simp [h1, h4, h10]; rfl)) ?_)))
        refine W_rseqK [1, 72, 73, 74, 100] (js hX 1 (by simp [h1, h4, h10]; rfl) (jc [] (c:=(by apply ct_impl_MethodRight <;> first | assumption | omega | (have := mem_sum (f := sizeF) (List.getElem_mem h4); simp only [sizeF] at *; (try simp only [atL_lt h4]); omega) | (have := mem_sum (f := sizeM) (List.getElem_mem h10); (try simp only [atL_lt h10]); omega))) (a:=cb_impl_MethodRight) (k:=(jt 2 (k:=(jm 8 82 [1, 5, 6, 72, 73, 74, 90] (p:=fun b12_4 => by (try simp at b12_4); exact (jh hX (by simp [-atD_lt, -atL_lt]; rfl))) (q:=fun b12_4 => by (try simp at b12_4); exact (js hX 3 (by simp [-atD_lt, -atL_lt, h1, h4, h10]; rfl) (jm 4 85 [1, 5, 6, 72, 73, 74, 82, 89] (p:=fun b12_7 => by (try simp at b12_7); exact (jh hX (by simp [-atD_lt, -atL_lt, h1, h4, h10]; rfl))) (q:=fun b12_7 => by (try simp at b12_7); exact (jh hX (by simp [-atD_lt, -atL_lt]; rfl))) (k:=(jh hX (by simp [-atD_lt, -atL_lt]; rfl)))))) (k:=(jt 1 (k:=(jm 9 91 [1, 72, 73, 74, 100] (p:=fun b12_13 => by (try simp at b12_13); exact (jh hX (by simp [-atD_lt, -atL_lt]; rfl))) (q:=fun b12_13 => by (try simp at b12_13); exact (js hX 5 (by simp [-atD_lt, -atL_lt, h1, h4, h10]; rfl) (Runs.call [] rfl (by simp) rfl (by simp [-atD_lt, -atL_lt]; rfl) (by simp; rfl) (by apply ct_impl_Class_methodAt <;> first | assumption | omega | (have := mem_sum (f := sizeF) (List.getElem_mem h4); simp only [sizeF] at *; (try simp only [atL_lt h4]); omega) | (have := mem_sum (f := sizeM) (List.getElem_mem h10); (try simp only [atL_lt h10]); omega)) cb_impl_Class_methodAt (by simp) (by simp) (by simp [-atD_lt, -atL_lt]; rfl) (jh hX (by simp [-atD_lt, -atL_lt]; rfl))))) (k:=jf))))))))))) ?_
        refine jd (fun h12 => ?_) (fun h12 => ?_)
        · try simp at h12
          refine jq [2] ?_
          refine W_ret (je (by simp [h1, h4, h10]; rfl) ?_)
          have h12b : (mthRight x.methods[i] && !(x.methods[i].abstr && !x.abstr) && (x.methods.take i).all (fun g => !(decide (g.name = x.methods[i].name) && decide (g.desc = x.methods[i].desc)))) = false := by rw [← hfx]; grind
          rw [← hI2, h12b]; rfl
        · try simp at h12
          have h12b : (mthRight x.methods[i] && !(x.methods[i].abstr && !x.abstr) && (x.methods.take i).all (fun g => !(decide (g.name = x.methods[i].name) && decide (g.desc = x.methods[i].desc)))) = true := by rw [← hfx]; grind
          refine W_skip (W_reg (jh hX (by simp; (try (simp (disch := omega) only [wrap_i64]; (try simp))); rfl)) ?_)
          refine round_endT (i + 1) [1, 72, 73, 74] 1 (by simp [hX]) (by simp) (by simp [h1, h4, h10]; try (simp (disch := omega) only [wrap_i64])) ?_ ?_
          · exact ⟨by omega, by rw [List.take_succ_eq_append_getElem h10, ← hI2, h12b]; simp⟩
          · omega
      · try simp at h10
        rw [List.drop_eq_nil_of_le h10] at hI2
        simp only [mthsR] at hI2
        rw [← hI2]
        refine W_exit (jq [2] ?_)
        refine W_ret (je (by simp [h1, h4, h10]; rfl) ?_)
        simp
end Go.Proofs
namespace Go.Proofs
open Go Go.Ev


theorem cb_impl_world_check_1 : Callable Tryz.prog 155 := ⟨_, Tryz.func155, by kernel_rfl, by kernel_rfl⟩
theorem ct_impl_world_check_1 {l : List Cls} (hl : l.length ≤ 1099511627776) {c : Cls} {k : Int} (h : sizeC c ≤ 1099511627776) : Ct Tryz.prog 155 [.int .i64 k, eC c, .fp [wv l]] [] (.int .i64 (pI1 l c k)) [] := by
  refine Ct_bodyS tok Tryz.func155 rfl 25 (by kernel_rfl) (by kernel_rfl) fun X hX => ?_
  refine jq [0, 2, 4] ?_
  refine W_seq (W_block (W_rseqK [0, 2, 4, 6] (jt 1 (k:=(jc [] (c:=(by apply ct_impl_ClassRight <;> first | assumption | omega | (simp at *; omega) | simp_all)) (a:=cb_impl_ClassRight) (k:=jr)))) ?_))
  refine jd (fun h1 => ?_) (fun h1 => ?_)
  · try simp at h1
    refine jq [5] ?_
    refine W_ret (je0 ?_)
    simp only [pI1]
    simp_all
  · try simp at h1
    refine jD [10] (jS 2 (by simp; rfl) (jC (c:=by apply ct_impl_isBuiltIn <;> first | assumption | omega | (simp at *; omega) | simp_all) (a:=cb_impl_isBuiltIn) (k:=(jS 1 (by simp; rfl) (jM 10 14 [24] (p:=fun b3_4 => by (try simp at b3_4); exact (jQ (by simp [-atD_lt, -atL_lt]; rfl))) (q:=fun b3_4 => by (try simp at b3_4); exact (jQ (by simp [-atD_lt, -atL_lt]; rfl))) (k:=(jQ (by simp; rfl)))))))) ?_
    refine jd (fun h3 => ?_) (fun h3 => ?_)
    · try simp at h3
      refine jq [5] ?_
      refine W_ret (je0 ?_)
      simp only [pI1]
      simp_all
    · try simp at h3
      refine W_skip (jq [5] ?_)
      refine W_ret (je0 ?_)
      simp only [pI1]
      simp_all
end Go.Proofs
namespace Go.Proofs
open Go Go.Ev


theorem cb_impl_world_known : Callable Tryz.prog 52 := ⟨_, Tryz.func52, by kernel_rfl, by kernel_rfl⟩
theorem ct_impl_world_known {l : List Cls} {n : Str} (hl : l.length ≤ 1099511627776) : Ct Tryz.prog 52 [wv l, .str n] [] (.bool (isKnown l n)) [] := by
  refine Ct_bodyS tok Tryz.func52 rfl 21 (by kernel_rfl) (by kernel_rfl) fun X hX => ?_
  refine jq [0, 1] ?_
  refine jq [1, 6] ?_
  refine W_rseqK [4] (jt 2 (k:=(jm 3 17 [20] (p:=fun b2_2 => by (try simp at b2_2); exact (jh hX (by simp [-atD_lt, -atL_lt]; rfl))) (q:=fun b2_2 => by (try simp at b2_2); exact (js hX 1 (by simp [-atD_lt, -atL_lt]; rfl) (Runs.call [] rfl (by simp) rfl (by simp [-atD_lt, -atL_lt]; rfl) (by simp; rfl) (by apply ct_impl_isBuiltIn <;> first | assumption | omega | (simp at *; omega) | simp_all) cb_impl_isBuiltIn (by simp) (by simp) (by simp [-atD_lt, -atL_lt]; rfl) (jh hX (by simp [-atD_lt, -atL_lt]; rfl))))) (k:=jr)))) ?_
  refine W_ret (je0 ?_)
  unfold isKnown
  simp_all [bIn, Bool.or_comm]
end Go.Proofs
namespace Go.Proofs
open Go Go.Ev


theorem cb_impl_world_class : Callable Tryz.prog 140 := ⟨_, Tryz.func140, by kernel_rfl, by kernel_rfl⟩
theorem ct_impl_world_class {l : List Cls} {n : Str} (hl : l.length ≤ 1099511627776) : Ct Tryz.prog 140 [wv l, .str n] [] (.tup [eC (clsOf l n), .bool (decide (0 ≤ findFrom n l 0))]) [] := by
  refine Ct_bodyS tok Tryz.func140 rfl 27 (by kernel_rfl) (by kernel_rfl) fun X hX => ?_
  refine jq [0, 1, 4] ?_
  refine jq [0, 4, 6, 7] ?_
  refine W_seq (jq [0, 4, 6, 18] ?_)
  refine jd (fun h2 => ?_) (fun h2 => ?_)
  · try simp at h2
    refine jq [4, 5] ?_
    refine W_ret (W_retR (by simp; rfl) ?_ rfl)
    rw [clsOf_none (by omega), decide_eq_false (p := 0 ≤ findFrom n l 0) (by omega)]
    exact Wk.tup (.cons wk_zC (.cons (Wk.refl _) .nil))
  · try simp at h2
    obtain ⟨i, hi, hf, hp, hcl, _⟩ := clsOf_found h2
    refine W_skip (W_rseqK [4, 5] (jh hX (by simp [hi, hp]; rfl)) ?_)
    refine W_ret (W_retR (by simp [hi, hp]; rfl) ?_ rfl)
    rw [hcl, decide_eq_true h2]
    exact Wk.refl _
end Go.Proofs
namespace Go.Proofs
open Go Go.Ev


theorem cb_impl_world_superCode : Callable Tryz.prog 158 := ⟨_, Tryz.func158, by kernel_rfl, by kernel_rfl⟩
theorem ct_impl_world_superCode {l : List Cls} (hl : l.length ≤ 1099511627776) {c : Cls} : Ct Tryz.prog 158 [wv l, eC c] [] (.int .i64 (superCode l c)) [] := by
  have hcase : ((decide (0 ≤ findFrom c.super l 0)) = true ∧ (clsOf l c.super).final = true) ∨ ((decide (0 ≤ findFrom c.super l 0)) = true ∧ (clsOf l c.super).final = false) ∨ ((decide (0 ≤ findFrom c.super l 0)) = false ∧ True) := by
    cases decide (0 ≤ findFrom c.super l 0) <;> cases (clsOf l c.super).final <;> simp
  rcases hcase with ⟨hc1, hc2⟩ | ⟨hc1, hc2⟩ | ⟨hc1, hc2⟩
  all_goals
    refine Ct_bodyS tok Tryz.func158 rfl 33 (by kernel_rfl) (by kernel_rfl) fun X hX => ?_
    refine jq [0, 3] ?_
    refine W_rseqK [0, 3, 5, 6] (js hX 3 (by simp [hc1, hc2]; rfl) (jF (c:=(by apply ct_impl_world_class <;> first | assumption | omega | (simp at *; omega) | simp_all)) (a:=cb_impl_world_class) (k:=(jh hX (by simp [hc1, hc2]; rfl))))) ?_
    refine W_seq (W_block (W_rseqK [3, 5, 6, 14] (js hX 3 (by simp [hc1, hc2]; rfl) (jc [] (c:=(by apply ct_impl_world_known <;> first | assumption | omega | (simp at *; omega) | simp_all)) (a:=cb_impl_world_known) (k:=jr))) ?_))
    refine jd (fun h2 => ?_) (fun h2 => ?_)
    · try simp at h2
      refine jq [4] ?_
      refine W_ret (je (by simp [hc1, hc2]; rfl) ?_)
      simp only [superCode]
      (try simp_all) <;> grind
    · try simp at h2
      first | (refine jL 10 [0, 1, 2, 3, 4, 5, 8, 9] [6, 7] [20] ([0, 1]) hX (by simp [hc1, hc2]; rfl) (jH (p:=fun X hX => jr) (k:=(jH (p:=fun X hX => jr) (k:=.nil)))) jr ?_) | (refine jL 10 [0, 1, 2, 3, 4, 5, 8, 9] [6, 7] [20] ([0, 1]) hX (by simp [hc1, hc2]; rfl) (jH (p:=fun X hX => (jc [] (c:=(by apply ct_impl_builtIn <;> first | assumption | omega | (simp at *; omega) | simp_all)) (a:=cb_impl_builtIn) (k:=jf))) (k:=(jH (p:=fun X hX => (jh hX (by simp [hc1, hc2]; rfl))) (k:=.nil)))) (jB (c:=(by apply (ct_slices_Contains_string_string (l := builtIn.drop 2)) <;> first | decide | simp)) (a:=cb_slices_Contains_string_string) (k:=jr)) ?_) | (refine jL 10 [0, 1, 2, 3, 4, 5, 8, 9] [6, 7] [20] ([0, 1]) hX (by simp [hc1, hc2]; rfl) (jH (p:=fun X hX => (jc [] (c:=(by apply ct_impl_builtIn <;> first | assumption | omega | (simp at *; omega) | simp_all)) (a:=cb_impl_builtIn) (k:=jf))) (k:=(jH (p:=fun X hX => (jh hX (by simp [hc1, hc2]; rfl))) (k:=.nil)))) (jB (c:=(by apply (ct_slices_Contains_string_string (l := builtIn.drop 2)) <;> first | decide | simp)) (a:=cb_slices_Contains_string_string) (k:=jr)) ?_)
      refine jd (fun h4 => ?_) (fun h4 => ?_)
      · try simp at h4
        all_goals
          refine jq [4] ?_
          refine W_ret (je (by simp [hc1, hc2]; rfl) ?_)
          simp only [superCode]
          (try simp_all) <;> grind
      · try simp at h4
        all_goals
          refine W_skip (jq [4] ?_)
          refine W_ret (je (by simp [hc1, hc2]; rfl) ?_)
          simp only [superCode]
          (try simp_all) <;> grind
end Go.Proofs
namespace Go.Proofs
open Go Go.Ev


theorem cb_impl_world_check_2 : Callable Tryz.prog 157 := ⟨_, Tryz.func157, by kernel_rfl, by kernel_rfl⟩
theorem ct_impl_world_check_2 {l : List Cls} (hl : l.length ≤ 1099511627776) {c : Cls} {k : Int} : Ct Tryz.prog 157 [.int .i64 k, eC c, .fp [wv l]] [] (.int .i64 (superCode l c)) [] := by
  refine Ct_bodyS tok Tryz.func157 rfl 9 (by kernel_rfl) (by kernel_rfl) fun X hX => ?_
  refine jq [2, 4] ?_
  refine W_rseqK [5] (jt 2 (k:=(jc [] (c:=(by apply ct_impl_world_superCode <;> first | assumption | omega | (simp at *; omega) | simp_all)) (a:=cb_impl_world_superCode) (k:=jr)))) ?_
  refine W_ret (je0 ?_)
  simp_all
end Go.Proofs
namespace Go.Proofs
open Go Go.Ev


theorem cb_impl_codeUnless : Callable Tryz.prog 160 := ⟨_, Tryz.func160, by kernel_rfl, by kernel_rfl⟩
theorem ct_impl_codeUnless {b : Bool} {n : Int} : Ct Tryz.prog 160 [.bool b, .int .i64 n] [] (.int .i64 (if b = true then 0 else n)) [] := by
  refine Ct_bodyS tok Tryz.func160 rfl 7 (by kernel_rfl) (by kernel_rfl) fun X hX => ?_
  refine jq [0, 1] ?_
  refine W_seq (jq [1, 5] ?_)
  refine jd (fun h1 => ?_) (fun h1 => ?_)
  · try simp at h1
    refine jq [4] ?_
    refine W_ret (je0 ?_)
    simp_all
  · try simp at h1
    refine W_skip (jq [4] ?_)
    refine W_ret (je0 ?_)
    simp_all
end Go.Proofs
namespace Go.Proofs
open Go Go.Ev


theorem cb_impl_typeClass : Callable Tryz.prog 59 := ⟨_, Tryz.func59, by kernel_rfl, by kernel_rfl⟩
theorem ct_impl_typeClass {t : Str} (ht : t.length ≤ 1099511627776) : Ct Tryz.prog 59 [.str t] [] (.str (typeClass t)) [] := by
  refine Ct_bodyS tok Tryz.func59 rfl 29 (by kernel_rfl) (by kernel_rfl) fun X hX => ?_
  refine jq [0] ?_
  refine W_seq (W_block (W_rseqK [0, 3] (jt 3 (k:=(jm 3 6 [0, 9] (p:=fun b1_3 => by (try simp at b1_3); exact (jh hX (by simp [-atD_lt, -atL_lt]; rfl))) (q:=fun b1_3 => by (try simp at b1_3); exact (jh hX (by simp [-atD_lt, -atL_lt]; rfl))) (k:=(jt 1 (k:=(jm 4 10 [0, 14] (p:=fun b1_7 => by (try simp at b1_7); exact (jh hX (by simp [-atD_lt, -atL_lt]; rfl))) (q:=fun b1_7 => by (try simp at b1_7); exact (js hX 1 (by simp [-atD_lt, -atL_lt]; rfl) (Runs.call [] rfl (by simp) rfl (by simp [-atD_lt, -atL_lt]; rfl) (by simp; rfl) (by apply ct_impl_typeRight <;> first | assumption | omega | (simp at *; omega) | simp_all) cb_impl_typeRight (by simp) (by simp) (by simp [-atD_lt, -atL_lt]; rfl) (jh hX (by simp [-atD_lt, -atL_lt]; rfl))))) (k:=jr)))))))) ?_))
  refine jd (fun h1 => ?_) (fun h1 => ?_)
  · try simp at h1
    have hx : typeClass t = [] := typeClass_no (fun e => by
      rcases h1 with (h1 | h1) | h1
      · exact .inl h1
      · exact .inr h1
      · rw [h1] at e; cases e)
    refine jq [2] ?_
    refine W_ret (je0 ?_)
    rw [hx]
  · try simp at h1
    obtain ⟨hl1, hl2, hx⟩ := typeClass_eq h1.2 h1.1.1 h1.1.2
    rw [hx]
    have hl0 : 0 < t.length := by omega
    have hat := isAt_lt (n := 91) hl0
    have hs1 : 0 ≤ (t.length : Int) - 1 := by omega
    have hs2 : ((t.length : Int) - 1).toNat = t.length - 1 := by omega
    have hs3 : t.length - 1 ≤ t.length := by omega
    have hs4 : 1 ≤ t.length - 1 := by omega
    have hs6 : 1 ≤ t.length := by omega
    refine W_rseqK [0, 15] (jh hX (by simp [hl0, hs1, hs2, hs3, hs4, hs6]; rfl)) ?_
    refine jd (fun h3 => ?_) (fun h3 => ?_)
    · try simp at h3
      have h3b : isAt t 0 91 = true := by rw [hat]; simpa using h3
      have hs5 : 2 ≤ t.length - 1 := by have := hl2 h3b; omega
      rw [if_pos h3b]
      refine W_rseqK [2] (jh hX (by simp [hl0, hs1, hs2, hs3, hs4, hs6, hs5]; (try (simp (disch := omega) only [wrap_i64]; (try simp [hl0, hs1, hs2, hs3, hs4, hs6, hs5]))); rfl)) ?_
      refine W_ret (je (by simp [hl0, hs1, hs2, hs3, hs4, hs6, hs5]; rfl) ?_)
      simp [seg]
    · try simp at h3
      have h3b : isAt t 0 91 = false := by rw [hat]; simpa using h3
      rw [if_neg (by simp [h3b])]
      refine W_skip (W_rseqK [2] (jh hX (by simp [hl0, hs1, hs2, hs3, hs4, hs6]; (try (simp (disch := omega) only [wrap_i64]; (try simp [hl0, hs1, hs2, hs3, hs4, hs6]))); rfl)) ?_)
      refine W_ret (je (by simp [hl0, hs1, hs2, hs3, hs4, hs6]; rfl) ?_)
      simp [seg]
end Go.Proofs
namespace Go.Proofs
open Go Go.Ev


theorem cb_impl_world_namesOK_1 : Callable Tryz.prog 204 := ⟨_, Tryz.func204, by kernel_rfl, by kernel_rfl⟩
theorem ct_impl_world_namesOK_1 {l : List Cls} (hl : l.length ≤ 1099511627776) {t : Str} (ht : t.length ≤ 1099511627776) : Ct Tryz.prog 204 [.str t, .fp [wv l]] [] (.bool (typeK l t)) [] := by
  refine Ct_bodyS tok Tryz.func204 rfl 14 (by kernel_rfl) (by kernel_rfl) fun X hX => ?_
  refine jq [0, 1] ?_
  refine W_rseqK [1, 4] (jt 1 (k:=(jc [] (c:=(by apply ct_impl_typeClass <;> first | assumption | omega | (simp at *; omega) | simp_all)) (a:=cb_impl_typeClass) (k:=jr)))) ?_
  refine W_rseqK [3] (jt 3 (k:=(jm 4 9 [13] (p:=fun b2_3 => by (try simp at b2_3); exact (jh hX (by simp [-atD_lt, -atL_lt]; rfl))) (q:=fun b2_3 => by (try simp at b2_3); exact (js hX 2 (by simp [-atD_lt, -atL_lt]; rfl) (Runs.call [] rfl (by simp) rfl (by simp [-atD_lt, -atL_lt]; rfl) (by simp; rfl) (by apply ct_impl_world_known <;> first | assumption | omega | (simp at *; omega) | simp_all) cb_impl_world_known (by simp) (by simp) (by simp [-atD_lt, -atL_lt]; rfl) (jh hX (by simp [-atD_lt, -atL_lt]; rfl))))) (k:=jr)))) ?_
  refine W_ret (je0 ?_)
  rw [← typeK_of]
end Go.Proofs
namespace Go.Proofs
open Go Go.Ev


theorem cb_impl_world_namesOK_2 : Callable Tryz.prog 207 := ⟨_, Tryz.func207, by kernel_rfl, by kernel_rfl⟩
theorem ct_impl_world_namesOK_2 {l : List Cls} (hl : l.length ≤ 1099511627776) {t : Str} (ht : t.length ≤ 1099511627776) : Ct Tryz.prog 207 [.str t, .fp [.clo (.func 204) [] [.fp [wv l]]]] [] (.bool (!typeK l t)) [] := by
  refine Ct_bodyS tok Tryz.func207 rfl 8 (by kernel_rfl) (by kernel_rfl) fun X hX => ?_
  refine jq [0, 1] ?_
  refine W_rseqK [3] (jt 2 (k:=(jc [] (c:=(by apply ct_impl_world_namesOK_1 <;> first | assumption | omega | (simp at *; omega) | simp_all)) (a:=cb_impl_world_namesOK_1) (k:=jr)))) ?_
  refine W_ret (je0 ?_)
  simp_all
end Go.Proofs
namespace Go.Proofs
open Go Go.Ev


theorem cb_slices_IndexFunc_string_string : Callable Tryz.prog 233 := ⟨_, Tryz.func233, by kernel_rfl, by kernel_rfl⟩
theorem ct_slices_IndexFunc_string_string {cs : List Cls} (hc : cs.length ≤ 1099511627776) {l : List Str} (hl : l.length ≤ 1099511627776) (hs : ∀ x ∈ l, x.length ≤ 1099511627776) : Ct Tryz.prog 233 [.lst false 1 (l.map V.str), .clo (.func 207) [] [.fp [.clo (.func 204) [] [.fp [wv cs]]]]] [] (.int .i64 (fix (fun t => !typeK cs t) l)) [] := by
  refine Ct_bodyS tok Tryz.func233 rfl 19 (by kernel_rfl) (by kernel_rfl) fun X hX => ?_
  refine jq [0, 1] ?_
  refine W_seq (jq [0, 1, 7, 8] ?_)
  refine W_block (W_loopU (α := Nat) [0, 1, 7, 8] (fun i => [(8, .int .i64 i)]) (fun i => []) (fun i => i ≤ l.length ∧ ∀ x ∈ l.take i, (fun t => !typeK cs t) x = false) (fun i => l.length - i) (0) (fun i => by simp; rfl) (by simp) ?_ ?_)
  · simp
  rintro i ⟨hi, hI⟩
  refine jq [0, 1, 7, 8, 9] ?_
  refine W_seq (jd (fun h2 => ?_) (fun h2 => ?_))
  · try simp at h2
    refine W_skip (W_seq (W_block (jq [0, 1, 5, 7, 8] ?_)))
    refine W_rseqK [0, 1, 5, 7, 8, 16] (js hX 5 (by simp [h2]; rfl) (jc [] (c:=(by apply ct_impl_world_namesOK_2 <;> first | assumption | exact hs _ (List.getElem_mem h2) | omega)) (a:=cb_impl_world_namesOK_2) (k:=jf))) ?_
    refine jd (fun h4 => ?_) (fun h4 => ?_)
    · try simp at h4
      refine jq [4] ?_
      refine W_ret (je (by simp [h2]; rfl) ?_)
      rw [fix_hit h2 hI (by simpa using h4)]
    · try simp at h4
      refine W_skip (W_reg (jh hX (by simp; (try (simp (disch := omega) only [wrap_i64]; (try simp))); rfl)) ?_)
      refine round_end (i + 1) [0, 1, 7, 8] (by simp [h2]; try (simp (disch := omega) only [wrap_i64])) ?_ ?_
      · exact ⟨by omega, take_not h2 hI (by simpa using h4)⟩
      · omega
  · try simp at h2
    refine W_exit (jq [4] ?_)
    refine W_ret (je (by simp [h2]; rfl) ?_)
    rw [fix_none (p := fun t => !typeK cs t) (fun x hx => hI x (by rw [List.take_of_length_le h2]; exact hx))]
end Go.Proofs
namespace Go.Proofs
open Go Go.Ev


theorem cb_slices_ContainsFunc_string_string : Callable Tryz.prog 206 := ⟨_, Tryz.func206, by kernel_rfl, by kernel_rfl⟩
theorem ct_slices_ContainsFunc_string_string {cs : List Cls} (hc : cs.length ≤ 1099511627776) {l : List Str} (hl : l.length ≤ 1099511627776) (hs : ∀ x ∈ l, x.length ≤ 1099511627776) : Ct Tryz.prog 206 [.lst false 1 (l.map V.str), .clo (.func 207) [] [.fp [.clo (.func 204) [] [.fp [wv cs]]]]] [] (.bool (l.any (fun t => !typeK cs t))) [] := by
  refine Ct_bodyS tok Tryz.func206 rfl 9 (by kernel_rfl) (by kernel_rfl) fun X hX => ?_
  refine jq [0, 1] ?_
  refine W_rseqK [4] (jt 2 (k:=(jc [] (c:=(by apply ct_slices_IndexFunc_string_string <;> first | assumption | omega | (simp at *; omega) | simp_all)) (a:=cb_slices_IndexFunc_string_string) (k:=jr)))) ?_
  refine W_ret (je0 ?_)
  rw [← fix_ge]
end Go.Proofs
namespace Go.Proofs
open Go Go.Ev


theorem cb_impl_world_namesOK : Callable Tryz.prog 161 := ⟨_, Tryz.func161, by kernel_rfl, by kernel_rfl⟩
theorem ct_impl_world_namesOK {l : List Cls} (hl : l.length ≤ 1099511627776) {c : Cls} (h : sizeC c ≤ 1099511627776) : Ct Tryz.prog 161 [wv l, eC c] [] (.bool (clsKI l c)) [] := by
  simp only [sizeC] at h
  refine Ct_bodyS tok Tryz.func161 rfl 48 (by kernel_rfl) (by kernel_rfl) fun X hX => ?_
  refine jq [2, 3] ?_
  refine jq [3, 5] ?_
  refine W_seq (jq [3, 5, 13, 14, 15] ?_)
  refine W_block (W_loopU (α := Nat) [3, 5, 13, 14, 15] (fun i => [(15, .int .i64 i)]) (fun i => []) (fun i => i ≤ c.fields.length ∧ (c.fields.drop i).all (fun f => typeK l f.type) = c.fields.all (fun f => typeK l f.type)) (fun i => c.fields.length - i) (0) (fun i => by simp; rfl) (by simp) ?_ ?_)
  · simp
  rintro i ⟨hi, hI⟩
  refine jq [3, 5, 13, 14, 15, 16] ?_
  refine W_seq (jd (fun h3 => ?_) (fun h3 => ?_))
  · try simp at h3
    rw [all_drop h3] at hI
    refine W_skip (W_seq (W_block (W_rseqK [3, 5, 7, 13, 14, 15] (jh hX (by simp [h3]; rfl)) ?_)))
    refine W_rseqK [3, 5, 13, 14, 15, 23] (js hX 3 (by simp [h3]; rfl) (jB (c:=(by apply ct_impl_world_namesOK_1 <;> first | assumption | omega | (have := mem_sum (f := sizeF) (List.getElem_mem h3); simp only [sizeF] at *; (try simp only [atL_lt h3]); omega) | (have := mem_sum (f := sizeM) (List.getElem_mem h9); simp only [sizeM] at *; (try simp only [atL_lt h9]); omega))) (a:=cb_impl_world_namesOK_1) (k:=jr))) ?_
    refine jd (fun h5 => ?_) (fun h5 => ?_)
    · try simp at h5
      refine jq [4] ?_
      refine W_ret (je (by simp [h3]; rfl) ?_)
      simp [clsKI, ← hI, h5]
    · try simp at h5
      rw [h5, Bool.true_and] at hI
      refine W_skip (W_reg (jh hX (by simp; (try (simp (disch := omega) only [wrap_i64]; (try simp))); rfl)) ?_)
      refine round_endT (i + 1) [3, 5, 13, 14, 15] 3 (by simp [hX]) (by simp) (by simp [h3]; try (simp (disch := omega) only [wrap_i64])) ?_ ?_
      · exact ⟨by omega, hI⟩
      · omega
  · try simp at h3
    rw [List.drop_eq_nil_of_le h3] at hI
    refine W_exit (W_seq (W_rseqK [5, 26, 27, 28] (jh hX (by simp [h3]; rfl)) ?_))
    refine W_block (W_loopU (α := Nat) [5, 26, 27, 28] (fun i => [(28, .int .i64 i)]) (fun i => []) (fun i => i ≤ c.methods.length ∧ (c.methods.drop i).all (fun m => descKI l m.desc) = c.methods.all (fun m => descKI l m.desc)) (fun i => c.methods.length - i) (0) (fun i => by simp; rfl) (by simp) ?_ ?_)
    · simp
    rintro i ⟨hi2, hI2⟩
    refine jq [5, 26, 27, 28, 29] ?_
    refine W_seq (jd (fun h9 => ?_) (fun h9 => ?_))
    · try simp at h9
      rw [all_drop h9] at hI2
      have hdp := dRead_parts c.methods[i].desc
      have hd8 := dRead_le c.methods[i].desc
      have hdl : c.methods[i].desc.length ≤ 1099511627776 := by have := mem_sum (f := sizeM) (List.getElem_mem h9); simp only [sizeM] at *; omega
      refine W_skip (W_seq (W_block (W_rseqK [5, 9, 26, 27, 28] (jh hX (by simp [h3, h9]; rfl)) ?_)))
      refine W_rseqK [5, 10, 26, 27, 28] (js hX 2 (by simp [h3, h9]; rfl) (jF (c:=(by apply ct_impl_descRead <;> first | assumption | omega | (have := mem_sum (f := sizeF) (List.getElem_mem h3); simp only [sizeF] at *; (try simp only [atL_lt h3]); omega) | (have := mem_sum (f := sizeM) (List.getElem_mem h9); simp only [sizeM] at *; (try simp only [atL_lt h9]); omega))) (a:=cb_impl_descRead) (k:=(jh hX (by simp [h3, h9]; rfl))))) ?_
      refine W_rseqK [5, 26, 27, 28, 46] (js hX 3 (by simp [h3, h9]; rfl) (jB (c:=(by apply ct_impl_world_namesOK_1 <;> first | assumption | exact Nat.le_trans hdp.1 hdl)) (a:=cb_impl_world_namesOK_1) (k:=(jt 2 (k:=(jm 5 41 [5, 26, 27, 28, 46] (p:=fun b12_6 => by (try simp at b12_6); exact (jh hX (by simp [-atD_lt, -atL_lt]; rfl))) (q:=fun b12_6 => by (try simp at b12_6); exact (js hX 3 (by simp [-atD_lt, -atL_lt, h3, h9]; rfl) (Runs.callB2 rfl (by simp) rfl (by simp [-atD_lt, -atL_lt]; rfl) (by apply ct_slices_ContainsFunc_string_string <;> first | assumption | omega | exact fun x hx => Nat.le_trans (hdp.2 x hx) hdl) cb_slices_ContainsFunc_string_string (by simp) (by simp [-atD_lt, -atL_lt]; rfl) (jh hX (by simp [-atD_lt, -atL_lt]; rfl))))) (k:=jf))))))) ?_
      refine jd (fun h12 => ?_) (fun h12 => ?_)
      · try simp at h12
        refine jq [4] ?_
        refine W_ret (je (by simp [h3, h9]; rfl) ?_)
        have h12b : descKI l c.methods[i].desc = false := by
          rw [Bool.eq_false_iff]
          intro e
          simp only [descKI, Bool.and_eq_true, List.all_eq_true] at e
          rcases h12 with h | ⟨x, hx, h⟩
          · rw [e.1] at h; cases h
          · rw [e.2 x hx] at h; cases h
        simp [clsKI, ← hI2, h12b]
      · try simp at h12
        have h12b : descKI l c.methods[i].desc = true := by
          simp only [descKI, Bool.and_eq_true, List.all_eq_true]
          exact h12
        rw [h12b, Bool.true_and] at hI2
        refine W_skip (W_reg (jh hX (by simp; (try (simp (disch := omega) only [wrap_i64]; (try simp))); rfl)) ?_)
        refine round_endT (i + 1) [5, 26, 27, 28] 3 (by simp [hX]) (by simp) (by simp [h3, h9]; try (simp (disch := omega) only [wrap_i64])) ?_ ?_
        · exact ⟨by omega, hI2⟩
        · omega
    · try simp at h9
      rw [List.drop_eq_nil_of_le h9] at hI2
      refine W_exit (jq [4] ?_)
      refine W_ret (je (by simp [h3, h9]; rfl) ?_)
      simp [clsKI, ← hI, ← hI2]
end Go.Proofs
namespace Go.Proofs
open Go Go.Ev


theorem cb_impl_world_check_3 : Callable Tryz.prog 159 := ⟨_, Tryz.func159, by kernel_rfl, by kernel_rfl⟩
theorem ct_impl_world_check_3 {l : List Cls} (hl : l.length ≤ 1099511627776) {c : Cls} {k : Int} (h : sizeC c ≤ 1099511627776) : Ct Tryz.prog 159 [.int .i64 k, eC c, .fp [wv l]] [] (.int .i64 (pI3 l c)) [] := by
  refine Ct_bodyS tok Tryz.func159 rfl 10 (by kernel_rfl) (by kernel_rfl) fun X hX => ?_
  refine jq [2, 4] ?_
  refine W_rseqK [5] (jt 2 (k:=(jc [] (c:=(by apply ct_impl_world_namesOK <;> first | assumption | omega | (simp at *; omega) | simp_all)) (a:=cb_impl_world_namesOK) (k:=(jc [] (c:=(by apply ct_impl_codeUnless <;> first | assumption | omega | (simp at *; omega) | simp_all)) (a:=cb_impl_codeUnless) (k:=jr)))))) ?_
  refine W_ret (je0 ?_)
  unfold pI3
  rfl
end Go.Proofs
namespace Go.Proofs
open Go Go.Ev


theorem cb_impl_world_super : Callable Tryz.prog 185 := ⟨_, Tryz.func185, by kernel_rfl, by kernel_rfl⟩
theorem ct_impl_world_super {l : List Cls} (hl : l.length ≤ 1099511627776) {n : Str} : Ct Tryz.prog 185 [wv l, .str n] [] (.str (superI l n)) [] := by
  refine Ct_bodyS tok Tryz.func185 rfl 28 (by kernel_rfl) (by kernel_rfl) fun X hX => ?_
  refine jq [0, 1] ?_
  refine W_rseqK [1, 5, 6] (jt 2 (k:=(jF (c:=(by apply ct_impl_world_class <;> first | assumption | omega | (simp at *; omega) | simp_all)) (a:=cb_impl_world_class) (k:=jr)))) ?_
  refine W_seq (W_block (jq [1, 5, 13] ?_))
  refine jd (fun h2 => ?_) (fun h2 => ?_)
  · try simp at h2
    refine jq [4] ?_
    refine W_ret (je0 ?_)
    simp only [superI, sObject, sError]
    (try simp_all) <;> grind
  · try simp at h2
    refine W_rseqK [1, 17] (jt 1 (k:=(jc [] (c:=(by apply ct_impl_isBuiltIn <;> first | assumption | omega | (simp at *; omega) | simp_all)) (a:=cb_impl_isBuiltIn) (k:=(jt 2 (k:=(jm 3 21 [1, 24] (p:=fun b4_4 => by (try simp at b4_4); exact (jh hX (by simp [-atD_lt, -atL_lt]; rfl))) (q:=fun b4_4 => by (try simp at b4_4); exact (jh hX (by simp [-atD_lt, -atL_lt]; rfl))) (k:=jr)))))))) ?_
    refine jd (fun h4 => ?_) (fun h4 => ?_)
    · try simp at h4
      refine jq [4] ?_
      refine W_ret (je0 ?_)
      simp only [superI, sObject, sError]
      (try simp_all) <;> grind
    · try simp at h4
      refine jq [25] ?_
      refine jd (fun h6 => ?_) (fun h6 => ?_)
      · try simp at h6
        refine jq [4] ?_
        refine W_ret (je0 ?_)
        simp only [superI, sObject, sError]
        (try simp_all) <;> grind
      · try simp at h6
        refine W_skip (jq [4] ?_)
        refine W_ret (je0 ?_)
        simp only [superI, sObject, sError]
        (try simp_all) <;> grind
end Go.Proofs
namespace Go.Proofs
open Go Go.Ev


theorem cb_impl_world_chain : Callable Tryz.prog 139 := ⟨_, Tryz.func139, by kernel_rfl, by kernel_rfl⟩
theorem ct_impl_world_chain {l : List Cls} (hl : l.length ≤ 1048576) {n : Str} : Ct Tryz.prog 139 [wv l, .str n] [] (.lst true 1 ((chain l n).map V.str)) [] := by
  refine Ct_bodyS tok Tryz.func139 rfl 24 (by kernel_rfl) (by kernel_rfl) fun X hX => ?_
  refine W_rseqK [0, 1] (jh hX (by simp [Go.Ev.seen]; rfl)) ?_
  refine W_rseqK [0, 1, 5] (jh hX (by simp [Go.Ev.seen]; rfl)) ?_
  refine W_seq (W_block (W_loopU (α := List Str × Str) [0, 1, 5] (fun a => [(1, .str a.2), (5, .arr 0 0 a.1.length)]) (fun a => [(0, some (1, a.1.map V.str))]) (fun a => a.1.length + cMu l a.1 ≤ 8 + l.length ∧ chn l a.1 a.2 = chain l n) (fun a => cMu l a.1) (([], n)) (fun a => by simp; rfl) (by simp) ?_ ?_))
  · exact ⟨by simpa using cMu_le l [], rfl⟩
  rintro ⟨o, s⟩ ⟨hn, hI⟩
  simp only at hn hI
  have w0 : o.length ≤ 1099511627776 := by omega
  have w1 : (o.length + 1) * 16 ≤ 140737488355328 := by omega
  have w2 : o.length ≤ 1099511627775 := by omega
  refine W_seq (W_rseqK [0, 1, 5, 15] (js hX 2 (by simp [Go.Ev.seen]; rfl) (Runs.call [] rfl (by simp) rfl (by simp [Go.Ev.seen]; rfl) (by simp; rfl) (by apply ct_impl_world_known <;> first | assumption | omega | (simp at *; omega) | simp_all) cb_impl_world_known (by simp) (by simp) (by simp [Go.Ev.seen]; rfl) (js hX 1 (by simp [Go.Ev.seen]; rfl) (jm 5 10 [0, 1, 5, 15] (p:=fun b2_4 => by (try simp at b2_4); exact (js hX 2 (by simp [-atD_lt, -atL_lt, Go.Ev.seen]; rfl) (Runs.callB rfl (by simp) rfl (by simp [-atD_lt, -atL_lt, Go.Ev.seen]; rfl) (by apply ct_slices_Contains_string_string <;> first | assumption | omega | (simp at *; omega) | simp_all) cb_slices_Contains_string_string (by simp) (by simp [-atD_lt, -atL_lt, Go.Ev.seen]; rfl) (jh hX (by simp [-atD_lt, -atL_lt, Go.Ev.seen]; rfl))))) (q:=fun b2_4 => by (try simp at b2_4); exact (jh hX (by simp [-atD_lt, -atL_lt, Go.Ev.seen]; rfl))) (k:=jf))))) ?_)
  refine jd (fun h2 => ?_) (fun h2 => ?_)
  · try simp at h2
    have h2b : out o s = false := by
      rw [Bool.eq_false_iff]; intro e
      exact h2.2 _ (out_iff.1 e) rfl
    have hlt := cMu_lt h2.1 h2b
    rw [chn_go h2.1 h2b] at hI
    refine W_skip (W_block (W_rseqK [0, 1, 5] (jh hX (by simp [w1, w2, Go.Ev.seen]; rfl)) ?_))
    refine W_reg (js hX 2 (by simp [Go.Ev.seen]; rfl) (Runs.call [] rfl (by simp) rfl (by simp [Go.Ev.seen]; rfl) (by simp; rfl) (by apply ct_impl_world_super <;> first | assumption | omega | (simp at *; omega) | simp_all) cb_impl_world_super (by simp) (by simp) (by simp [Go.Ev.seen]; rfl) (jh hX (by simp [Go.Ev.seen]; rfl)))) ?_
    refine round_endT ((o ++ [s], superI l s)) [0, 1, 5] 1 (by simp [hX]) (by simp) (by simp [w1, w2]; try (simp (disch := omega) only [wrap_i64])) ?_ ?_
    · exact ⟨by simp; omega, hI⟩
    · exact hlt
  · try simp at h2
    have h2b : ¬ (isKnown l s = true ∧ out o s = false) := fun e => by have h3 := h2 e.1; rw [out_iff.2 h3] at e; cases e.2
    rw [chn_stop h2b] at hI
    refine W_exit (W_rseqK [4] (jh hX (by simp [Go.Ev.seen]; rfl)) ?_)
    refine W_ret (W_retR (by simp [w1, w2, Go.Ev.seen]; rfl) ?_ rfl)
    rw [← hI]
    exact Wk.refl _
end Go.Proofs
namespace Go.Proofs
open Go Go.Ev


theorem cb_impl_world_cycles : Callable Tryz.prog 163 := ⟨_, Tryz.func163, by kernel_rfl, by kernel_rfl⟩
theorem ct_impl_world_cycles {l : List Cls} (hl : l.length ≤ 1048576) {n : Str} (hk : isKnown l n = true) : Ct Tryz.prog 163 [wv l, .str n] [] (.bool (cycI l n)) [] := by
  obtain ⟨ys, hy⟩ := chain_cons hk
  have hcl := chain_len l n
  have hc1 : 0 < (chain l n).length := by rw [hy]; simp
  have hw : ((chain l n).length : Int) - 1 = (((chain l n).length - 1 : Nat) : Int) := by omega
  have hc2 : (chain l n).length - 1 < (chain l n).length := by omega
  have hc3 : IntKind.i64.wrap ((((chain l n).length - 1 : Nat) : Int)) = (((chain l n).length - 1 : Nat) : Int) := wrap_i64 (by omega) (by omega)
  refine Ct_bodyS tok Tryz.func163 rfl 19 (by kernel_rfl) (by kernel_rfl) fun X hX => ?_
  refine W_rseqK [0, 1] (jh hX (by simp [hw, hc2, hc3]; rfl)) ?_
  refine W_rseqK [0, 1, 5] (js hX 2 (by simp [hw, hc2, hc3]; rfl) (Runs.callF rfl (by simp) rfl (by simp [hw, hc2, hc3]; rfl) (by apply ct_impl_world_chain <;> first | assumption | omega) cb_impl_world_chain (by simp [hw, hc2, hc3]; rfl) (jh hX (by simp [hw, hc2, hc3]; rfl)))) ?_
  refine W_rseqK [4] (js hX 7 (by simp [hw, hc2, hc3]; (try (simp (disch := omega) only [wrap_i64]; (try simp [hw, hc2, hc3]))); rfl) (Runs.call [] rfl (by simp) rfl (by simp [hw, hc2, hc3]; rfl) (by simp; rfl) (by apply ct_impl_world_super <;> first | assumption | omega) cb_impl_world_super (by simp) (by simp) (by simp [hw, hc2, hc3]; rfl) (jh hX (by simp [hw, hc2, hc3]; rfl)))) ?_
  refine W_ret (je (by simp [hw, hc2, hc3]; rfl) ?_)
  simp [cycI, hc2]
end Go.Proofs
namespace Go.Proofs
open Go Go.Ev


theorem cb_impl_world_check_4 : Callable Tryz.prog 162 := ⟨_, Tryz.func162, by kernel_rfl, by kernel_rfl⟩
theorem ct_impl_world_check_4 {l : List Cls} (hl : l.length ≤ 1048576) {c : Cls} {k : Int} (hk : isKnown l c.name = true) : Ct Tryz.prog 162 [.int .i64 k, eC c, .fp [wv l]] [] (.int .i64 (pI4 l c)) [] := by
  refine Ct_bodyS tok Tryz.func162 rfl 12 (by kernel_rfl) (by kernel_rfl) fun X hX => ?_
  refine jq [2, 4] ?_
  refine W_rseqK [5] (jt 3 (k:=(jc [] (c:=(by apply ct_impl_world_cycles <;> first | assumption | omega | (simp at *; omega) | simp_all)) (a:=cb_impl_world_cycles) (k:=(jt 1 (k:=(jc [] (c:=(by apply ct_impl_codeUnless <;> first | assumption | omega | (simp at *; omega) | simp_all)) (a:=cb_impl_codeUnless) (k:=jr)))))))) ?_
  refine W_ret (je0 ?_)
  simp only [pI4]
  cases cycI l c.name <;> simp
end Go.Proofs
namespace Go.Proofs
open Go Go.Ev


theorem cb_impl_world_methodUp : Callable Tryz.prog 208 := ⟨_, Tryz.func208, by kernel_rfl, by kernel_rfl⟩
theorem ct_impl_world_methodUp {l : List Cls} (hl : l.length ≤ 1048576) (hs : sizeL l ≤ 1099511627776) {c n d : Str} : Ct Tryz.prog 208 [wv l, .str c, .str n, .str d] [] (.tup [eM ((mUp l n d (chain l c)).getD zM), .bool (mUp l n d (chain l c)).isSome]) [] := by
  have hcl := chain_len l c
  refine Ct_bodyS tok Tryz.func208 rfl 42 (by kernel_rfl) (by kernel_rfl) fun X hX => ?_
  refine W_rseqK [0, 1, 2, 3, 8] (jh hX (by simp [fix_mth]; rfl)) ?_
  refine W_seq (W_rseqK [0, 2, 3, 8, 17, 18, 19] (js hX 2 (by simp [fix_mth]; rfl) (Runs.callF rfl (by simp) rfl (by simp [fix_mth]; rfl) (by apply ct_impl_world_chain <;> first | assumption | omega | exact clsOf_sizes hs) cb_impl_world_chain (by simp [fix_mth]; rfl) (jh hX (by simp [fix_mth]; rfl)))) ?_)
  refine W_block (W_loopU (α := Nat) [0, 2, 3, 8, 17, 18, 19] (fun i => [(19, .int .i64 i)]) (fun i => []) (fun i => i ≤ (chain l c).length ∧ mUp l n d ((chain l c).drop i) = mUp l n d (chain l c)) (fun i => (chain l c).length - i) (0) (fun i => by simp; rfl) (by simp) ?_ ?_)
  · simp
  rintro i ⟨hi, hI⟩
  refine W_rseqK [0, 2, 3, 8, 17, 18, 19, 20] (jh hX (by simp [fix_mth]; rfl)) ?_
  refine W_seq (jd (fun h2 => ?_) (fun h2 => ?_))
  · try simp at h2
    rw [List.drop_eq_getElem_cons h2] at hI
    simp only [mUp] at hI
    refine W_skip (W_seq (W_block (W_rseqK [0, 2, 3, 8, 11, 17, 18, 19] (jh hX (by simp [h2, fix_mth]; rfl)) ?_)))
    refine W_rseqK [0, 2, 3, 8, 12, 17, 18, 19] (js hX 2 (by simp [fix_mth]; rfl) (Runs.callF rfl (by simp) rfl (by simp [fix_mth]; rfl) (by apply ct_impl_world_class <;> first | assumption | omega | exact clsOf_sizes hs) cb_impl_world_class (by simp [fix_mth]; rfl) (jh hX (by simp [h2, fix_mth]; rfl)))) ?_
    refine W_rseqK [0, 2, 3, 8, 12, 14, 17, 18, 19] (js hX 3 (by simp [h2, fix_mth]; rfl) (Runs.call [] rfl (by simp) rfl (by simp [fix_mth]; rfl) (by simp; rfl) (by apply ct_impl_Class_methodAt <;> first | assumption | omega | exact clsOf_sizes hs) cb_impl_Class_methodAt (by simp) (by simp) (by simp [fix_mth]; rfl) (jh hX (by simp [fix_mth]; rfl)))) ?_
    refine W_rseqK [0, 2, 3, 8, 12, 14, 17, 18, 19, 34] (jh hX (by simp [fix_mth]; rfl)) ?_
    refine jd (fun h6 => ?_) (fun h6 => ?_)
    · try simp at h6
      rw [if_pos h6] at hI
      rw [← hI]
      obtain ⟨j, hj, hjm⟩ := mthFrom_nat h6
      refine W_rseqK [8, 9] (jh hX (by simp [h2, h6, hj, hjm, fix_mth]; rfl)) ?_
      refine W_ret (W_retR (by simp [h2, h6, hj, hjm, fix_mth]; rfl) ?_ rfl)
      simp only [hjm]
      simp [hj]
      exact Wk.refl _
    · try simp at h6
      rw [if_neg (by omega)] at hI
      refine W_skip (W_reg (jh hX (by simp [fix_mth]; (try (simp (disch := omega) only [wrap_i64]; (try simp [fix_mth]))); rfl)) ?_)
      refine round_endT (i + 1) [0, 2, 3, 8, 17, 18, 19] 1 (by simp [hX]) (by simp) (by simp [h2, h6]; try (simp (disch := omega) only [wrap_i64])) ?_ ?_
      · exact ⟨by omega, hI⟩
      · omega
  · try simp at h2
    rw [List.drop_eq_nil_of_le h2] at hI
    simp only [mUp] at hI
    rw [← hI]
    refine W_exit (W_rseqK [8, 9] (jh hX (by simp [h2, fix_mth]; rfl)) ?_)
    refine W_ret (W_retR (by simp [h2, fix_mth]; rfl) ?_ rfl)
    exact Wk.tup (.cons wk_zM (.cons (Wk.refl _) .nil))
end Go.Proofs
namespace Go.Proofs
open Go Go.Ev


theorem cb_impl_world_accessOK : Callable Tryz.prog 165 := ⟨_, Tryz.func165, by kernel_rfl, by kernel_rfl⟩
theorem ct_impl_world_accessOK {l : List Cls} (hl : l.length ≤ 1048576) (hs : sizeL l ≤ 1099511627776) {c : Cls} (hc : sizeC c ≤ 1099511627776) (hk : isKnown l c.name = true) : Ct Tryz.prog 165 [wv l, eC c] [] (.bool (accI l c)) [] := by
  have hcl := chain_len l c.name
  obtain ⟨us, hy⟩ := chain_cons hk
  have hul : us.length ≤ 8 + l.length := by rw [hy] at hcl; simp at hcl; omega
  have hcm : c.methods.length ≤ 1099511627776 := by simp only [sizeC] at hc; omega
  have hac : accI l c = us.all (fun u => (clsOf l u).methods.all (okI l c)) := by simp only [accI, hy]; rfl
  rw [hac]
  refine Ct_bodyS tok Tryz.func165 rfl 91 (by kernel_rfl) (by kernel_rfl) fun X hX => ?_
  refine W_rseqK [0, 3] (jh hX (by simp [hy, fix_mth]; rfl)) ?_
  refine W_rseqK [0, 3, 5] (js hX 3 (by simp [hy, fix_mth]; rfl) (Runs.callF rfl (by simp) rfl (by simp [hy, fix_mth]; rfl) (by apply ct_impl_world_chain <;> first | assumption | omega | exact clsOf_sizes hs) cb_impl_world_chain (by simp [hy, fix_mth]; rfl) (jh hX (by simp [hy, fix_mth]; rfl)))) ?_
  refine W_seq (W_rseqK [0, 3, 20, 21, 22] (jh hX (by simp [hy, fix_mth]; rfl)) ?_)
  refine W_block (W_loopU (α := Nat) [0, 3, 20, 21, 22] (fun i => [(22, .int .i64 i)]) (fun i => []) (fun i => i ≤ us.length ∧ (us.drop i).all (fun u => (clsOf l u).methods.all (okI l c)) = us.all (fun u => (clsOf l u).methods.all (okI l c))) (fun i => us.length - i) (0) (fun i => by simp; rfl) (by simp) ?_ ?_)
  · simp
  rintro i ⟨hi, hI⟩
  refine W_rseqK [0, 3, 20, 21, 22, 23] (jh hX (by simp [hy, fix_mth]; rfl)) ?_
  refine W_seq (jd (fun h3 => ?_) (fun h3 => ?_))
  · try simp at h3
    rw [all_drop h3] at hI
    have hms : (clsOf l us[i]).methods.length ≤ 1099511627776 := clsOf_sizes hs
    refine W_skip (W_seq (W_block (W_rseqK [0, 3, 7, 20, 21, 22] (jh hX (by simp [h3, hy, fix_mth]; rfl)) ?_)))
    refine W_rseqK [0, 3, 8, 20, 21, 22] (js hX 2 (by simp [hy, fix_mth]; rfl) (Runs.callF rfl (by simp) rfl (by simp [hy, fix_mth]; rfl) (by apply ct_impl_world_class <;> first | assumption | omega | exact clsOf_sizes hs) cb_impl_world_class (by simp [hy, fix_mth]; rfl) (jh hX (by simp [h3, hy, fix_mth]; rfl)))) ?_
    refine W_rseqK [0, 3, 20, 21, 22, 33, 34, 35] (jh hX (by simp [h3, hy, fix_mth]; rfl)) ?_
    refine W_block (W_loopU (α := Nat) [0, 3, 20, 21, 22, 33, 34, 35] (fun j => [(35, .int .i64 j)]) (fun j => []) (fun j => j ≤ (clsOf l us[i]).methods.length ∧ ((clsOf l us[i]).methods.drop j).all (okI l c) = (clsOf l us[i]).methods.all (okI l c)) (fun j => (clsOf l us[i]).methods.length - j) (0) (fun j => by simp; rfl) (by simp) ?_ ?_)
    · simp
    rintro j ⟨hj, hJ⟩
    refine W_rseqK [0, 3, 20, 21, 22, 33, 34, 35, 36] (jh hX (by simp [hy, fix_mth]; rfl)) ?_
    refine W_seq (jd (fun h7 => ?_) (fun h7 => ?_))
    · try simp at h7
      rw [all_drop h7] at hJ
      refine W_skip (W_seq (W_block (W_rseqK [0, 3, 11, 20, 21, 22, 33, 34, 35] (jh hX (by simp [h3, h7, hy, fix_mth]; rfl)) ?_)))
      refine W_seq (W_rseqK [0, 3, 11, 12, 20, 21, 22, 33, 34, 35] (js hX 5 (by simp [h3, h7, hy, fix_mth]; rfl) (Runs.call [] rfl (by simp) rfl (by simp [hy, fix_mth]; rfl) (by simp; rfl) (by apply ct_impl_Class_methodAt <;> first | assumption | omega | exact clsOf_sizes hs) cb_impl_Class_methodAt (by simp) (by simp) (by simp [hy, fix_mth]; rfl) (jh hX (by simp [hy, fix_mth]; rfl)))) ?_)
      refine jD [0, 3, 11, 20, 21, 22, 33, 34, 35, 66] (jS 4 (by simp [h3, h7, hy, fix_mth]; rfl) (jM 3 48 [0, 3, 11, 12, 20, 21, 22, 33, 34, 35, 51] (p:=fun b10_4 => by (try simp at b10_4); exact (jQ (by simp [-atD_lt, -atL_lt, hy, fix_mth]; rfl))) (q:=fun b10_4 => by (try simp at b10_4); exact (jQ (by simp [-atD_lt, -atL_lt, hy, fix_mth]; rfl))) (k:=(jS 1 (by simp [hy, fix_mth]; rfl) (jM 14 52 [0, 3, 11, 20, 21, 22, 33, 34, 35, 66] (p:=fun b10_8 => by (try simp at b10_8); (have hk0 := b10_8.2; have hk1 := mthFrom_lt hk0); exact (jS 3 (by simp [-atD_lt, -atL_lt, h3, h7, b10_8, hk0, hk1, hy, fix_mth]; rfl) (jM 10 55 [0, 3, 11, 20, 21, 22, 33, 34, 35, 52, 65] (p:=fun b10_11 => by (try simp at b10_11); exact (jQ (by simp [-atD_lt, -atL_lt, hy, fix_mth]; rfl))) (q:=fun b10_11 => by (try simp at b10_11); exact (jQ (by simp [-atD_lt, -atL_lt, h3, h7, b10_8, hk0, hk1, hy, fix_mth]; rfl))) (k:=(jQ (by simp [-atD_lt, -atL_lt, hy, fix_mth]; rfl)))))) (q:=fun b10_8 => by (try simp at b10_8); exact (jQ (by simp [-atD_lt, -atL_lt, hy, fix_mth]; rfl))) (k:=(RunsQ.fin (by (try simp); rfl)))))))) ?_
      refine jd (fun h10 => ?_) (fun h10 => ?_)
      · try simp at h10
        refine W_rseqK [4] (jh hX (by simp [hy, fix_mth]; rfl)) ?_
        refine W_ret (je (by simp [h3, h7, h10, hy, fix_mth]; rfl) ?_)
        have ho : okI l c (clsOf l us[i]).methods[j] = false := by unfold okI init; grind
        rw [← hI, ← hJ, ho]; simp
      · try simp at h10
        refine W_skip (W_rseqK [0, 3, 11, 13, 20, 21, 22, 33, 34, 35] (js hX 7 (by simp [h3, h7, h10, hy, fix_mth]; rfl) (Runs.callF rfl (by simp) rfl (by simp [hy, fix_mth]; rfl) (by apply ct_impl_world_methodUp <;> first | assumption | omega | exact clsOf_sizes hs) cb_impl_world_methodUp (by simp [hy, fix_mth]; rfl) (jh hX (by simp [h3, h7, h10, hy, fix_mth]; rfl)))) ?_)
        refine W_rseqK [0, 3, 20, 21, 22, 33, 34, 35, 88] (js hX 3 (by simp [h3, h7, h10, hy, fix_mth]; rfl) (jm 4 80 [0, 3, 13, 20, 21, 22, 33, 34, 35, 84] (p:=fun b13_3 => by (try simp at b13_3); exact (jh hX (by simp [-atD_lt, -atL_lt, h3, h7, h10, hy, fix_mth]; rfl))) (q:=fun b13_3 => by (try simp at b13_3); exact (jh hX (by simp [-atD_lt, -atL_lt, hy, fix_mth]; rfl))) (k:=(js hX 1 (by simp [hy, fix_mth]; rfl) (jm 3 85 [0, 3, 20, 21, 22, 33, 34, 35, 88] (p:=fun b13_8 => by (try simp at b13_8); exact (jh hX (by simp [-atD_lt, -atL_lt, h3, h7, h10, hy, fix_mth]; rfl))) (q:=fun b13_8 => by (try simp at b13_8); exact (jh hX (by simp [-atD_lt, -atL_lt, hy, fix_mth]; rfl))) (k:=jf)))))) ?_
        refine jd (fun h13 => ?_) (fun h13 => ?_)
        · try simp at h13
          refine W_rseqK [4] (jh hX (by simp [hy, fix_mth]; rfl)) ?_
          refine W_ret (je (by simp [h3, h7, h10, hy, fix_mth]; rfl) ?_)
          have ho : okI l c (clsOf l us[i]).methods[j] = false := by unfold okI init; simp only [hy]; grind
          rw [← hI, ← hJ, ho]; simp
        · try simp at h13
          have ho : okI l c (clsOf l us[i]).methods[j] = true := okI_true h10 (by rw [hy]; exact h13)
          rw [ho, Bool.true_and] at hJ
          refine W_skip (W_reg (jh hX (by simp [hy, fix_mth]; (try (simp (disch := omega) only [wrap_i64]; (try simp [hy, fix_mth]))); rfl)) ?_)
          refine round_endT (j + 1) [0, 3, 20, 21, 22, 33, 34, 35] 2 (by simp [hX]) (by simp) (by simp [h3, h7, h10]; try (simp (disch := omega) only [wrap_i64])) ?_ ?_
          · exact ⟨by omega, hJ⟩
          · omega
    · try simp at h7
      rw [List.drop_eq_nil_of_le h7] at hJ
      rw [← hJ, List.all_nil, Bool.true_and] at hI
      refine W_exit (W_reg (jh hX (by simp [hy, fix_mth]; (try (simp (disch := omega) only [wrap_i64]; (try simp [hy, fix_mth]))); rfl)) ?_)
      refine round_endT (i + 1) [0, 3, 20, 21, 22] 1 (by simp [hX]) (by simp) (by simp [h3, h7]; try (simp (disch := omega) only [wrap_i64])) ?_ ?_
      · exact ⟨by omega, hI⟩
      · omega
  · try simp at h3
    rw [List.drop_eq_nil_of_le h3] at hI
    refine W_exit (W_rseqK [4] (jh hX (by simp [hy, fix_mth]; rfl)) ?_)
    refine W_ret (je (by simp [h3, hy, fix_mth]; rfl) ?_)
    rw [← hI]; rfl
end Go.Proofs
namespace Go.Proofs
open Go Go.Ev


theorem cb_impl_world_check_5 : Callable Tryz.prog 164 := ⟨_, Tryz.func164, by kernel_rfl, by kernel_rfl⟩
theorem ct_impl_world_check_5 {l : List Cls} (hl : l.length ≤ 1048576) (hs : sizeL l ≤ 1099511627776) {c : Cls} {k : Int} (hc : sizeC c ≤ 1099511627776) (hk : isKnown l c.name = true) : Ct Tryz.prog 164 [.int .i64 k, eC c, .fp [wv l]] [] (.int .i64 (pI5 l c)) [] := by
  refine Ct_bodyS tok Tryz.func164 rfl 10 (by kernel_rfl) (by kernel_rfl) fun X hX => ?_
  refine jq [2, 4] ?_
  refine W_rseqK [5] (jt 2 (k:=(jc [] (c:=(by apply ct_impl_world_accessOK <;> first | assumption | omega | (simp at *; omega) | simp_all)) (a:=cb_impl_world_accessOK) (k:=(jc [] (c:=(by apply ct_impl_codeUnless <;> first | assumption | omega | (simp at *; omega) | simp_all)) (a:=cb_impl_codeUnless) (k:=jr)))))) ?_
  refine W_ret (je0 ?_)
  unfold pI5
  rfl
end Go.Proofs
namespace Go.Proofs
open Go Go.Ev


theorem cb_impl_world_check : Callable Tryz.prog 114 := ⟨_, Tryz.func114, by kernel_rfl, by kernel_rfl⟩
theorem ct_impl_world_check {l : List Cls} (hl : l.length ≤ 1048576) (hs : sizeL l ≤ 1099511627776) : Ct Tryz.prog 114 [wv l] [] (.agg [.int .i64 (chkI l).1, .int .i64 (chkI l).2]) [] := by
  refine Ct_bodyS tok Tryz.func114 rfl 50 (by kernel_rfl) (by kernel_rfl) fun X hX => ?_
  refine jq [1, 2] ?_
  refine W_seq (jq [1, 2, 14] ?_)
  refine jd (fun h1 => ?_) (fun h1 => ?_)
  · try simp at h1
    refine W_rseqK [2] (jh hX (by simp [h1]; rfl)) ?_
    refine W_ret (je (by simp [h1]; rfl) ?_)
    simp [chkI, h1]
  · try simp at h1
    refine W_skip (jq [1, 2, 3] ?_)
    refine W_seq (W_rseqK [1, 2, 22, 23, 24] (jh hX (by simp [h1]; rfl)) ?_)
    refine W_block (W_loopU (α := Nat) [1, 2, 22, 23, 24] (fun p => [(24, .int .i64 p)]) (fun p => []) (fun p => p ≤ 5 ∧ chkFrom l p (5 - p) = chkFrom l 0 5) (fun p => 5 - p) (0) (fun p => by simp; rfl) (by simp) ?_ ?_)
    · simp
    rintro p ⟨hp, hI⟩
    obtain ⟨q, hq⟩ : ∃ q, q = p + 1 := ⟨_, rfl⟩
    obtain rfl | rfl | rfl | rfl | rfl | rfl : p = 0 ∨ p = 1 ∨ p = 2 ∨ p = 3 ∨ p = 4 ∨ p = 5 := by omega
    all_goals
      refine jq [1, 2, 22, 23, 24, 25] ?_
      refine W_seq (jd (fun h5 => ?_) (fun h5 => ?_))
      · try simp at h5
        all_goals
          refine W_skip (W_seq (W_block (W_rseqK [1, 2, 5, 22, 23, 24] (jh hX (by simp [h1, h5]; rfl)) ?_)))
          refine W_rseqK [1, 2, 5, 22, 23, 24, 31, 32, 33] (jh hX (by simp [h1, h5]; rfl)) ?_
          refine W_block (W_loopU (α := Nat) [1, 2, 5, 22, 23, 24, 31, 32, 33] (fun k => [(33, .int .i64 k)]) (fun k => []) (fun k => k ≤ l.length ∧ firstBad (codeI l (q - 1)) (l.length - k) k = firstBad (codeI l (q - 1)) l.length 0) (fun k => l.length - k) (0) (fun k => by simp; rfl) (by simp) ?_ ?_)
          · simp
          rintro k ⟨hk, hK⟩
          simp only [hq, Nat.reduceAdd, Nat.reduceSub, Nat.zero_add, Nat.add_sub_cancel] at hK
          refine jq [1, 2, 5, 22, 23, 24, 31, 32, 33, 34] ?_
          refine W_seq (jd (fun h8 => ?_) (fun h8 => ?_))
          · try simp at h8
            rw [fb_step h8] at hK
            refine W_skip (W_seq (W_block (W_rseqK [1, 2, 5, 6, 7, 22, 23, 24, 31, 32, 33] (jh hX (by simp [h1, h5, h8]; rfl)) ?_)))
            refine W_rseqK [1, 2, 5, 6, 8, 22, 23, 24, 31, 32, 33] (js hX 3 (by simp [h1, h5, h8]; rfl) (jB (c:=(by first | (apply ct_impl_world_check_1 <;> (first | assumption | omega | exact Nat.le_trans (sizeL_at h8) hs | exact known_own h8)) | (apply ct_impl_world_check_2 <;> (first | assumption | omega | exact Nat.le_trans (sizeL_at h8) hs | exact known_own h8)) | (apply ct_impl_world_check_3 <;> (first | assumption | omega | exact Nat.le_trans (sizeL_at h8) hs | exact known_own h8)) | (apply ct_impl_world_check_4 <;> (first | assumption | omega | exact Nat.le_trans (sizeL_at h8) hs | exact known_own h8)) | (apply ct_impl_world_check_5 <;> (first | assumption | omega | exact Nat.le_trans (sizeL_at h8) hs | exact known_own h8)))) (a:=(by first | exact cb_impl_world_check_1 | exact cb_impl_world_check_2 | exact cb_impl_world_check_3 | exact cb_impl_world_check_4 | exact cb_impl_world_check_5)) (k:=jr))) ?_
            refine jq [1, 2, 5, 6, 8, 22, 23, 24, 31, 32, 33, 43] ?_
            refine jd (fun h11 => ?_) (fun h11 => ?_)
            · try simp at h11
              rw [if_neg (by simp only [codeI, atL_lt h8]; exact h11)] at hK
              refine W_rseqK [2] (jh hX (by simp [h1, h5, h8]; rfl)) ?_
              refine W_ret (je (by simp [h1, h5, h8]; rfl) ?_)
              rw [chkI, if_neg (by omega), ← hI, chk_hit hK.symm]
              simp [codeI, h8]
            · try simp at h11
              rw [if_pos (by simp only [codeI, atL_lt h8]; exact h11)] at hK
              refine W_skip (W_reg (jh hX (by simp; (try (simp (disch := omega) only [wrap_i64]; (try simp))); rfl)) ?_)
              refine round_endT (k + 1) [1, 2, 5, 22, 23, 24, 31, 32, 33] 3 (by simp [hX]) (by simp) (by simp [h1, h5, h8]; try (simp (disch := omega) only [wrap_i64])) ?_ ?_
              · exact ⟨by omega, by simp only [hq, Nat.reduceAdd, Nat.reduceSub, Nat.zero_add, Nat.add_sub_cancel]; exact hK⟩
              · omega
          · try simp at h8
            rw [show l.length - k = 0 from by omega] at hK
            simp only [firstBad] at hK
            refine W_exit (W_reg (jh hX (by simp; (try (simp (disch := omega) only [wrap_i64]; (try simp))); rfl)) ?_)
            refine round_endT (q) [1, 2, 22, 23, 24] 3 (by simp [hX]) (by simp) (by simp [hq]; try (simp (disch := omega) only [wrap_i64])) ?_ ?_
            · exact ⟨by omega, by rw [hq]; exact (chk_next hK.symm).symm.trans hI⟩
            · omega
      · try simp at h5
        all_goals
          refine W_exit (W_rseqK [2] (jh hX (by simp [h1, h5]; rfl)) ?_)
          refine W_ret (je (by simp [h1, h5]; rfl) ?_)
          rw [chkI, if_neg (by omega), ← hI]
          rfl
end Go.Proofs
namespace Go.Proofs
open Go Go.Ev


theorem cb_impl_rightWorld : Callable Tryz.prog 68 := ⟨_, Tryz.func68, by kernel_rfl, by kernel_rfl⟩
theorem ct_impl_rightWorld {l : List Cls} (hl : l.length ≤ 1048576) (hs : sizeL l ≤ 1099511627776) : Ct Tryz.prog 68 [.lst false 6 (l.map eC)] [] (.tup [wv l, .bool (rightW l)]) [] := by
  refine Ct_bodyS tok Tryz.func68 rfl 17 (by kernel_rfl) (by kernel_rfl) fun X hX => ?_
  refine jq [0] ?_
  refine W_rseqK [0, 4] (jt 1 (k:=(jF (c:=(by apply ct_impl_worldOf <;> first | assumption | omega | (simp at *; omega) | simp_all)) (a:=cb_impl_worldOf) (k:=jr)))) ?_
  refine W_rseqK [2, 3] (jt 5 (k:=(jm 5 11 [7, 16] (p:=fun b2_5 => by (try simp at b2_5); exact (js hX 1 (by simp [-atD_lt, -atL_lt]; rfl) (Runs.call [] rfl (by simp) rfl (by simp [-atD_lt, -atL_lt]; rfl) (by simp; rfl) (by apply ct_impl_world_check <;> first | assumption | omega | (simp at *; omega) | simp_all) cb_impl_world_check (by simp) (by simp) (by simp [-atD_lt, -atL_lt]; rfl) (jh hX (by simp [-atD_lt, -atL_lt]; rfl))))) (q:=fun b2_5 => by (try simp at b2_5); exact (jh hX (by simp [-atD_lt, -atL_lt]; rfl))) (k:=jr)))) ?_
  refine W_ret (je0 ?_)
  rw [← rightI_eq]
  simp
end Go.Proofs
namespace Go.Proofs
open Go Go.Ev


theorem cb_impl_isList_impl_Class : Callable Tryz.prog 78 := ⟨_, Tryz.func78, by kernel_rfl, by kernel_rfl⟩
theorem ct_impl_isList_impl_Class {l : List Cls} : Ct Tryz.prog 78 [.lst false 6 (l.map eC)] [] (.bool (decide (l.length ≤ 400))) [] := by
  refine Ct_bodyS tok Tryz.func78 rfl 6 (by kernel_rfl) (by kernel_rfl) fun X hX => ?_
  refine jq [0] ?_
  refine jq [2] ?_
  refine W_ret (je0 ?_)
  simp
end Go.Proofs
namespace Go.Proofs
open Go Go.Ev


theorem cb_impl_size_impl_Obj : Callable Tryz.prog 98 := ⟨_, Tryz.func98, by kernel_rfl, by kernel_rfl⟩
theorem ct_impl_size_impl_Obj {xs : List V} : Ct Tryz.prog 98 [.lst false 4 xs] [] (.int .i64 xs.length) [] := by
  refine Ct_bodyS tok Tryz.func98 rfl 5 (by kernel_rfl) (by kernel_rfl) fun X hX => ?_
  refine jq [0] ?_
  refine jq [2] ?_
  refine W_ret (je0 ?_)
  simp
end Go.Proofs

namespace Go.Proofs
open Go Go.Ev


theorem cb_impl_world_fieldsOf : Callable Tryz.prog 99 := ⟨_, Tryz.func99, by kernel_rfl, by kernel_rfl⟩
theorem ct_impl_world_fieldsOf {l : List Cls} (hl : l.length ≤ 1000) (hs : sizeL l ≤ 1048576) {n : Str} : Ct Tryz.prog 99 [wv l, .str n] [] (.lst true 3 ((fldsI l n).map eF)) [] := by
  have hcl := chain_len l n
  refine Ct_bodyMS tok Tryz.func99 rfl 41 (by kernel_rfl) (by kernel_rfl) fun X hX => ?_
  refine WF_rseqK [1, 2, 18] jr ?_
  refine WF_rseqK [1, 2, 5, 18] jr ?_
  refine WF_range (q := 7) (xs := chain l n) (fo := fun k => [some (1, [wv l]), none, some (1, [.arr 3 0 (fldK l (chain l n) k).length]), some (3, (fldK l (chain l n) k).map eF)]) 3 tok (jt 2 (k:=(jF (c:=(by apply ct_impl_world_chain <;> first | assumption | omega)) (a:=cb_impl_world_chain) (k:=(jF (c:=(by apply ct_slices_Backward_string_string <;> first | assumption | omega)) (a:=cb_slices_Backward_string_string) (k:=jf)))))) (Le.trans (Le.keep [2, 5, 16, 18] _) (Le.trans (Le.absorb 2 0 0 (by simp; rfl)) (Le.trans (Le.expose 2 0 0 (by simp [St.expose]; rfl)) (Le.of_eq (by simp [fldK]; rfl))))) (enters_of Tryz.func184 (by kernel_rfl) rfl) back_ok (by first | (simp; done) | (simp; rfl) | rfl) (by omega) ?ha (by rfl) (by intro k; first | (simp; done) | exact Nat.le_of_ble_eq_true rfl) (by simp [hX]) ?body (by simp; rfl) ?done
  case ha =>
    intro r W a0 K hK
    exact assign_in hK (by rfl) (by rfl) (by rfl)
  case body =>
    intro r k hk X hX
    refine WI_le (Le.trans (Le.of_eq (by simp [tmR]; rfl)) .refl) ?_
    obtain ⟨c, hcd⟩ : ∃ c, c = clsOf l ((chain l n)[(chain l n).length - 1 - k]) := ⟨_, rfl⟩
    have hfl := fldK_len (l := l) (ch := chain l n) k
    have hkl : k * sizeL l ≤ 1008 * 1048576 := Nat.mul_le_mul (by omega) hs
    have hcs : sizeC c ≤ sizeL l := by rw [hcd]; exact clsOf_size
    have hcf : c.fields.length ≤ 1048576 := by simp only [sizeC] at hcs; omega
    refine WI_block (WI_rseqK [5, 8] (jt 2 (k:=(jF (c:=(by apply ct_impl_world_class <;> first | assumption | omega)) (a:=cb_impl_world_class) (k:=jr)))) ?_)
    rw [← hcd]
    refine WI_rseqK [5, 26, 27, 28] jr ?_
    refine WI_block (WI_loopU (α := List Fld × Nat) [5, 26, 27, 28] (fun p => [(28, .int .i64 p.2)]) (fun p => [(2, some (1, [.arr 3 0 p.1.length])), (3, some (3, p.1.map eF))]) (fun p => p.2 ≤ c.fields.length ∧ p.1 = fldK l (chain l n) k ++ (c.fields.take p.2).filter (fun f => !f.static)) (fun p => c.fields.length - p.2) ((fldK l (chain l n) k, 0)) (fun p => by simp; rfl) (by simp) ?_ ?_)
    · simp
    rintro ⟨o, i⟩ ⟨hi, hI⟩
    simp only at hi hI
    have ho : o.length ≤ 1100000000 := by
      rw [hI, List.length_append]
      have h1 := List.length_filter_le (fun f : Fld => !f.static) (c.fields.take i)
      rw [List.length_take] at h1
      omega
    have w1 : (o.length + 1) * 40 ≤ 140737488355328 := by omega
    have w2 : o.length ≤ 1099511627775 := by omega
    refine WI_rseqK [5, 26, 27, 28, 29] (jh hX (by simp [w1, w2]; rfl)) ?_
    refine WI_seq (WI_condS (fun h6 => ?_) (fun h6 => ?_))
    · try simp at h6
      refine WI_skip (WI_seq (WI_block (WI_rseqK [5, 11, 26, 27, 28] (jh hX (by simp [w1, w2, h6]; rfl)) ?_)))
      refine WI_rseqK [5, 11, 26, 27, 28, 34] (jh hX (by simp [w1, w2, h6]; rfl)) ?_
      refine WI_condS (fun h8 => ?_) (fun h8 => ?_)
      · try simp at h8
        refine WI_reg (jh hX (by simp [w1, w2, h6]; rfl)) ?_
        refine WI_reg (jh hX (by simp [w1, w2, h6]; (try (simp (disch := omega) only [wrap_i64]; (try simp [w1, w2, h6]))); rfl)) ?_
        refine round_endT (if c.fields[i].static = true then (o, i + 1) else (o ++ [c.fields[i]], i + 1)) [5, 26, 27, 28] 5 (by simp [hX]) (by simp) (by simp [h6, h8]; try (simp (disch := omega) only [wrap_i64])) ?_ ?_
        · (simp only [h8, Bool.false_eq_true, if_false, if_true]; refine ⟨by omega, ?_⟩; rw [filt_snoc h6, h8, hI]; simp)
        · (simp only [h8, Bool.false_eq_true, if_false, if_true]; omega)
      · try simp at h8
        refine WI_skip (WI_reg (jh hX (by simp [w1, w2, h6]; (try (simp (disch := omega) only [wrap_i64]; (try simp [w1, w2, h6]))); rfl)) ?_)
        refine round_endT (if c.fields[i].static = true then (o, i + 1) else (o ++ [c.fields[i]], i + 1)) [5, 26, 27, 28] 5 (by simp [hX]) (by simp) (by simp [h6, h8]; try (simp (disch := omega) only [wrap_i64])) ?_ ?_
        · (simp only [h8, Bool.false_eq_true, if_false, if_true]; refine ⟨by omega, ?_⟩; rw [filt_snoc h6, h8, hI]; simp)
        · (simp only [h8, Bool.false_eq_true, if_false, if_true]; omega)
    · try simp at h6
      refine WI_exit ?_
      simp only [thenQ, blockQ, if_true]
      have hil : i = c.fields.length := by omega
      subst hil
      rw [List.take_of_length_le (Nat.le_refl _)] at hI
      have hg : (chain l n).getD ((chain l n).length - 1 - k) [] = (chain l n)[(chain l n).length - 1 - k] := by rw [List.getD_eq_getElem?_getD, List.getElem?_eq_getElem (by omega)]; rfl
      have hfk : fldK l (chain l n) (k + 1) = o := by rw [fldK, hg, ← hcd, hI]; rfl
      refine ⟨trivial, _, Le.trim 4 (by simp [hX]) _ (by simp), ?_⟩
      simp [hfk]
  case done =>
    refine je (by simp; rfl) ?_
    simp [fldsI]
end Go.Proofs
namespace Go.Proofs
open Go Go.Ev


theorem cb_impl_Heap_has : Callable Tryz.prog 82 := ⟨_, Tryz.func82, by kernel_rfl, by kernel_rfl⟩
theorem ct_impl_Heap_has_g {xs : List V} {r : V} {n : Int} : Ct Tryz.prog 82 [.fp [.lst false 4 xs, r], .int .i64 n] [] (.bool (decide (1 ≤ n ∧ n ≤ xs.length))) [] := by
  refine Ct_bodyS tok Tryz.func82 rfl 12 (by kernel_rfl) (by kernel_rfl) fun X hX => ?_
  refine jq [0, 1] ?_
  refine W_rseqK [4] (jt 5 (k:=(jc [] (c:=(by apply ct_impl_size_impl_Obj <;> first | assumption | omega | (simp at *; omega) | simp_all)) (a:=cb_impl_size_impl_Obj) (k:=(jc [] (c:=(by apply ct_impl_within <;> first | assumption | omega | (simp at *; omega) | simp_all)) (a:=cb_impl_within) (k:=jr)))))) ?_
  refine W_ret (je0 ?_)
  simp
theorem ct_impl_Heap_has_t {xs : List V} {r : V} {j N : Nat} (h : xs.length = N) (hj : j < N) : Ct Tryz.prog 82 [.fp [.lst false 4 xs, r], .int .i64 ((j : Int) + 1)] [] (.bool true) [] := by
  refine Ct_bodyS tok Tryz.func82 rfl 12 (by kernel_rfl) (by kernel_rfl) fun X hX => ?_
  refine jq [0, 1] ?_
  refine W_rseqK [4] (jt 5 (k:=(jc [] (c:=(by apply ct_impl_size_impl_Obj <;> first | assumption | omega | (simp at *; omega) | simp_all)) (a:=cb_impl_size_impl_Obj) (k:=(jc [] (c:=(by apply ct_impl_within <;> first | assumption | omega | (simp at *; omega) | simp_all)) (a:=cb_impl_within) (k:=jr)))))) ?_
  refine W_ret (je0 ?_)
  simp [h]; omega
theorem ct_impl_Heap_has {h : Hep} {n : Int} : Ct Tryz.prog 82 [pHp h, .int .i64 n] [] (.bool (hasR h n)) [] := by
  refine Ct_bodyS tok Tryz.func82 rfl 12 (by kernel_rfl) (by kernel_rfl) fun X hX => ?_
  refine jq [0, 1] ?_
  refine W_rseqK [4] (jt 5 (k:=(jc [] (c:=(by apply ct_impl_size_impl_Obj <;> first | assumption | omega | (simp at *; omega) | simp_all)) (a:=cb_impl_size_impl_Obj) (k:=(jc [] (c:=(by apply ct_impl_within <;> first | assumption | omega | (simp at *; omega) | simp_all)) (a:=cb_impl_within) (k:=jr)))))) ?_
  refine W_ret (je0 ?_)
  simp [hasR]
end Go.Proofs
namespace Go.Proofs
open Go Go.Ev


theorem cb_impl_Heap_isVal : Callable Tryz.prog 64 := ⟨_, Tryz.func64, by kernel_rfl, by kernel_rfl⟩
theorem ct_impl_Heap_isVal {h : Hep} {v : Vl} : Ct Tryz.prog 64 [pHp h, eVl v] [] (.bool (valR h.objs.length v)) [] := by
  refine Ct_bodyS tok Tryz.func64 rfl 23 (by kernel_rfl) (by kernel_rfl) fun X hX => ?_
  refine jq [0, 3] ?_
  refine W_seq (jq [0, 3, 6] ?_)
  refine W_block (jq [0, 3, 6, 7] ?_)
  refine jd (fun h2 => ?_) (fun h2 => ?_)
  · try simp at h2
    refine W_rseqK [4] (jt 2 (k:=(jc [] (c:=(by apply ct_impl_isInt <;> first | assumption | omega | (simp at *; omega) | simp_all)) (a:=cb_impl_isInt) (k:=jr)))) ?_
    refine W_ret (je0 ?_)
    unfold valR; simp_all [hasR]
  · try simp at h2
    refine jq [0, 3, 6, 12] ?_
    refine jd (fun h4 => ?_) (fun h4 => ?_)
    · try simp at h4
      refine jq [4] ?_
      refine W_ret (je0 ?_)
      unfold valR; simp_all [hasR]
    · try simp at h4
      refine jq [0, 3, 17] ?_
      refine jd (fun h6 => ?_) (fun h6 => ?_)
      · try simp at h6
        refine W_rseqK [4] (jt 3 (k:=(jc [] (c:=(by apply ct_impl_Heap_has <;> first | assumption | omega | (simp at *; omega) | simp_all)) (a:=cb_impl_Heap_has) (k:=jr)))) ?_
        refine W_ret (je0 ?_)
        unfold valR; simp_all [hasR]
      · try simp at h6
        refine W_skip (jq [4] ?_)
        refine W_ret (je0 ?_)
        unfold valR; simp_all [hasR]
end Go.Proofs
namespace Go.Proofs
open Go Go.Ev


theorem cb_impl_world_objRight_1 : Callable Tryz.prog 179 := ⟨_, Tryz.func179, by kernel_rfl, by kernel_rfl⟩
theorem ct_impl_world_objRight_1 {v : Vl} {h : Hep} : Ct Tryz.prog 179 [eVl v, .fp [pHp h]] [] (.bool (!valR h.objs.length v)) [] := by
  refine Ct_bodyS tok Tryz.func179 rfl 8 (by kernel_rfl) (by kernel_rfl) fun X hX => ?_
  refine jq [1, 2] ?_
  refine W_rseqK [3] (jt 2 (k:=(jc [] (c:=(by apply ct_impl_Heap_isVal <;> first | assumption | omega | (simp at *; omega) | simp_all)) (a:=cb_impl_Heap_isVal) (k:=jr)))) ?_
  refine W_ret (je0 ?_)
  simp
end Go.Proofs
namespace Go.Proofs
open Go Go.Ev


theorem cb_impl_world_objRight_2_1 : Callable Tryz.prog 181 := ⟨_, Tryz.func181, by kernel_rfl, by kernel_rfl⟩
theorem ct_impl_world_objRight_2_1 {v : Vl} {b : Bool} : Ct Tryz.prog 181 [eVl v, .fp [.bool b]] [] (.bool (decide (v.kind = 1) != b)) [] := by
  refine Ct_bodyS tok Tryz.func181 rfl 9 (by kernel_rfl) (by kernel_rfl) fun X hX => ?_
  refine jq [1, 2] ?_
  refine jq [3] ?_
  refine W_ret (je0 ?_)
  simp
  cases decide (v.kind = 1) <;> cases b <;> rfl
end Go.Proofs
namespace Go.Proofs
open Go Go.Ev


theorem cb_slices_IndexFunc_impl_Val_impl_Val : Callable Tryz.prog 216 := ⟨_, Tryz.func216, by kernel_rfl, by kernel_rfl⟩
theorem ct_slices_IndexFunc_impl_Val_impl_Val_2 {b : Bool} {l : List Vl} (hl : l.length ≤ 1099511627776) : Ct Tryz.prog 216 [.lst false 2 (l.map eVl), .clo (.func 181) [] [.fp [.bool b]]] [] (.int .i64 (fix (fun v => decide (v.kind = 1) != b) l)) [] := by
  refine Ct_bodyS tok Tryz.func216 rfl 19 (by kernel_rfl) (by kernel_rfl) fun X hX => ?_
  refine jq [0, 1] ?_
  refine W_seq (jq [0, 1, 7, 8] ?_)
  refine W_block (W_loopU (α := Nat) [0, 1, 7, 8] (fun i => [(8, .int .i64 i)]) (fun i => []) (fun i => i ≤ l.length ∧ ∀ x ∈ l.take i, (fun v => decide (v.kind = 1) != b) x = false) (fun i => l.length - i) (0) (fun i => by simp; rfl) (by simp) ?_ ?_)
  · simp
  rintro i ⟨hi, hI⟩
  refine jq [0, 1, 7, 8, 9] ?_
  refine W_seq (jd (fun h2 => ?_) (fun h2 => ?_))
  · try simp at h2
    refine W_skip (W_seq (W_block (jq [0, 1, 5, 7, 8] ?_)))
    refine W_rseqK [0, 1, 5, 7, 8, 16] (js hX 5 (by simp [h2]; rfl) (jc [] (c:=(by apply ct_impl_world_objRight_2_1 <;> first | assumption | exact hs _ (List.getElem_mem h2) | omega)) (a:=cb_impl_world_objRight_2_1) (k:=jf))) ?_
    refine jd (fun h4 => ?_) (fun h4 => ?_)
    · try simp at h4
      refine jq [4] ?_
      refine W_ret (je (by simp [h2]; rfl) ?_)
      rw [fix_hit h2 hI (by simpa using h4)]
    · try simp at h4
      refine W_skip (W_reg (jh hX (by simp; (try (simp (disch := omega) only [wrap_i64]; (try simp))); rfl)) ?_)
      refine round_end (i + 1) [0, 1, 7, 8] (by simp [h2]; try (simp (disch := omega) only [wrap_i64])) ?_ ?_
      · exact ⟨by omega, take_not h2 hI (by simpa using h4)⟩
      · omega
  · try simp at h2
    refine W_exit (jq [4] ?_)
    refine W_ret (je (by simp [h2]; rfl) ?_)
    rw [fix_none (p := fun v => decide (v.kind = 1) != b) (fun x hx => hI x (by rw [List.take_of_length_le h2]; exact hx))]
theorem ct_slices_IndexFunc_impl_Val_impl_Val {h : Hep} {l : List Vl} (hl : l.length ≤ 1099511627776) : Ct Tryz.prog 216 [.lst false 2 (l.map eVl), .clo (.func 179) [] [.fp [pHp h]]] [] (.int .i64 (fix (fun v => !valR h.objs.length v) l)) [] := by
  refine Ct_bodyS tok Tryz.func216 rfl 19 (by kernel_rfl) (by kernel_rfl) fun X hX => ?_
  refine jq [0, 1] ?_
  refine W_seq (jq [0, 1, 7, 8] ?_)
  refine W_block (W_loopU (α := Nat) [0, 1, 7, 8] (fun i => [(8, .int .i64 i)]) (fun i => []) (fun i => i ≤ l.length ∧ ∀ x ∈ l.take i, (fun v => !valR h.objs.length v) x = false) (fun i => l.length - i) (0) (fun i => by simp; rfl) (by simp) ?_ ?_)
  · simp
  rintro i ⟨hi, hI⟩
  refine jq [0, 1, 7, 8, 9] ?_
  refine W_seq (jd (fun h2 => ?_) (fun h2 => ?_))
  · try simp at h2
    refine W_skip (W_seq (W_block (jq [0, 1, 5, 7, 8] ?_)))
    refine W_rseqK [0, 1, 5, 7, 8, 16] (js hX 5 (by simp [h2]; rfl) (jc [] (c:=(by apply ct_impl_world_objRight_1 <;> first | assumption | exact hs _ (List.getElem_mem h2) | omega)) (a:=cb_impl_world_objRight_1) (k:=jf))) ?_
    refine jd (fun h4 => ?_) (fun h4 => ?_)
    · try simp at h4
      refine jq [4] ?_
      refine W_ret (je (by simp [h2]; rfl) ?_)
      rw [fix_hit h2 hI (by simpa using h4)]
    · try simp at h4
      refine W_skip (W_reg (jh hX (by simp; (try (simp (disch := omega) only [wrap_i64]; (try simp))); rfl)) ?_)
      refine round_end (i + 1) [0, 1, 7, 8] (by simp [h2]; try (simp (disch := omega) only [wrap_i64])) ?_ ?_
      · exact ⟨by omega, take_not h2 hI (by simpa using h4)⟩
      · omega
  · try simp at h2
    refine W_exit (jq [4] ?_)
    refine W_ret (je (by simp [h2]; rfl) ?_)
    rw [fix_none (p := fun v => !valR h.objs.length v) (fun x hx => hI x (by rw [List.take_of_length_le h2]; exact hx))]
end Go.Proofs
namespace Go.Proofs
open Go Go.Ev


theorem cb_slices_ContainsFunc_impl_Val_impl_Val : Callable Tryz.prog 178 := ⟨_, Tryz.func178, by kernel_rfl, by kernel_rfl⟩
theorem ct_slices_ContainsFunc_impl_Val_impl_Val_2 {b : Bool} {l : List Vl} (hl : l.length ≤ 1099511627776) : Ct Tryz.prog 178 [.lst false 2 (l.map eVl), .clo (.func 181) [] [.fp [.bool b]]] [] (.bool (l.any (fun v => decide (v.kind = 1) != b))) [] := by
  refine Ct_bodyS tok Tryz.func178 rfl 9 (by kernel_rfl) (by kernel_rfl) fun X hX => ?_
  refine jq [0, 1] ?_
  refine W_rseqK [4] (jt 2 (k:=(jc [] (c:=(by apply ct_slices_IndexFunc_impl_Val_impl_Val_2 <;> first | assumption | omega | (simp at *; omega) | simp_all)) (a:=cb_slices_IndexFunc_impl_Val_impl_Val) (k:=jr)))) ?_
  refine W_ret (je0 ?_)
  rw [← fix_ge]
theorem ct_slices_ContainsFunc_impl_Val_impl_Val {h : Hep} {l : List Vl} (hl : l.length ≤ 1099511627776) : Ct Tryz.prog 178 [.lst false 2 (l.map eVl), .clo (.func 179) [] [.fp [pHp h]]] [] (.bool (l.any (fun v => !valR h.objs.length v))) [] := by
  refine Ct_bodyS tok Tryz.func178 rfl 9 (by kernel_rfl) (by kernel_rfl) fun X hX => ?_
  refine jq [0, 1] ?_
  refine W_rseqK [4] (jt 2 (k:=(jc [] (c:=(by apply ct_slices_IndexFunc_impl_Val_impl_Val <;> first | assumption | omega | (simp at *; omega) | simp_all)) (a:=cb_slices_IndexFunc_impl_Val_impl_Val) (k:=jr)))) ?_
  refine W_ret (je0 ?_)
  rw [← fix_ge]
end Go.Proofs
namespace Go.Proofs
open Go Go.Ev


theorem cb_impl_world_objRight_2 : Callable Tryz.prog 180 := ⟨_, Tryz.func180, by kernel_rfl, by kernel_rfl⟩
theorem ct_impl_world_objRight_2 {b : Bool} {o : HOb} (h : o.vals.length ≤ 1099511627776) : Ct Tryz.prog 180 [.bool b, pOb o] [] (.bool (wrong b o.vals)) [] := by
  refine Ct_bodyS tok Tryz.func180 rfl 8 (by kernel_rfl) (by kernel_rfl) fun X hX => ?_
  refine jq [1, 2] ?_
  refine W_rseqK [3] (jt 3 (k:=(jB (c:=(by apply ct_slices_ContainsFunc_impl_Val_impl_Val_2 <;> first | assumption | omega | (simp at *; omega) | simp_all)) (a:=cb_slices_ContainsFunc_impl_Val_impl_Val) (k:=jr)))) ?_
  refine W_ret (je0 ?_)
  rfl
end Go.Proofs
namespace Go.Proofs
open Go Go.Ev


theorem cb_impl_world_objRight : Callable Tryz.prog 131 := ⟨_, Tryz.func131, by kernel_rfl, by kernel_rfl⟩
theorem ct_impl_world_objRight {l : List Cls} (hl : l.length ≤ 1000) (hs : sizeL l ≤ 1048576) (hw : rightW l = true) {h : Hep} {o : HOb} (ho : o.vals.length ≤ 1099511627776) : Ct Tryz.prog 131 [wv l, pHp h, eOb o] [] (.bool (obR l h.objs.length o)) [] := by
  cases hk : isKnown l o.cls
  all_goals
    refine Ct_bodyS tok Tryz.func131 rfl 73 (by kernel_rfl) (by kernel_rfl) fun X hX => ?_
    refine W_rseqK [0, 4, 5] (jh hX (by simp [hk]; rfl)) ?_
    refine W_seq (W_rseqK [0, 5, 11] (js hX 3 (by simp [hk]; rfl) (Runs.callB rfl (by simp) rfl (by simp [hk]; rfl) (by apply ct_slices_ContainsFunc_impl_Val_impl_Val <;> first | assumption | omega) cb_slices_ContainsFunc_impl_Val_impl_Val (by simp) (by simp [hk]; rfl) jf)) ?_)
    refine jd (fun h1 => ?_) (fun h1 => ?_)
    · try simp at h1
      refine W_rseqK [6] (jh hX (by simp [hk]; rfl)) ?_
      refine W_ret (je (by simp [hk]; rfl) ?_)
      rw [obR_no (by simpa using h1)]
    · try simp at h1
      refine W_skip (W_rseqK [0, 5, 7] (jh hX (by simp [hk]; rfl)) ?_)
      refine W_seq (W_rseqK [0, 5, 7, 14] (jh hX (by simp [hk]; rfl)) ?_)
      refine W_block (W_rseqK [0, 5, 7, 14, 15] (jh hX (by simp [hk]; rfl)) ?_)
      refine jd (fun h5 => ?_) (fun h5 => ?_)
      · try simp at h5
        first | (refine jI 13 [.pur 0, .pur 1, .pur 2, .one 3, .pur 4, .pur 5, .pur 6, .pur 7, .pur 8, .pur 9, .pur 10, .one 11, .pur 12] [6] [1] hX (jU [0, 1, 2] [.one 3, .pur 4, .pur 5, .pur 6, .pur 7, .pur 8, .pur 9, .pur 10, .one 11, .pur 12] (by simp [hk]; rfl) (jO 3 (p:=fun X hX => (Runs.call [] rfl (by simp) rfl (by simp [hk]; rfl) (by simp; rfl) (by apply ct_impl_world_known <;> first | assumption | omega) cb_impl_world_known (by simp) (by simp) (by simp [hk]; rfl) jf)) (k:=(jU [4, 5, 6, 7, 8, 9, 10] [.one 11, .pur 12] (by simp [hk]; rfl) (jO 11 (p:=fun X hX => (Runs.call [] rfl (by simp) rfl (by simp [hk]; rfl) (by simp; rfl) (by apply ct_impl_world_fieldsOf <;> first | assumption | omega) cb_impl_world_fieldsOf (by simp) (by simp) (by simp [hk]; rfl) jf)) (k:=(jU [12] [] (by simp [hk]; rfl) .nil))))))) (jh hX (by simp [hk]; rfl)) ?_) | (refine jI 13 [.pur 0, .pur 1, .pur 2, .one 3, .pur 4, .pur 5, .pur 6, .pur 7, .pur 8, .pur 9, .pur 10, .pur 11, .pur 12] [6] [1] hX (jU [0, 1, 2] [.one 3, .pur 4, .pur 5, .pur 6, .pur 7, .pur 8, .pur 9, .pur 10, .pur 11, .pur 12] (by simp [hk]; rfl) (jO 3 (p:=fun X hX => (Runs.call [] rfl (by simp) rfl (by simp [hk]; rfl) (by simp; rfl) (by apply ct_impl_world_known <;> first | assumption | omega) cb_impl_world_known (by simp) (by simp) (by simp [hk]; rfl) jf)) (k:=(jU [4, 5, 6, 7, 8, 9, 10, 11, 12] [] (by simp [hk]; rfl) .nil)))) (jh hX (by simp [hk]; rfl)) ?_)
        refine W_ret (je (by simp [hk]; rfl) ?_)
        rw [obR_yes (by simpa using h1), h5, fits_all (by omega) (by omega)]; unfold obK; simp [h5, hk]
      · try simp at h5
        refine W_rseqK [0, 5, 7, 14, 32] (jh hX (by simp [hk]; rfl)) ?_
        refine jd (fun h7 => ?_) (fun h7 => ?_)
        · try simp at h7
          refine W_rseqK [6] (js hX 4 (by simp [hk]; rfl) (jm 3 37 [5, 7, 40] (p:=fun b8_4 => by (try simp at b8_4); exact (jh hX (by simp [-atD_lt, -atL_lt, hk]; rfl))) (q:=fun b8_4 => by (try simp at b8_4); exact (jh hX (by simp [-atD_lt, -atL_lt, hk]; rfl))) (k:=(js hX 1 (by simp [hk]; rfl) (jm 5 41 [7, 46] (p:=fun b8_8 => by (try simp at b8_8); exact (jh hX (by simp [-atD_lt, -atL_lt, hk]; rfl))) (q:=fun b8_8 => by (try simp at b8_8); exact (jh hX (by simp [-atD_lt, -atL_lt, hk]; rfl))) (k:=(js hX 1 (by simp [hk]; rfl) (jm 4 47 [51] (p:=fun b8_14 => by (try simp at b8_14); exact (js hX 1 (by simp [-atD_lt, -atL_lt, hk]; rfl) (Runs.callB rfl (by simp) rfl (by simp [-atD_lt, -atL_lt, hk]; rfl) (by apply ct_impl_world_objRight_2 <;> first | assumption | omega) cb_impl_world_objRight_2 (by simp) (by simp [-atD_lt, -atL_lt, hk]; rfl) (jh hX (by simp [-atD_lt, -atL_lt, hk]; rfl))))) (q:=fun b8_14 => by (try simp at b8_14); exact (jh hX (by simp [-atD_lt, -atL_lt, hk]; rfl))) (k:=(jh hX (by simp [hk]; rfl))))))))))) ?_
          refine W_ret (je (by simp [hk]; rfl) ?_)
          rw [obR_yes (by simpa using h1), h7, fits_2]; unfold obK; simp [h7]; grind
        · try simp at h7
          refine W_rseqK [0, 5, 7, 52] (jh hX (by simp [hk]; rfl)) ?_
          refine jd (fun h9 => ?_) (fun h9 => ?_)
          · try simp at h9
            first | (refine W_rseqK [6] (js hX 3 (by simp [hk]; rfl) (Runs.call [] rfl (by simp) rfl (by simp [hk]; rfl) (by simp; rfl) (by apply ct_impl_world_known <;> first | assumption | omega) cb_impl_world_known (by simp) (by simp) (by simp [hk]; rfl) (js hX 5 (by simp [hk]; rfl) (jm 5 62 [7, 67] (p:=fun b10_9 => by (try simp at b10_9); exact (jh hX (by simp [-atD_lt, -atL_lt, hk]; rfl))) (q:=fun b10_9 => by (try simp at b10_9); exact (jh hX (by simp [-atD_lt, -atL_lt, hk]; rfl))) (k:=(js hX 1 (by simp [hk]; rfl) (jm 4 68 [72] (p:=fun b10_15 => by (try simp at b10_15); exact (js hX 1 (by simp [-atD_lt, -atL_lt, hk]; rfl) (Runs.callB rfl (by simp) rfl (by simp [-atD_lt, -atL_lt, hk]; rfl) (by apply ct_impl_world_objRight_2 <;> first | assumption | omega) cb_impl_world_objRight_2 (by simp) (by simp [-atD_lt, -atL_lt, hk]; rfl) (jh hX (by simp [-atD_lt, -atL_lt, hk]; rfl))))) (q:=fun b10_15 => by (try simp at b10_15); exact (jh hX (by simp [-atD_lt, -atL_lt, hk]; rfl))) (k:=(jh hX (by simp [hk]; rfl)))))))))) ?_) | (refine W_rseqK [6] (js hX 3 (by simp [hk]; rfl) (Runs.call [] rfl (by simp) rfl (by simp [hk]; rfl) (by simp; rfl) (by apply ct_impl_world_known <;> first | assumption | omega) cb_impl_world_known (by simp) (by simp) (by simp [hk]; rfl) (jh hX (by simp [hk]; rfl)))) ?_)
            refine W_ret (je (by simp [hk]; rfl) ?_)
            rw [obR_yes (by simpa using h1), h9, fits_3]; unfold obK; simp [h9]; grind
          · try simp at h9
            refine W_skip (W_rseqK [6] (jh hX (by simp [hk]; rfl)) ?_)
            refine W_ret (je (by simp [hk]; rfl) ?_)
            rw [obR_yes (by simpa using h1)]; unfold obK; rw [if_neg h5, if_neg h7, if_neg h9, Bool.and_false]
end Go.Proofs
namespace Go.Proofs
open Go Go.Ev


theorem cb_impl_world_heapRight_1 : Callable Tryz.prog 130 := ⟨_, Tryz.func130, by kernel_rfl, by kernel_rfl⟩
theorem ct_impl_world_heapRight_1 {l : List Cls} (hl : l.length ≤ 1000) (hs : sizeL l ≤ 1048576) (hw : rightW l = true) {h : Hep} {o : HOb} (ho : o.vals.length ≤ 1099511627776) : Ct Tryz.prog 130 [eOb o, .fp [wv l], .fp [pHp h]] [] (.bool (!obR l h.objs.length o)) [] := by
  refine Ct_bodyS tok Tryz.func130 rfl 10 (by kernel_rfl) (by kernel_rfl) fun X hX => ?_
  refine jq [1, 2, 3] ?_
  refine W_rseqK [4] (jt 3 (k:=(jc [] (c:=(by apply ct_impl_world_objRight <;> first | assumption | omega | (simp at *; omega) | simp_all)) (a:=cb_impl_world_objRight) (k:=jr)))) ?_
  refine W_ret (je0 ?_)
  simp
end Go.Proofs
namespace Go.Proofs
open Go Go.Ev


theorem cb_slices_IndexFunc_impl_Obj_impl_Obj : Callable Tryz.prog 177 := ⟨_, Tryz.func177, by kernel_rfl, by kernel_rfl⟩
theorem ct_slices_IndexFunc_impl_Obj_impl_Obj {cs : List Cls} {h : Hep} (hc : cs.length ≤ 1000) (hcs : sizeL cs ≤ 1048576) (hcw : rightW cs = true) {l : List HOb} (hl : l.length ≤ 1099511627776) (hs : ∀ o ∈ l, o.vals.length ≤ 1099511627776) : Ct Tryz.prog 177 [.lst false 4 (l.map eOb), .clo (.func 130) [] [.fp [wv cs], .fp [pHp h]]] [] (.int .i64 (fix (fun o => !obR cs h.objs.length o) l)) [] := by
  refine Ct_bodyS tok Tryz.func177 rfl 19 (by kernel_rfl) (by kernel_rfl) fun X hX => ?_
  refine jq [0, 1] ?_
  refine W_seq (jq [0, 1, 7, 8] ?_)
  refine W_block (W_loopU (α := Nat) [0, 1, 7, 8] (fun i => [(8, .int .i64 i)]) (fun i => []) (fun i => i ≤ l.length ∧ ∀ x ∈ l.take i, (fun o => !obR cs h.objs.length o) x = false) (fun i => l.length - i) (0) (fun i => by simp; rfl) (by simp) ?_ ?_)
  · simp
  rintro i ⟨hi, hI⟩
  refine jq [0, 1, 7, 8, 9] ?_
  refine W_seq (jd (fun h2 => ?_) (fun h2 => ?_))
  · try simp at h2
    refine W_skip (W_seq (W_block (jq [0, 1, 5, 7, 8] ?_)))
    refine W_rseqK [0, 1, 5, 7, 8, 16] (js hX 5 (by simp [h2]; rfl) (jc [] (c:=(by apply ct_impl_world_heapRight_1 <;> first | assumption | exact hs _ (List.getElem_mem h2) | omega)) (a:=cb_impl_world_heapRight_1) (k:=jf))) ?_
    refine jd (fun h4 => ?_) (fun h4 => ?_)
    · try simp at h4
      refine jq [4] ?_
      refine W_ret (je (by simp [h2]; rfl) ?_)
      rw [fix_hit h2 hI (by simpa using h4)]
    · try simp at h4
      refine W_skip (W_reg (jh hX (by simp; (try (simp (disch := omega) only [wrap_i64]; (try simp))); rfl)) ?_)
      refine round_end (i + 1) [0, 1, 7, 8] (by simp [h2]; try (simp (disch := omega) only [wrap_i64])) ?_ ?_
      · exact ⟨by omega, take_not h2 hI (by simpa using h4)⟩
      · omega
  · try simp at h2
    refine W_exit (jq [4] ?_)
    refine W_ret (je (by simp [h2]; rfl) ?_)
    rw [fix_none (p := fun o => !obR cs h.objs.length o) (fun x hx => hI x (by rw [List.take_of_length_le h2]; exact hx))]
end Go.Proofs
namespace Go.Proofs
open Go Go.Ev


theorem cb_slices_ContainsFunc_impl_Obj_impl_Obj : Callable Tryz.prog 129 := ⟨_, Tryz.func129, by kernel_rfl, by kernel_rfl⟩
theorem ct_slices_ContainsFunc_impl_Obj_impl_Obj {cs : List Cls} {h : Hep} (hc : cs.length ≤ 1000) (hcs : sizeL cs ≤ 1048576) (hcw : rightW cs = true) {l : List HOb} (hl : l.length ≤ 1099511627776) (hs : ∀ o ∈ l, o.vals.length ≤ 1099511627776) : Ct Tryz.prog 129 [.lst false 4 (l.map eOb), .clo (.func 130) [] [.fp [wv cs], .fp [pHp h]]] [] (.bool (l.any (fun o => !obR cs h.objs.length o))) [] := by
  refine Ct_bodyS tok Tryz.func129 rfl 9 (by kernel_rfl) (by kernel_rfl) fun X hX => ?_
  refine jq [0, 1] ?_
  refine W_rseqK [4] (jt 2 (k:=(jc [] (c:=(by apply ct_slices_IndexFunc_impl_Obj_impl_Obj <;> first | assumption | omega | (simp at *; omega) | simp_all)) (a:=cb_slices_IndexFunc_impl_Obj_impl_Obj) (k:=jr)))) ?_
  refine W_ret (je0 ?_)
  rw [← fix_ge]
end Go.Proofs
namespace Go.Proofs
open Go Go.Ev


theorem cb_impl_world_heapRight : Callable Tryz.prog 80 := ⟨_, Tryz.func80, by kernel_rfl, by kernel_rfl⟩
theorem ct_impl_world_heapRight {l : List Cls} (hl : l.length ≤ 1000) (hs : sizeL l ≤ 1048576) (hw : rightW l = true) {h : Hep} (ho : sizeHp h ≤ 1048576) : Ct Tryz.prog 80 [wv l, pHp h] [] (.bool (hpR l h)) [] := by
  have hoo : ∀ {i : Nat} (hi : i < h.objs.length), sizeOb h.objs[i] ≤ 1048576 := fun hi => Nat.le_trans (sizeHp_at hi) ho
  have hll : h.objs.length ≤ 1048576 := by unfold sizeHp at ho; omega
  have hvs : ∀ o ∈ h.objs, o.vals.length ≤ 1099511627776 := fun o hm => by
    obtain ⟨i, hi, rfl⟩ := List.getElem_of_mem hm
    have := hoo hi
    unfold sizeOb at this; omega
  refine Ct_bodyS tok Tryz.func80 rfl 72 (by kernel_rfl) (by kernel_rfl) fun X hX => ?_
  refine W_rseqK [2, 3] (jh hX (by simp [builtIn_length, six_v]; rfl)) ?_
  refine W_seq (jD [2, 3, 28] (jS 4 (by simp [builtIn_length, six_v]; rfl) (jC (c:=by apply ct_impl_size_impl_Obj <;> first | assumption | omega) (a:=cb_impl_size_impl_Obj) (k:=(jC (c:=by apply ct_impl_within <;> first | assumption | omega) (a:=cb_impl_within) (k:=(jS 2 (by simp [builtIn_length, six_v]; rfl) (jM 13 15 [2, 3, 28] (p:=fun b1_8 => by (try simp at b1_8); exact (jQ (by simp [-atD_lt, -atL_lt, builtIn_length, six_v]; rfl))) (q:=fun b1_8 => by (try simp at b1_8); exact (jS 8 (by simp [-atD_lt, -atL_lt, builtIn_length, six_v]; rfl) (jC (c:=by apply ct_impl_size_impl_Obj <;> first | assumption | omega) (a:=cb_impl_size_impl_Obj) (k:=(jS 1 (by simp [-atD_lt, -atL_lt, builtIn_length, six_v]; (try (simp (disch := omega) only [wrap_i64]; (try simp [-atD_lt, -atL_lt, builtIn_length, six_v]))); rfl) (jC (c:=by apply ct_impl_within <;> first | assumption | omega) (a:=cb_impl_within) (k:=(jQ (by simp [-atD_lt, -atL_lt, builtIn_length, six_v]; rfl))))))))) (k:=(RunsQ.fin (by (try simp); rfl)))))))))) ?_)
  refine jd (fun h1 => ?_) (fun h1 => ?_)
  · try simp at h1
    refine W_rseqK [4] (jh hX (by simp [builtIn_length, six_v]; rfl)) ?_
    refine W_ret (je (by simp [builtIn_length, six_v]; rfl) ?_)
    have : hpN h = false := by unfold hpN; grind
    rw [hpR, this]; rfl
  · try simp at h1
    have hN : hpN h = true := by unfold hpN; grind
    have hlen : 6 ≤ h.objs.length := by omega
    refine W_skip (W_seq (W_rseqK [2, 3, 30, 31, 32] (Runs.callF rfl (by simp) rfl (by simp [builtIn_length, six_v]; rfl) (by apply ct_impl_builtIn <;> first | assumption | omega) cb_impl_builtIn (by simp [builtIn_length, six_v]; rfl) (jh hX (by simp [builtIn_length, six_v]; rfl))) ?_))
    refine W_block (W_loopU (α := Nat) [2, 3, 30, 31, 32] (fun i => [(32, .int .i64 i)]) (fun i => []) (fun i => i ≤ 6 ∧ ∀ j, j < i → sixI j (atL h.objs j) = true) (fun i => 6 - i) (0) (fun i => by simp; rfl) (by simp) ?_ ?_)
    · simp
    rintro i ⟨hi, hI⟩
    refine W_rseqK [2, 3, 30, 31, 32, 33] (jh hX (by simp [builtIn_length, six_v]; rfl)) ?_
    refine W_seq (jd (fun h4 => ?_) (fun h4 => ?_))
    · try simp at h4
      have hio : i < h.objs.length := by omega
      have hof := hoo hio
      refine W_skip (W_seq (W_block (W_rseqK [2, 3, 5, 6, 30, 31, 32] (jh hX (by simp [h4, hio, builtIn_length, six_v]; rfl)) ?_)))
      refine W_rseqK [2, 3, 6, 7, 30, 31, 32] (jh hX (by simp [h4, hio, builtIn_length, six_v]; rfl)) ?_
      refine W_rseqK [2, 3, 30, 31, 32, 63] (js hX 4 (by simp [h4, hio, builtIn_length, six_v]; rfl) (jm 5 47 [2, 3, 7, 30, 31, 32, 52] (p:=fun b7_4 => by (try simp at b7_4); exact (jh hX (by simp [-atD_lt, -atL_lt, builtIn_length, six_v]; rfl))) (q:=fun b7_4 => by (try simp at b7_4); exact (jh hX (by simp [-atD_lt, -atL_lt, h4, hio, builtIn_length, six_v]; rfl))) (k:=(js hX 1 (by simp [builtIn_length, six_v]; rfl) (jm 4 53 [2, 3, 7, 30, 31, 32, 57] (p:=fun b7_10 => by (try simp at b7_10); exact (jh hX (by simp [-atD_lt, -atL_lt, builtIn_length, six_v]; rfl))) (q:=fun b7_10 => by (try simp at b7_10); exact (jh hX (by simp [-atD_lt, -atL_lt, h4, hio, builtIn_length, six_v]; rfl))) (k:=(js hX 1 (by simp [builtIn_length, six_v]; rfl) (jm 5 58 [2, 3, 30, 31, 32, 63] (p:=fun b7_15 => by (try simp at b7_15); exact (jh hX (by simp [-atD_lt, -atL_lt, builtIn_length, six_v]; rfl))) (q:=fun b7_15 => by (try simp at b7_15); exact (jh hX (by simp [-atD_lt, -atL_lt, h4, hio, builtIn_length, six_v]; rfl))) (k:=jf))))))))) ?_
      refine jd (fun h7 => ?_) (fun h7 => ?_)
      · try simp at h7
        refine W_rseqK [4] (jh hX (by simp [builtIn_length, six_v]; rfl)) ?_
        refine W_ret (je (by simp [h4, hio, h7, builtIn_length, six_v]; rfl) ?_)
        have hb : sixI i h.objs[i] = false := by unfold sixI; grind
        rw [hpR, hp_bad hw h4 hio hb, Bool.and_false]
      · try simp at h7
        have h7s : sixI i (atL h.objs i) = true := by rw [atL_lt hio]; unfold sixI; grind
        refine W_skip (W_reg (jh hX (by simp [builtIn_length, six_v]; (try (simp (disch := omega) only [wrap_i64]; (try simp [builtIn_length, six_v]))); rfl)) ?_)
        refine round_endT (i + 1) [2, 3, 30, 31, 32] 2 (by simp [hX]) (by simp) (by simp [h4, hio, h7]; try (simp (disch := omega) only [wrap_i64])) ?_ ?_
        · exact ⟨by omega, fun j hj => by
          rcases Nat.lt_or_ge j i with hji | hji
          · exact hI j hji
          · obtain rfl : j = i := by omega
            exact h7s⟩
        · omega
    · try simp at h4
      refine W_exit (W_rseqK [4] (js hX 5 (by simp [h4, builtIn_length, six_v]; rfl) (Runs.callB2 rfl (by simp) rfl (by simp [builtIn_length, six_v]; rfl) (by apply ct_slices_ContainsFunc_impl_Obj_impl_Obj <;> first | assumption | omega | exact hvs) cb_slices_ContainsFunc_impl_Obj_impl_Obj (by simp) (by simp [builtIn_length, six_v]; rfl) (jh hX (by simp [builtIn_length, six_v]; rfl)))) ?_)
      refine W_ret (je (by simp [h4, builtIn_length, six_v]; rfl) ?_)
      rw [hpR, hN, hp_good hlen (fun j hj => by have := hI j (by omega); rwa [atL_lt (by omega)] at this), any_not]; simp
end Go.Proofs
namespace Go.Proofs
open Go Go.Ev
theorem map_snocB {α : Type} {f g : α → V} {l : List α} {i : Nat} (h : i < l.length) (e : f l[i] = g l[i]) : (l.take i).map g ++ [f l[i]] = (l.take (i + 1)).map g := by
  rw [List.take_succ_eq_append_getElem h, List.map_append, e]; rfl
end Go.Proofs
namespace Go.Proofs
open Go Go.Ev


theorem cb_slices_Clone_impl_Val_impl_Val : Callable Tryz.prog 132 := ⟨_, Tryz.func132, by kernel_rfl, by kernel_rfl⟩
theorem ct_slices_Clone_impl_Val_impl_Val {l : List Vl} (hl : l.length ≤ 1048576) : Ct Tryz.prog 132 [.lst false 2 (l.map eVl)] [] (.lst true 2 (l.map eVl)) [] := by
  have w1 : l.length * 16 ≤ 140737488355328 := by omega
  have w2 : l.length ≤ 1099511627776 := by omega
  refine Ct_bodyS tok Tryz.func132 rfl 8 (by kernel_rfl) (by kernel_rfl) fun X hX => ?_
  refine W_rseqK [0] (jh hX (by simp [w1, w2]; rfl)) ?_
  refine W_seq (W_rseqE [0, 4] (RunsE.step 1 tok hX (by simp [w1, w2]; rfl) (RunsE.eqNil tok rfl rfl rfl rfl (by simp))) ?_)
  rintro _ ⟨b1, hb1, rfl⟩
  refine jd (fun h1 => ?_) (fun h1 => ?_)
  · try simp at h1
    refine W_rseqK [2] (jh hX (by simp [w1, w2]; rfl)) ?_
    refine W_ret (W_retR (by simp [w1, w2]; rfl) ?_ rfl)
    obtain rfl : l = [] := by
      cases l with
      | nil => rfl
      | cons x l => have := hb1 (by simp); simp_all
    exact Wk.nilSlice _ _
  · try simp at h1
    refine W_skip (W_rseqK [2] (jh hX (by simp [w1, w2]; rfl)) ?_)
    refine W_ret (W_retR (by simp [w1, w2]; rfl) ?_ rfl)
    exact Wk.refl _
end Go.Proofs
namespace Go.Proofs
open Go Go.Ev


theorem cb_impl_copyHeap : Callable Tryz.prog 81 := ⟨_, Tryz.func81, by kernel_rfl, by kernel_rfl⟩
theorem ct_impl_copyHeap {h : Hep} (ho : sizeHp h ≤ 1048576) : Ct Tryz.prog 81 [pHp h] [] (.bx 2 (oHp h)) [] := by
  have hoo : ∀ {i : Nat} (hi : i < h.objs.length), h.objs[i].vals.length ≤ 1048576 := fun hi => by
    have := Nat.le_trans (sizeHp_at hi) ho
    unfold sizeOb at this; omega
  have hll : h.objs.length ≤ 1048576 := by unfold sizeHp at ho; omega
  refine Ct_bodyS tok Tryz.func81 rfl 37 (by kernel_rfl) (by kernel_rfl) fun X hX => ?_
  refine jq [0] ?_
  refine jq [0, 3] ?_
  refine W_seq (jq [3, 15, 16, 17] ?_)
  refine W_block (W_le (Le.nilC 0 0 0 4 (by simp; rfl)) ?_)
  refine W_loopU (α := Nat) [3, 15, 16, 17] (fun i => [(17, .int .i64 i)]) (fun i => [(0, some (2, [.agg [.arr 1 0 i, .int .i64 h.room]])), (1, some (4, (h.objs.map oOb).take i))]) (fun i => i ≤ h.objs.length) (fun i => h.objs.length - i) (0) (fun i => by simp; rfl) (by simp) ?_ ?_
  · simp
  rintro i hi
  have w1 : (i + 1) * 56 ≤ 140737488355328 := by omega
  have w2 : i ≤ 1099511627775 := by omega
  refine W_rseqK [3, 15, 16, 17, 18] (jh hX (by simp [w1, w2]; rfl)) ?_
  refine W_seq (jd (fun h3 => ?_) (fun h3 => ?_))
  · try simp at h3
    obtain ⟨Y, hY⟩ : ∃ Y, Y = (h.objs.map oOb).take i := ⟨_, rfl⟩
    rw [← hY]
    have hYl : Y.length = i := by rw [hY]; simp; omega
    have hYt : Y.take i = Y := List.take_of_length_le (by omega)
    have hYj : ∀ p, jkL p Y = Y := fun p => by rw [hY, ← List.map_take]; exact jk_oOb p _
    have m1 := fun x => midG hYl x []
    have m2 := fun x y => midS hYl x y []
    have m3 := fun p x => mid_jk (p := p) (x := x) (Y := Y) (Z := []) (hYj p) rfl
    have hnext : (h.objs.map oOb).take (i + 1) = Y ++ [oOb h.objs[i]] := by
      rw [hY, List.take_succ_eq_append_getElem (by simpa using h3), List.getElem_map]
    refine W_skip (W_seq (W_block (W_rseqK [3, 5, 15, 16, 17] (jh hX (by simp [w1, w2, h3, hYl, hYt, hYj]; rfl)) ?_)))
    refine W_rseqK [3, 5, 15, 16, 17] (js hX 2 (by simp [w1, w2, h3, hYl, hYt, hYj]; rfl) (jc [] (c:=(by apply ct_slices_Clone_impl_Val_impl_Val <;> first | assumption | omega | exact hoo h3)) (a:=cb_slices_Clone_impl_Val_impl_Val) (k:=(jh hX (by simp [w1, w2, h3, hYl, hYt, hYj]; rfl))))) ?_
    refine jVr 8 (.pur 0 (.pur 1 (.pur 2 (.pur 3 (.two 4 5 (.one 5 (.one 6 (.one 7 .tail))) (.two 4 6 (.one 6 (.one 7 .tail)) (.one 4 (.one 7 .tail)))))))) hX (jVp (by simp [w1, w2, h3, hYl, hYt, hYj]; rfl) (jVp (by simp [w1, w2, h3, hYl, hYt, hYj]; rfl) (jVp (by simp [w1, w2, h3, hYl, hYt, hYj]; rfl) (jVp (by simp [w1, w2, h3, hYl, hYt, hYj]; rfl) (jVt (jVo (p:=fun X hX => (jh hX (by simp [w1, w2, h3, hYl, hYt, hYj]; rfl))) (k:=(jVo (p:=fun X hX => (jh hX (by simp [w1, w2, h3, hYl, hYt, hYj]; rfl))) (k:=(jVo (p:=fun X hX => (jh hX (by simp [w1, w2, h3, hYl, hYt, hYj]; rfl))) (k:=(jVo (p:=fun X hX => (jh hX (by simp [w1, w2, h3, hYl, hYt, hYj]; rfl))) (k:=.tail)))))))) (jVo (p:=fun X hX => (jh hX (by simp [w1, w2, h3, hYl, hYt, hYj]; try rfl))) (k:=(jVt (jVo (p:=fun X hX => (jh hX (by simp [w1, w2, h3, hYl, hYt, hYj]; try rfl))) (k:=(jVo (p:=fun X hX => (jh hX (by simp [w1, w2, h3, hYl, hYt, hYj]; try rfl))) (k:=(jVo (p:=fun X hX => (jh hX (by simp [w1, w2, h3, hYl, hYt, hYj]; try rfl))) (k:=.tail)))))) (jVo (p:=fun X hX => (jh hX (by simp [w1, w2, h3, hYl, hYt, hYj]; try rfl))) (k:=(jVo (p:=fun X hX => (jh hX (by simp [w1, w2, h3, hYl, hYt, hYj]; try rfl))) (k:=(jVo (p:=fun X hX => (jh hX (by simp [w1, w2, h3, hYl, hYt, hYj]; try rfl))) (k:=.tail)))))))))))))) (jh hX (by simp [w1, w2, h3, hYl, hYt, hYj]; rfl)) ?_
    refine W_reg (jh hX (by simp [w1, w2, h3, hYl, hYt, hYj]; (try (simp (disch := omega) only [wrap_i64]; (try simp [w1, w2, h3, hYl, hYt, hYj]))); rfl)) ?_
    refine ⟨i + 1, Le.trans (Le.keep [3, 15, 16, 17] _) (Le.trans (Le.absorb 1 i 3 (by simp [m1, m2, hYl]; rfl)) (Le.trans (Le.trim 2 (by simp [hX]) _ (by simp)) (Le.of_eq (by simp [hnext, m3])))), ?_, ?_⟩
    · omega
    · omega
  · try simp at h3
    obtain rfl : i = h.objs.length := by omega
    rw [List.take_of_length_le (show (h.objs.map oOb).length ≤ h.objs.length by simp)]
    refine W_exit (W_rseqK [2] (jh hX (by simp [w1, w2, h3]; rfl)) ?_)
    refine W_le (Le.absorb 0 0 0 (by simp; rfl)) ?_
    refine W_ret (je (by simp [w1, w2, h3]; rfl) ?_)
    rfl
end Go.Proofs
namespace Go.Proofs
open Go Go.Ev


theorem cb_impl_heapOf : Callable Tryz.prog 40 := ⟨_, Tryz.func40, by kernel_rfl, by kernel_rfl⟩
theorem ct_impl_heapOf_0 {l : List Cls} (hl : l.length ≤ 1048576) (hs : sizeL l ≤ 1048576) {h : Hep} (ho : sizeHp h ≤ 1048576) : Ct Tryz.prog 40 [.lst false 6 (l.map eC), eHp h, .raw (.slice none 0 0)] [] (hpOfV l h []) [] := by
  refine Ct_bodyS tok Tryz.func40 rfl 33 (by kernel_rfl) (by kernel_rfl) fun X hX => ?_
  refine jq [0, 2, 4] ?_
  refine W_seq (W_rseqK [0, 4, 18] (jt 1 (k:=(jc [] (c:=(by apply ct_impl_isList_impl_Class <;> first | assumption | omega | (have h9 := right_len (l := l) (by simp_all); omega) | simp_all)) (a:=cb_impl_isList_impl_Class) (k:=(jt 2 (k:=(jm 4 14 [0, 4, 18] (p:=fun b1_4 => by (try simp at b1_4); exact (jh hX (by simp [-atD_lt, -atL_lt]; rfl))) (q:=fun b1_4 => by (try simp at b1_4); exact (js hX 1 (by simp [-atD_lt, -atL_lt]; rfl) (Runs.callF rfl (by simp) rfl (by simp [-atD_lt, -atL_lt]; rfl) (by exact Ct.wkA (.cons (Wk.nilSlice false 1) .nil) (ct_impl_isText (l := []) (by simp))) cb_impl_isText (by simp [-atD_lt, -atL_lt]; rfl) (jh hX (by simp [-atD_lt, -atL_lt]; rfl))))) (k:=jf)))))))) ?_)
  refine jd (fun h1 => ?_) (fun h1 => ?_)
  · try simp at h1
    refine jq [6, 7, 8] ?_
    refine W_ret (je0 ?_)
    rw [hpOfV, if_pos (by simp; grind)]; rfl
  · try simp at h1
    refine W_skip (W_rseqK [4, 9, 10] (jt 1 (k:=(jc [] (c:=(by apply ct_impl_rightWorld <;> first | assumption | omega | (have h9 := right_len (l := l) (by simp_all); omega) | simp_all)) (a:=cb_impl_rightWorld) (k:=jr)))) ?_)
    refine W_seq (W_rseqK [4, 9, 30] (jt 3 (k:=(jm 4 26 [4, 9, 30] (p:=fun b4_3 => by (try simp at b4_3); exact (jh hX (by simp [-atD_lt, -atL_lt]; rfl))) (q:=fun b4_3 => by (try simp at b4_3); exact (js hX 1 (by simp [-atD_lt, -atL_lt]; rfl) (Runs.callB rfl (by simp) rfl (by simp [-atD_lt, -atL_lt]; rfl) (by apply ct_impl_world_heapRight <;> first | assumption | omega | (have h9 := right_len (l := l) (by simp_all); omega) | simp_all) cb_impl_world_heapRight (by simp) (by simp [-atD_lt, -atL_lt]; rfl) (jh hX (by simp [-atD_lt, -atL_lt]; rfl))))) (k:=jf)))) ?_)
    refine jd (fun h4 => ?_) (fun h4 => ?_)
    · try simp at h4
      refine jq [6, 7, 8] ?_
      refine W_ret (je0 ?_)
      rw [hpOfV, if_neg (by simp; grind), if_neg (by simp [hpRightW]; grind)]; rfl
    · try simp at h4
      refine W_skip (W_rseqK [6, 7, 8] (jt 1 (k:=(jB (c:=(by apply ct_impl_copyHeap <;> first | assumption | omega | (have h9 := right_len (l := l) (by simp_all); omega) | simp_all)) (a:=cb_impl_copyHeap) (k:=jr)))) ?_)
      refine W_ret (je0 ?_)
      rw [hpOfV, if_neg (by simp; grind), if_pos (by simp [hpRightW]; grind)]; rfl
theorem ct_impl_heapOf {l : List Cls} (hl : l.length ≤ 1048576) (hs : sizeL l ≤ 1048576) {h : Hep} (ho : sizeHp h ≤ 1048576) {c : Str} (hc : c.length ≤ 1099511627776) : Ct Tryz.prog 40 [.lst false 6 (l.map eC), eHp h, .arr 0 0 1] [some (1, [.str c])] (hpOfV l h [c]) [some (1, [.str c])] := by
  refine Ct_bodyS tok Tryz.func40 rfl 33 (by kernel_rfl) (by kernel_rfl) fun X hX => ?_
  refine jq [0, 2, 4] ?_
  refine W_seq (W_rseqK [0, 4, 18] (jt 1 (k:=(jc [] (c:=(by apply ct_impl_isList_impl_Class <;> first | assumption | omega | (have h9 := right_len (l := l) (by simp_all); omega) | simp_all)) (a:=cb_impl_isList_impl_Class) (k:=(jt 2 (k:=(jm 4 14 [0, 4, 18] (p:=fun b1_4 => by (try simp at b1_4); exact (jh hX (by simp [-atD_lt, -atL_lt]; rfl))) (q:=fun b1_4 => by (try simp at b1_4); exact (js hX 1 (by simp [-atD_lt, -atL_lt]; rfl) (Runs.callB rfl (by simp) rfl (by simp [-atD_lt, -atL_lt]; rfl) (by apply (ct_impl_isText (l := [c])) <;> simp) cb_impl_isText (by simp) (by simp [-atD_lt, -atL_lt]; rfl) (jh hX (by simp [-atD_lt, -atL_lt]; rfl))))) (k:=jf)))))))) ?_)
  refine jd (fun h1 => ?_) (fun h1 => ?_)
  · try simp at h1
    refine jq [6, 7, 8] ?_
    refine W_ret (je0 ?_)
    rw [hpOfV, if_pos (by simp; grind)]; rfl
  · try simp at h1
    refine W_skip (W_rseqK [4, 9, 10] (jt 1 (k:=(jc [] (c:=(by apply ct_impl_rightWorld <;> first | assumption | omega | (have h9 := right_len (l := l) (by simp_all); omega) | simp_all)) (a:=cb_impl_rightWorld) (k:=jr)))) ?_)
    refine W_seq (W_rseqK [4, 9, 30] (jt 3 (k:=(jm 4 26 [4, 9, 30] (p:=fun b4_3 => by (try simp at b4_3); exact (jh hX (by simp [-atD_lt, -atL_lt]; rfl))) (q:=fun b4_3 => by (try simp at b4_3); exact (js hX 1 (by simp [-atD_lt, -atL_lt]; rfl) (Runs.callB rfl (by simp) rfl (by simp [-atD_lt, -atL_lt]; rfl) (by apply ct_impl_world_heapRight <;> first | assumption | omega | (have h9 := right_len (l := l) (by simp_all); omega) | simp_all) cb_impl_world_heapRight (by simp) (by simp [-atD_lt, -atL_lt]; rfl) (jh hX (by simp [-atD_lt, -atL_lt]; rfl))))) (k:=jf)))) ?_)
    refine jd (fun h4 => ?_) (fun h4 => ?_)
    · try simp at h4
      refine jq [6, 7, 8] ?_
      refine W_ret (je0 ?_)
      rw [hpOfV, if_neg (by simp; grind), if_neg (by simp [hpRightW]; grind)]; rfl
    · try simp at h4
      refine W_skip (W_rseqK [6, 7, 8] (jt 1 (k:=(jB (c:=(by apply ct_impl_copyHeap <;> first | assumption | omega | (have h9 := right_len (l := l) (by simp_all); omega) | simp_all)) (a:=cb_impl_copyHeap) (k:=jr)))) ?_)
      refine W_ret (je0 ?_)
      rw [hpOfV, if_neg (by simp; grind), if_pos (by simp [hpRightW]; grind)]; rfl
end Go.Proofs
namespace Go.Proofs
open Go Go.Ev


theorem cb_impl_size_impl_Val : Callable Tryz.prog 83 := ⟨_, Tryz.func83, by kernel_rfl, by kernel_rfl⟩
theorem ct_impl_size_impl_Val {xs : List V} : Ct Tryz.prog 83 [.lst false 2 xs] [] (.int .i64 xs.length) [] := by
  refine Ct_bodyS tok Tryz.func83 rfl 5 (by kernel_rfl) (by kernel_rfl) fun X hX => ?_
  refine jq [0] ?_
  refine jq [2] ?_
  refine W_ret (je0 ?_)
  simp
end Go.Proofs
namespace Go.Proofs
open Go Go.Ev


theorem cb_impl_Heap_place : Callable Tryz.prog 41 := ⟨_, Tryz.func41, by kernel_rfl, by kernel_rfl⟩
theorem ct_impl_Heap_place_n0 {h : Hep} {a p : Int} (hh : hasR h a = false) : Ct Tryz.prog 41 [pHp h, .int .i64 a, .int .i64 p] [] (.tup [.raw (.slice none 0 0), .bool false]) [] := by
  refine Ct_bodyS tok Tryz.func41 rfl 37 (by kernel_rfl) (by kernel_rfl) fun X hX => ?_
  refine W_rseqK [0, 1, 2] (jh hX (by simp [hh]; rfl)) ?_
  refine W_seq ?_
  first | (refine W_rseqK [0, 1, 27] (js hX 2 (by simp [hh]; rfl) (Runs.callB rfl (by simp) rfl (by simp [hh]; rfl) (by apply ct_impl_Heap_has <;> first | assumption | omega | (simp at *; omega) | simp_all) cb_impl_Heap_has (by simp) (by simp [hh]; rfl) (jh hX (by simp [hh]; rfl)))) ?_)
  refine jd (fun h1 => ?_) (fun h1 => ?_)
  · try simp at h1
    all_goals
      refine W_rseqK [6, 7] (jh hX (by simp [hh]; rfl)) ?_
      refine W_ret (je (by simp [hh]; rfl) ?_)
      simp_all
  · try simp at h1
    all_goals
      exfalso; simp at h1 --done
theorem ct_impl_Heap_place_n1 {h : Hep} {j : Nat} {p : Int} (ho : sizeHp h ≤ 1048576) (hj : j < h.objs.length) (hn : ¬ (0 ≤ p ∧ p < (h.objs[j].vals.length : Int))) : Ct Tryz.prog 41 [pHp h, .int .i64 ((j : Int) + 1), .int .i64 p] [] (.tup [.raw (.slice none 0 0), .bool false]) [] := by
  obtain ⟨hw, hw2, hh⟩ := place_at ho hj
  refine Ct_bodyS tok Tryz.func41 rfl 37 (by kernel_rfl) (by kernel_rfl) fun X hX => ?_
  refine W_rseqK [0, 1, 2] (jh hX (by simp [hj, hw, hw2, hh]; rfl)) ?_
  refine W_seq ?_
  first | (refine W_rseqK [0, 1, 27] (js hX 2 (by simp [hj, hw, hw2, hh]; rfl) (Runs.callB rfl (by simp) rfl (by simp [hj, hw, hw2, hh]; rfl) (by apply ct_impl_Heap_has <;> first | assumption | omega | (simp at *; omega) | simp_all) cb_impl_Heap_has (by simp) (by simp [hj, hw, hw2, hh]; rfl) (js hX 12 (by simp [hj, hw, hw2, hh]; (try (simp (disch := omega) only [wrap_i64]; (try simp [hj, hw, hw2, hh]))); rfl) (Runs.callB rfl (by simp) rfl (by simp [hj, hw, hw2, hh]; rfl) (by apply ct_impl_size_impl_Val <;> first | assumption | omega | (simp at *; omega) | simp_all) cb_impl_size_impl_Val (by simp) (by simp [hj, hw, hw2, hh]; rfl) (js hX 1 (by simp [hj, hw, hw2, hh]; (try (simp (disch := omega) only [wrap_i64]; (try simp [hj, hw, hw2, hh]))); rfl) (Runs.callF rfl (by simp) rfl (by simp [hj, hw, hw2, hh]; rfl) (by apply ct_impl_within <;> first | assumption | omega | (simp at *; omega) | simp_all) cb_impl_within (by simp [hj, hw, hw2, hh]; rfl) (jh hX (by simp [hj, hw, hw2, hh]; rfl)))))))) ?_)
  refine jd (fun h1 => ?_) (fun h1 => ?_)
  · try simp at h1
    all_goals
      refine W_rseqK [6, 7] (jh hX (by simp [hj, hw, hw2, hh]; rfl)) ?_
      refine W_ret (je (by simp [hj, hw, hw2, hh]; rfl) ?_)
      simp_all
  · try simp at h1
    all_goals
      exfalso; omega --done
theorem ct_impl_Heap_place {Y Z ys : List V} {j q N : Nat} {K room : Int} {C : Str} {rd : Bool} {p : Int} (hYl : Y.length = j) (hN : j + (Z.length + 1) = N) (hY3 : limL 3 Y = true) (hZ3 : limL 3 Z = true) (hy3 : limL 3 ys = true) (hj : j ≤ 1048576) (hq : ys.length = q) (hq2 : q ≤ 1048576) (h0 : 0 ≤ p) (h1 : p < q) : Ct Tryz.prog 41 [.ptr 0 0 0, .int .i64 ((j : Int) + 1), .int .i64 p] [some (2, [.agg [.arr 1 0 N, .int .i64 room]]), some (4, Y ++ .agg [.int .i64 K, .str C, .bool rd, .arr 2 0 q] :: Z), some (2, ys)] (.tup [.arr 2 0 q, .bool true]) [some (2, [.agg [.arr 1 0 N, .int .i64 room]]), some (4, Y ++ .agg [.int .i64 K, .str C, .bool rd, .arr 2 0 q] :: Z), some (2, ys)] := by
  have m1 := fun x => midG hYl x Z
  have m0 := fun x => midA hYl x Z
  have hL : ∀ x, (Y ++ x :: Z).length = N := fun x => by simp [hYl]; omega
  have hT : ∀ x, (Y ++ x :: Z).take N = Y ++ x :: Z := fun x => List.take_of_length_le (by rw [hL]; omega)
  have hyT : ys.take q = ys := List.take_of_length_le (by omega)
  have hw : IntKind.i64.wrap (j : Int) = j := wrap_i64 (by omega) (by omega)
  have hw2 : IntKind.i64.wrap ((q : Int) - 1) = q - 1 := wrap_i64 (by omega) (by omega)
  have hjN : j < N := by omega
  have hr0 : p ≤ (q : Int) - 1 := by omega
  refine Ct_bodyS tok Tryz.func41 rfl 37 (by kernel_rfl) (by kernel_rfl) fun X hX => ?_
  refine W_rseqK [0, 1, 2] (jh hX (by simp [m1, m0, hL, hT, hyT, hw, hw2, hjN, hY3, hZ3, hy3, hYl, hq, fzL_length, h0, hr0]; rfl)) ?_
  refine W_seq ?_
  first | (refine W_rseqK [0, 1, 27] (js hX 2 (by simp [m1, m0, hL, hT, hyT, hw, hw2, hjN, hY3, hZ3, hy3, hYl, hq, fzL_length, h0, hr0]; rfl) (Runs.callB2 rfl (by simp) rfl (by simp [m1, m0, hL, hT, hyT, hw, hw2, hjN, hY3, hZ3, hy3, hYl, hq, fzL_length, h0, hr0]; rfl) (by apply ct_impl_Heap_has_t <;> first | assumption | (simp [fzL_length, hYl]; omega)) cb_impl_Heap_has (by simp) (by simp [m1, m0, hL, hT, hyT, hw, hw2, hjN, hY3, hZ3, hy3, hYl, hq, fzL_length, h0, hr0]; rfl) (js hX 12 (by simp [m1, m0, hL, hT, hyT, hw, hw2, hjN, hY3, hZ3, hy3, hYl, hq, fzL_length, h0, hr0]; (try (simp (disch := omega) only [wrap_i64]; (try simp [m1, m0, hL, hT, hyT, hw, hw2, hjN, hY3, hZ3, hy3, hYl, hq, fzL_length, h0, hr0]))); rfl) (Runs.callB rfl (by simp) rfl (by simp [m1, m0, hL, hT, hyT, hw, hw2, hjN, hY3, hZ3, hy3, hYl, hq, fzL_length, h0, hr0]; rfl) (by apply ct_impl_size_impl_Val <;> first | assumption | omega | (simp at *; omega) | simp_all) cb_impl_size_impl_Val (by simp) (by simp [m1, m0, hL, hT, hyT, hw, hw2, hjN, hY3, hZ3, hy3, hYl, hq, fzL_length, h0, hr0]; rfl) (js hX 1 (by simp [m1, m0, hL, hT, hyT, hw, hw2, hjN, hY3, hZ3, hy3, hYl, hq, fzL_length, h0, hr0]; (try (simp (disch := omega) only [wrap_i64]; (try simp [m1, m0, hL, hT, hyT, hw, hw2, hjN, hY3, hZ3, hy3, hYl, hq, fzL_length, h0, hr0]))); rfl) (Runs.callF rfl (by simp) rfl (by simp [m1, m0, hL, hT, hyT, hw, hw2, hjN, hY3, hZ3, hy3, hYl, hq, fzL_length, h0, hr0]; rfl) (by apply ct_impl_within <;> first | assumption | omega | (simp at *; omega) | simp_all) cb_impl_within (by simp [m1, m0, hL, hT, hyT, hw, hw2, hjN, hY3, hZ3, hy3, hYl, hq, fzL_length, h0, hr0]; rfl) (jh hX (by simp [m1, m0, hL, hT, hyT, hw, hw2, hjN, hY3, hZ3, hy3, hYl, hq, fzL_length, h0, hr0]; rfl)))))))) ?_)
  refine jd (fun h1 => ?_) (fun h1 => ?_)
  · try simp at h1
    all_goals
      exfalso; omega --done
  · try simp at h1
    all_goals
      refine W_skip (W_rseqK [6, 7] (jh hX (by simp [m1, m0, hL, hT, hyT, hw, hw2, hjN, hY3, hZ3, hy3, hYl, hq, fzL_length, h0, hr0]; (try (simp (disch := omega) only [wrap_i64]; (try simp [m1, m0, hL, hT, hyT, hw, hw2, hjN, hY3, hZ3, hy3, hYl, hq, fzL_length, h0, hr0]))); rfl)) ?_)
      refine W_ret (je (by simp [m1, m0, hL, hT, hyT, hw, hw2, hjN, hY3, hZ3, hy3, hYl, hq, fzL_length, h0, hr0]; rfl) ?_)
      simp_all
theorem ct_impl_Heap_place_no {h : Hep} {a p : Int} (ho : sizeHp h ≤ 1048576) (hn : placeR h a p = false) : Ct Tryz.prog 41 [pHp h, .int .i64 a, .int .i64 p] [] (.tup [.raw (.slice none 0 0), .bool false]) [] := by
  rcases place_no hn with h1 | ⟨j, hj, rfl, h2⟩
  · exact ct_impl_Heap_place_n0 h1
  · exact ct_impl_Heap_place_n1 ho hj h2
end Go.Proofs
