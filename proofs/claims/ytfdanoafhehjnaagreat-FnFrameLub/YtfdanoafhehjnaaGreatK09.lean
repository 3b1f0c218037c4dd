/- Part 10 of what the proofs lean on: what the functions of the program and of the reference compute. Conditions: none. -/
import Derived.Test.YtfdanoafhehjnaaGreatK08
set_option linter.all false
set_option linter.unusedVariables false
set_option linter.unusedSimpArgs false
set_option maxHeartbeats 2000000
set_option maxRecDepth 100000
namespace Go.Proofs
open Go Go.Ev


theorem cb_impl_MethodRight : Callable Tryz.prog 211 := ⟨_, Tryz.func211, by kernel_rfl, by kernel_rfl⟩
theorem ct_impl_MethodRight {x : Mth} (h : sizeM x ≤ 1099511627776) : Ct Tryz.prog 211 [eM x] [] (.bool (mthRight x)) [] := by
  have hM := h
  simp only [sizeM] at h
  refine Ct_bodyS tok Tryz.func211 rfl 93 (by kernel_rfl) (by kernel_rfl) fun X hX => ?_
  refine jq [1] ?_
  refine W_seq (W_rseqK [1, 24] (jt 2 (k:=(jc [] (c:=(by apply ct_impl_isMethodName <;> first | assumption | omega | (simp at *; omega) | simp_all)) (a:=cb_impl_isMethodName) (k:=(jt 2 (k:=(jm 5 7 [1, 12] (p:=fun b1_5 => by (try simp at b1_5); exact (jh hX (by simp [-atD_lt, -atL_lt]; rfl))) (q:=fun b1_5 => by (try simp at b1_5); exact (js hX 2 (by simp [-atD_lt, -atL_lt]; rfl) (Runs.call [] rfl (by simp) rfl (by simp [-atD_lt, -atL_lt]; rfl) (by simp; rfl) (by apply ct_impl_isDesc <;> first | assumption | omega | (simp at *; omega) | simp_all) cb_impl_isDesc (by simp) (by simp) (by simp [-atD_lt, -atL_lt]; rfl) (jh hX (by simp [-atD_lt, -atL_lt]; rfl))))) (k:=(jt 1 (k:=(jm 5 13 [1, 18] (p:=fun b1_11 => by (try simp at b1_11); exact (jh hX (by simp [-atD_lt, -atL_lt]; rfl))) (q:=fun b1_11 => by (try simp at b1_11); exact (js hX 2 (by simp [-atD_lt, -atL_lt]; rfl) (Runs.call [] rfl (by simp) rfl (by simp [-atD_lt, -atL_lt]; rfl) (by simp; rfl) (by apply ct_impl_within <;> first | assumption | omega | (simp at *; omega) | simp_all) cb_impl_within (by simp) (by simp) (by simp [-atD_lt, -atL_lt]; rfl) (jh hX (by simp [-atD_lt, -atL_lt]; rfl))))) (k:=(jt 1 (k:=(jm 5 19 [1, 24] (p:=fun b1_17 => by (try simp at b1_17); exact (jh hX (by simp [-atD_lt, -atL_lt]; rfl))) (q:=fun b1_17 => by (try simp at b1_17); exact (js hX 2 (by simp [-atD_lt, -atL_lt]; rfl) (Runs.call [] rfl (by simp) rfl (by simp [-atD_lt, -atL_lt]; rfl) (by simp; rfl) (by apply ct_impl_within <;> first | assumption | omega | (simp at *; omega) | simp_all) cb_impl_within (by simp) (by simp) (by simp [-atD_lt, -atL_lt]; rfl) (jh hX (by simp [-atD_lt, -atL_lt]; rfl))))) (k:=jf)))))))))))))))) ?_)
  refine jd (fun h1 => ?_) (fun h1 => ?_)
  · try simp at h1
    have hh : mthHead x = false := by unfold mthHead; grind
    refine jq [2] ?_
    refine W_ret (je0 ?_)
    rw [mthRight_no hh]
  · try simp at h1
    have hh : mthHead x = true := by unfold mthHead; grind
    refine W_skip (W_seq (jq [1, 26] ?_))
    refine jd (fun h3 => ?_) (fun h3 => ?_)
    · try simp at h3
      refine W_rseqK [2] (jt 4 (k:=(jm 4 30 [1, 34] (p:=fun b4_4 => by (try simp at b4_4); exact (jh hX (by simp [-atD_lt, -atL_lt]; rfl))) (q:=fun b4_4 => by (try simp at b4_4); exact (jh hX (by simp [-atD_lt, -atL_lt]; rfl))) (k:=(jt 1 (k:=(jm 5 35 [1, 40] (p:=fun b4_9 => by (try simp at b4_9); exact (jh hX (by simp [-atD_lt, -atL_lt]; rfl))) (q:=fun b4_9 => by (try simp at b4_9); exact (jh hX (by simp [-atD_lt, -atL_lt]; rfl))) (k:=(jt 1 (k:=(jm 5 41 [1, 46] (p:=fun b4_15 => by (try simp at b4_15); exact (jh hX (by simp [-atD_lt, -atL_lt]; rfl))) (q:=fun b4_15 => by (try simp at b4_15); exact (jh hX (by simp [-atD_lt, -atL_lt]; rfl))) (k:=(jt 1 (k:=(jm 4 47 [1, 51] (p:=fun b4_21 => by (try simp at b4_21); exact (jh hX (by simp [-atD_lt, -atL_lt]; rfl))) (q:=fun b4_21 => by (try simp at b4_21); exact (jh hX (by simp [-atD_lt, -atL_lt]; rfl))) (k:=(jt 1 (k:=(jm 4 52 [1, 56] (p:=fun b4_26 => by (try simp at b4_26); exact (jh hX (by simp [-atD_lt, -atL_lt]; rfl))) (q:=fun b4_26 => by (try simp at b4_26); exact (jh hX (by simp [-atD_lt, -atL_lt]; rfl))) (k:=(jt 1 (k:=(jm 4 57 [61] (p:=fun b4_31 => by (try simp at b4_31); exact (jh hX (by simp [-atD_lt, -atL_lt]; rfl))) (q:=fun b4_31 => by (try simp at b4_31); exact (jh hX (by simp [-atD_lt, -atL_lt]; rfl))) (k:=jr)))))))))))))))))))))))) ?_
      refine W_ret (je0 ?_)
      rw [mthRight_abs hh h3]
      simp [init]; grind
    · try simp at h3
      rw [mthRight_eq hh h3]
      refine W_skip (W_seq (jD [1, 71] (jS 1 (by simp; rfl) (jC (c:=by apply ct_impl_codeRight <;> first | assumption | omega | (simp at *; omega) | simp_all) (a:=cb_impl_codeRight) (k:=(jS 2 (by simp; rfl) (jM 6 65 [1, 71] (p:=fun b5_4 => by (try simp at b5_4); exact (jQ (by simp [-atD_lt, -atL_lt]; rfl))) (q:=fun b5_4 => by (try simp at b5_4); exact (jS 3 (by simp [-atD_lt, -atL_lt]; rfl) (jC (c:=by apply ct_impl_Method_slots <;> first | assumption | omega | (simp at *; omega) | simp_all) (a:=cb_impl_Method_slots) (k:=(jQ (by simp [-atD_lt, -atL_lt]; rfl)))))) (k:=(RunsQ.fin (by (try simp); rfl)))))))) ?_))
      refine jd (fun h5 => ?_) (fun h5 => ?_)
      · try simp at h5
        refine jq [2] ?_
        refine W_ret (je (by simp [h5]; rfl) ?_)
        rcases h5 with h5 | h5
        · simp [h5]
        · rw [decide_eq_false (p := _ ≤ _) (by omega)]; simp
      · try simp at h5
        refine W_skip (W_rseqK [2] (js hX 4 (by simp [h5]; rfl) (jm 17 75 [92] (p:=fun b7_4 => by (try simp at b7_4); exact (jh hX (by simp [-atD_lt, -atL_lt]; rfl))) (q:=fun b7_4 => by (try simp at b7_4); exact (js hX 4 (by simp [-atD_lt, -atL_lt, h5]; rfl) (jm 4 79 [1, 75, 83] (p:=fun b7_8 => by (try simp at b7_8); exact (jh hX (by simp [-atD_lt, -atL_lt, h5]; rfl))) (q:=fun b7_8 => by (try simp at b7_8); exact (jh hX (by simp [-atD_lt, -atL_lt]; rfl))) (k:=(js hX 1 (by simp [-atD_lt, -atL_lt]; rfl) (jm 7 84 [75, 91] (p:=fun b7_13 => by (try simp at b7_13); exact (js hX 2 (by simp [-atD_lt, -atL_lt, h5]; rfl) (Runs.callF rfl (by simp) rfl (by simp [-atD_lt, -atL_lt]; rfl) (by apply ct_impl_descRead <;> first | assumption | omega | (simp at *; omega) | simp_all) cb_impl_descRead (by simp [-atD_lt, -atL_lt]; rfl) (jh hX (by simp [-atD_lt, -atL_lt]; rfl))))) (q:=fun b7_13 => by (try simp at b7_13); exact (jh hX (by simp [-atD_lt, -atL_lt]; rfl))) (k:=(jh hX (by simp [-atD_lt, -atL_lt]; rfl))))))))) (k:=jr))) ?_)
        refine W_ret (je (by simp [h5]; rfl) ?_)
        rw [h5.1, decide_eq_true h5.2]
        simp only [Bool.true_and, init]
        congr 1
end Go.Proofs
namespace Go.Proofs
open Go Go.Ev


theorem cb_impl_Class_methodAt_1 : Callable Tryz.prog 260 := ⟨_, Tryz.func260, by kernel_rfl, by kernel_rfl⟩
theorem ct_impl_Class_methodAt_1 {x : Mth} {n d : Str} : Ct Tryz.prog 260 [eM x, .fp [.str n], .fp [.str d]] [] (.bool (decide (x.name = n) && decide (x.desc = d))) [] := by
  refine Ct_bodyS tok Tryz.func260 rfl 15 (by kernel_rfl) (by kernel_rfl) fun X hX => ?_
  refine jq [1, 2, 3] ?_
  refine W_rseqK [4] (jt 5 (k:=(jm 5 9 [14] (p:=fun b1_5 => by (try simp at b1_5); exact (jh hX (by simp [-atD_lt, -atL_lt]; rfl))) (q:=fun b1_5 => by (try simp at b1_5); exact (jh hX (by simp [-atD_lt, -atL_lt]; rfl))) (k:=jr)))) ?_
  refine W_ret (je0 ?_)
  simp_all
end Go.Proofs
namespace Go.Proofs
open Go Go.Ev


theorem cb_slices_IndexFunc_impl_Method_impl_Method : Callable Tryz.prog 259 := ⟨_, Tryz.func259, by kernel_rfl, by kernel_rfl⟩
theorem ct_slices_IndexFunc_impl_Method_impl_Method {n d : Str} {l : List Mth} (hl : l.length ≤ 1099511627776) : Ct Tryz.prog 259 [.lst false 9 (l.map eM), .clo (.func 260) [] [.fp [.str n], .fp [.str d]]] [] (.int .i64 (fix (fun x => decide (x.name = n) && decide (x.desc = d)) l)) [] := by
  refine Ct_bodyS tok Tryz.func259 rfl 19 (by kernel_rfl) (by kernel_rfl) fun X hX => ?_
  refine jq [0, 1] ?_
  refine W_seq (jq [0, 1, 7, 8] ?_)
  refine W_block (W_loopU (α := Nat) [0, 1, 7, 8] (fun i => [(8, .int .i64 i)]) (fun i => []) (fun i => i ≤ l.length ∧ ∀ x ∈ l.take i, (fun x => decide (x.name = n) && decide (x.desc = d)) x = false) (fun i => l.length - i) (0) (fun i => by simp; rfl) (by simp) ?_ ?_)
  · simp
  rintro i ⟨hi, hI⟩
  refine jq [0, 1, 7, 8, 9] ?_
  refine W_seq (jd (fun h2 => ?_) (fun h2 => ?_))
  · try simp at h2
    refine W_skip (W_seq (W_block (jq [0, 1, 5, 7, 8] ?_)))
    refine W_rseqK [0, 1, 5, 7, 8, 16] (js hX 5 (by simp [h2]; rfl) (jc [] (c:=(by apply ct_impl_Class_methodAt_1 <;> first | assumption | exact hs _ (List.getElem_mem h2) | omega)) (a:=cb_impl_Class_methodAt_1) (k:=jf))) ?_
    refine jd (fun h4 => ?_) (fun h4 => ?_)
    · try simp at h4
      refine jq [4] ?_
      refine W_ret (je (by simp [h2]; rfl) ?_)
      rw [fix_hit h2 hI (by simpa using h4)]
    · try simp at h4
      refine W_skip (W_reg (jh hX (by simp; (try (simp (disch := omega) only [wrap_i64]; (try simp))); rfl)) ?_)
      refine round_end (i + 1) [0, 1, 7, 8] (by simp [h2]; try (simp (disch := omega) only [wrap_i64])) ?_ ?_
      · exact ⟨by omega, take_not h2 hI (by simpa using h4)⟩
      · omega
  · try simp at h2
    refine W_exit (jq [4] ?_)
    refine W_ret (je (by simp [h2]; rfl) ?_)
    rw [fix_none (p := fun x => decide (x.name = n) && decide (x.desc = d)) (fun x hx => hI x (by rw [List.take_of_length_le h2]; exact hx))]
end Go.Proofs
namespace Go.Proofs
open Go Go.Ev


theorem cb_impl_Class_methodAt : Callable Tryz.prog 212 := ⟨_, Tryz.func212, by kernel_rfl, by kernel_rfl⟩
theorem ct_impl_Class_methodAt {x : Cls} {n d : Str} (h : x.methods.length ≤ 1099511627776) : Ct Tryz.prog 212 [eC x, .str n, .str d] [] (.int .i64 (fix (fun f => decide (f.name = n) && decide (f.desc = d)) x.methods)) [] := by
  refine Ct_bodyS tok Tryz.func212 rfl 11 (by kernel_rfl) (by kernel_rfl) fun X hX => ?_
  refine jq [3, 4, 5] ?_
  refine W_rseqK [6] (jt 3 (k:=(jB (c:=(by apply ct_slices_IndexFunc_impl_Method_impl_Method <;> first | assumption | omega | (simp at *; omega) | simp_all)) (a:=cb_slices_IndexFunc_impl_Method_impl_Method) (k:=jr)))) ?_
  refine W_ret (je0 ?_)
  simp_all
end Go.Proofs
namespace Go.Proofs
open Go Go.Ev


theorem cb_impl_ClassRight : Callable Tryz.prog 146 := ⟨_, Tryz.func146, by kernel_rfl, by kernel_rfl⟩
theorem ct_impl_ClassRight {x : Cls} (h : sizeC x ≤ 1099511627776) : Ct Tryz.prog 146 [eC x] [] (.bool (clsRight x)) [] := by
  simp only [sizeC] at h
  refine Ct_bodyS tok Tryz.func146 rfl 102 (by kernel_rfl) (by kernel_rfl) fun X hX => ?_
  refine jq [1] ?_
  refine W_seq (W_rseqK [1, 43] (jt 2 (k:=(jc [] (c:=(by apply ct_impl_NameRight <;> first | assumption | omega | (have := mem_sum (f := sizeF) (List.getElem_mem h4); simp only [sizeF] at *; (try simp only [atL_lt h4]); omega) | (have := mem_sum (f := sizeM) (List.getElem_mem h10); (try simp only [atL_lt h10]); omega))) (a:=cb_impl_NameRight) (k:=(jt 2 (k:=(jm 5 11 [1, 16] (p:=fun b1_5 => by (try simp at b1_5); exact (jh hX (by simp [-atD_lt, -atL_lt]; rfl))) (q:=fun b1_5 => by (try simp at b1_5); exact (js hX 2 (by simp [-atD_lt, -atL_lt]; rfl) (Runs.call [] rfl (by simp) rfl (by simp [-atD_lt, -atL_lt]; rfl) (by simp; rfl) (by apply ct_impl_NameRight <;> first | assumption | omega | (have := mem_sum (f := sizeF) (List.getElem_mem h4); simp only [sizeF] at *; (try simp only [atL_lt h4]); omega) | (have := mem_sum (f := sizeM) (List.getElem_mem h10); (try simp only [atL_lt h10]); omega)) cb_impl_NameRight (by simp) (by simp) (by simp [-atD_lt, -atL_lt]; rfl) (jh hX (by simp [-atD_lt, -atL_lt]; rfl))))) (k:=(jt 1 (k:=(jm 6 17 [1, 23] (p:=fun b1_11 => by (try simp at b1_11); exact (jh hX (by simp [-atD_lt, -atL_lt]; rfl))) (q:=fun b1_11 => by (try simp at b1_11); exact (jh hX (by simp [-atD_lt, -atL_lt]; rfl))) (k:=(jt 1 (k:=(jm 7 24 [1, 31] (p:=fun b1_18 => by (try simp at b1_18); exact (jh hX (by simp [-atD_lt, -atL_lt]; rfl))) (q:=fun b1_18 => by (try simp at b1_18); exact (js hX 3 (by simp [-atD_lt, -atL_lt]; rfl) (jm 3 27 [1, 24, 30] (p:=fun b1_21 => by (try simp at b1_21); exact (jh hX (by simp [-atD_lt, -atL_lt]; rfl))) (q:=fun b1_21 => by (try simp at b1_21); exact (jh hX (by simp [-atD_lt, -atL_lt]; rfl))) (k:=(jh hX (by simp [-atD_lt, -atL_lt]; rfl)))))) (k:=(jt 1 (k:=(jm 5 32 [1, 37] (p:=fun b1_26 => by (try simp at b1_26); exact (jh hX (by simp [-atD_lt, -atL_lt]; rfl))) (q:=fun b1_26 => by (try simp at b1_26); exact (jh hX (by simp [-atD_lt, -atL_lt]; rfl))) (k:=(jt 1 (k:=(jm 5 38 [1, 43] (p:=fun b1_32 => by (try simp at b1_32); exact (jh hX (by simp [-atD_lt, -atL_lt]; rfl))) (q:=fun b1_32 => by (try simp at b1_32); exact (jh hX (by simp [-atD_lt, -atL_lt, b1_32]; rfl))) (k:=jf)))))))))))))))))))))))) ?_)
  refine jd (fun h1 => ?_) (fun h1 => ?_)
  · try simp at h1
    have hh : clsHead x = false := by unfold clsHead; grind
    refine jq [2] ?_
    refine W_ret (je (by simp [h1]; rfl) ?_)
    simp [clsRight, hh]
  · try simp at h1
    have hh : clsHead x = true := by unfold clsHead; grind
    rw [show clsRight x = (fldsR [] x.fields && mthsR x.abstr [] x.methods) from by simp [clsRight, hh]]
    refine W_skip (W_seq (W_rseqK [1, 45, 46, 47] (jh hX (by simp [h1]; rfl)) ?_))
    refine W_block (W_loopU (α := Nat) [1, 45, 46, 47] (fun i => [(47, .int .i64 i)]) (fun i => []) (fun i => i ≤ x.fields.length ∧ fldsR (x.fields.take i) (x.fields.drop i) = fldsR [] x.fields) (fun i => x.fields.length - i) (0) (fun i => by simp; rfl) (by simp) ?_ ?_)
    · simp
    rintro i ⟨hi, hI⟩
    refine jq [1, 45, 46, 47, 48] ?_
    refine W_seq (jd (fun h4 => ?_) (fun h4 => ?_))
    · try simp at h4
      rw [List.drop_eq_getElem_cons h4] at hI
      simp only [fldsR] at hI
      have hfx := fix_first (p := fun f : Fld => decide (f.name = x.fields[i].name)) h4 (by simp)
      refine W_skip (W_seq (W_block (W_rseqK [1, 3, 4, 45, 46, 47] (jh hX (by simp [h1, h4]; rfl)) ?_)))
      refine W_rseqK [1, 45, 46, 47, 69] (js hX 2 (by simp [h1, h4]; rfl) (jc [] (c:=(by apply ct_impl_NameRight <;> first | assumption | omega | (have := mem_sum (f := sizeF) (List.getElem_mem h4); simp only [sizeF] at *; (try simp only [atL_lt h4]); omega) | (have := mem_sum (f := sizeM) (List.getElem_mem h10); (try simp only [atL_lt h10]); omega))) (a:=cb_impl_NameRight) (k:=(jt 2 (k:=(jm 5 56 [1, 3, 4, 45, 46, 47, 61] (p:=fun b6_5 => by (try simp at b6_5); exact (jh hX (by simp [-atD_lt, -atL_lt]; rfl))) (q:=fun b6_5 => by (try simp at b6_5); exact (js hX 2 (by simp [-atD_lt, -atL_lt, h1, h4]; rfl) (Runs.call [] rfl (by simp) rfl (by simp [-atD_lt, -atL_lt]; rfl) (by simp; rfl) (by apply ct_impl_typeRight <;> first | assumption | omega | (have := mem_sum (f := sizeF) (List.getElem_mem h4); simp only [sizeF] at *; (try simp only [atL_lt h4]); omega) | (have := mem_sum (f := sizeM) (List.getElem_mem h10); (try simp only [atL_lt h10]); omega)) cb_impl_typeRight (by simp) (by simp) (by simp [-atD_lt, -atL_lt]; rfl) (jh hX (by simp [-atD_lt, -atL_lt]; rfl))))) (k:=(jt 1 (k:=(jm 7 62 [1, 45, 46, 47, 69] (p:=fun b6_11 => by (try simp at b6_11); exact (jh hX (by simp [-atD_lt, -atL_lt]; rfl))) (q:=fun b6_11 => by (try simp at b6_11); exact (js hX 3 (by simp [-atD_lt, -atL_lt, h1, h4]; rfl) (Runs.call [] rfl (by simp) rfl (by simp [-atD_lt, -atL_lt]; rfl) (by simp; rfl) (by apply ct_impl_Class_fieldAt <;> first | assumption | omega | (have := mem_sum (f := sizeF) (List.getElem_mem h4); simp only [sizeF] at *; (try simp only [atL_lt h4]); omega) | (have := mem_sum (f := sizeM) (List.getElem_mem h10); (try simp only [atL_lt h10]); omega)) cb_impl_Class_fieldAt (by simp) (by simp) (by simp [-atD_lt, -atL_lt]; rfl) (jh hX (by simp [-atD_lt, -atL_lt]; rfl))))) (k:=jf))))))))))) ?_
      refine jd (fun h6 => ?_) (fun h6 => ?_)
      · try simp at h6
        refine jq [2] ?_
        refine W_ret (je (by simp [h1, h4]; rfl) ?_)
        have h6b : (nameRight x.fields[i].name && typeRight x.fields[i].type && (x.fields.take i).all (fun g => !decide (g.name = x.fields[i].name))) = false := by rw [← hfx]; grind
        rw [← hI, h6b]; rfl
      · try simp at h6
        have h6b : (nameRight x.fields[i].name && typeRight x.fields[i].type && (x.fields.take i).all (fun g => !decide (g.name = x.fields[i].name))) = true := by rw [← hfx]; grind
        refine W_skip (W_reg (jh hX (by simp; (try (simp (disch := omega) only [wrap_i64]; (try simp))); rfl)) ?_)
        refine round_endT (i + 1) [1, 45, 46, 47] 1 (by simp [hX]) (by simp) (by simp [h1, h4]; try (simp (disch := omega) only [wrap_i64])) ?_ ?_
        · exact ⟨by omega, by rw [List.take_succ_eq_append_getElem h4, ← hI, h6b]; simp⟩
        · omega
    · try simp at h4
      rw [List.drop_eq_nil_of_le h4] at hI
      simp only [fldsR] at hI
      rw [← hI, Bool.true_and]
      refine W_exit (W_seq (W_rseqK [1, 72, 73, 74] (jh hX (by simp [h1, h4]; rfl)) ?_))
      refine W_block (W_loopU (α := Nat) [1, 72, 73, 74] (fun i => [(74, .int .i64 i)]) (fun i => []) (fun i => i ≤ x.methods.length ∧ mthsR x.abstr (x.methods.take i) (x.methods.drop i) = mthsR x.abstr [] x.methods) (fun i => x.methods.length - i) (0) (fun i => by simp; rfl) (by simp) ?_ ?_)
      · simp
      rintro i ⟨hi2, hI2⟩
      refine jq [1, 72, 73, 74, 75] ?_
      refine W_seq (jd (fun h10 => ?_) (fun h10 => ?_))
      · try simp at h10
        rw [List.drop_eq_getElem_cons h10] at hI2
        simp only [mthsR] at hI2
        have hfx := fix_first (p := fun m : Mth => decide (m.name = x.methods[i].name) && decide (m.desc = x.methods[i].desc)) h10 (by simp)
        refine W_skip (W_seq (W_block (W_rseqK [1, 5, 6, 72, 73, 74] (jh hX (by simp [h1, h4, h10]; rfl)) ?_)))
        refine W_rseqK [1, 72, 73, 74, 100] (js hX 1 (by simp [h1, h4, h10]; rfl) (jc [] (c:=(by apply ct_impl_MethodRight <;> first | assumption | omega | (have := mem_sum (f := sizeF) (List.getElem_mem h4); simp only [sizeF] at *; (try simp only [atL_lt h4]); omega) | (have := mem_sum (f := sizeM) (List.getElem_mem h10); (try simp only [atL_lt h10]); omega))) (a:=cb_impl_MethodRight) (k:=(jt 2 (k:=(jm 8 82 [1, 5, 6, 72, 73, 74, 90] (p:=fun b12_4 => by (try simp at b12_4); exact (jh hX (by simp [-atD_lt, -atL_lt]; rfl))) (q:=fun b12_4 => by (try simp at b12_4); exact (js hX 3 (by simp [-atD_lt, -atL_lt, h1, h4, h10]; rfl) (jm 4 85 [1, 5, 6, 72, 73, 74, 82, 89] (p:=fun b12_7 => by (try simp at b12_7); exact (jh hX (by simp [-atD_lt, -atL_lt, h1, h4, h10]; rfl))) (q:=fun b12_7 => by (try simp at b12_7); exact (jh hX (by simp [-atD_lt, -atL_lt]; rfl))) (k:=(jh hX (by simp [-atD_lt, -atL_lt]; rfl)))))) (k:=(jt 1 (k:=(jm 9 91 [1, 72, 73, 74, 100] (p:=fun b12_13 => by (try simp at b12_13); exact (jh hX (by simp [-atD_lt, -atL_lt]; rfl))) (q:=fun b12_13 => by (try simp at b12_13); exact (js hX 5 (by simp [-atD_lt, -atL_lt, h1, h4, h10]; rfl) (Runs.call [] rfl (by simp) rfl (by simp [-atD_lt, -atL_lt]; rfl) (by simp; rfl) (by apply ct_impl_Class_methodAt <;> first | assumption | omega | (have := mem_sum (f := sizeF) (List.getElem_mem h4); simp only [sizeF] at *; (try simp only [atL_lt h4]); omega) | (have := mem_sum (f := sizeM) (List.getElem_mem h10); (try simp only [atL_lt h10]); omega)) cb_impl_Class_methodAt (by simp) (by simp) (by simp [-atD_lt, -atL_lt]; rfl) (jh hX (by simp [-atD_lt, -atL_lt]; rfl))))) (k:=jf))))))))))) ?_
        refine jd (fun h12 => ?_) (fun h12 => ?_)
        · try simp at h12
          refine jq [2] ?_
          refine W_ret (je (by simp [h1, h4, h10]; rfl) ?_)
          have h12b : (mthRight x.methods[i] && !(x.methods[i].abstr && !x.abstr) && (x.methods.take i).all (fun g => !(decide (g.name = x.methods[i].name) && decide (g.desc = x.methods[i].desc)))) = false := by rw [← hfx]; grind
          rw [← hI2, h12b]; rfl
        · try simp at h12
          have h12b : (mthRight x.methods[i] && !(x.methods[i].abstr && !x.abstr) && (x.methods.take i).all (fun g => !(decide (g.name = x.methods[i].name) && decide (g.desc = x.methods[i].desc)))) = true := by rw [← hfx]; grind
          refine W_skip (W_reg (jh hX (by simp; (try (simp (disch := omega) only [wrap_i64]; (try simp))); rfl)) ?_)
          refine round_endT (i + 1) [1, 72, 73, 74] 1 (by simp [hX]) (by simp) (by simp [h1, h4, h10]; try (simp (disch := omega) only [wrap_i64])) ?_ ?_
          · exact ⟨by omega, by rw [List.take_succ_eq_append_getElem h10, ← hI2, h12b]; simp⟩
          · omega
      · try simp at h10
        rw [List.drop_eq_nil_of_le h10] at hI2
        simp only [mthsR] at hI2
        rw [← hI2]
        refine W_exit (jq [2] ?_)
        refine W_ret (je (by simp [h1, h4, h10]; rfl) ?_)
        simp
end Go.Proofs
namespace Go.Proofs
open Go Go.Ev


theorem cb_impl_world_check_1 : Callable Tryz.prog 145 := ⟨_, Tryz.func145, by kernel_rfl, by kernel_rfl⟩
theorem ct_impl_world_check_1 {l : List Cls} (hl : l.length ≤ 1099511627776) {c : Cls} {k : Int} (h : sizeC c ≤ 1099511627776) : Ct Tryz.prog 145 [.int .i64 k, eC c, .fp [wv l]] [] (.int .i64 (pI1 l c k)) [] := by
  refine Ct_bodyS tok Tryz.func145 rfl 25 (by kernel_rfl) (by kernel_rfl) fun X hX => ?_
  refine jq [0, 2, 4] ?_
  refine W_seq (W_block (W_rseqK [0, 2, 4, 6] (jt 1 (k:=(jc [] (c:=(by apply ct_impl_ClassRight <;> first | assumption | omega | (simp at *; omega) | simp_all)) (a:=cb_impl_ClassRight) (k:=jr)))) ?_))
  refine jd (fun h1 => ?_) (fun h1 => ?_)
  · try simp at h1
    refine jq [5] ?_
    refine W_ret (je0 ?_)
    simp only [pI1]
    simp_all
  · try simp at h1
    refine jD [10] (jS 2 (by simp; rfl) (jC (c:=by apply ct_impl_isBuiltIn <;> first | assumption | omega | (simp at *; omega) | simp_all) (a:=cb_impl_isBuiltIn) (k:=(jS 1 (by simp; rfl) (jM 10 14 [24] (p:=fun b3_4 => by (try simp at b3_4); exact (jQ (by simp [-atD_lt, -atL_lt]; rfl))) (q:=fun b3_4 => by (try simp at b3_4); exact (jQ (by simp [-atD_lt, -atL_lt]; rfl))) (k:=(jQ (by simp; rfl)))))))) ?_
    refine jd (fun h3 => ?_) (fun h3 => ?_)
    · try simp at h3
      refine jq [5] ?_
      refine W_ret (je0 ?_)
      simp only [pI1]
      simp_all
    · try simp at h3
      refine W_skip (jq [5] ?_)
      refine W_ret (je0 ?_)
      simp only [pI1]
      simp_all
end Go.Proofs
namespace Go.Proofs
open Go Go.Ev


theorem cb_impl_world_known : Callable Tryz.prog 71 := ⟨_, Tryz.func71, by kernel_rfl, by kernel_rfl⟩
theorem ct_impl_world_known {l : List Cls} {n : Str} (hl : l.length ≤ 1099511627776) : Ct Tryz.prog 71 [wv l, .str n] [] (.bool (isKnown l n)) [] := by
  refine Ct_bodyS tok Tryz.func71 rfl 21 (by kernel_rfl) (by kernel_rfl) fun X hX => ?_
  refine jq [0, 1] ?_
  refine jq [1, 6] ?_
  refine W_rseqK [4] (jt 2 (k:=(jm 3 17 [20] (p:=fun b2_2 => by (try simp at b2_2); exact (jh hX (by simp [-atD_lt, -atL_lt]; rfl))) (q:=fun b2_2 => by (try simp at b2_2); exact (js hX 1 (by simp [-atD_lt, -atL_lt]; rfl) (Runs.call [] rfl (by simp) rfl (by simp [-atD_lt, -atL_lt]; rfl) (by simp; rfl) (by apply ct_impl_isBuiltIn <;> first | assumption | omega | (simp at *; omega) | simp_all) cb_impl_isBuiltIn (by simp) (by simp) (by simp [-atD_lt, -atL_lt]; rfl) (jh hX (by simp [-atD_lt, -atL_lt]; rfl))))) (k:=jr)))) ?_
  refine W_ret (je0 ?_)
  unfold isKnown
  simp_all [bIn, Bool.or_comm]
end Go.Proofs
namespace Go.Proofs
open Go Go.Ev


theorem cb_impl_world_class : Callable Tryz.prog 193 := ⟨_, Tryz.func193, by kernel_rfl, by kernel_rfl⟩
theorem ct_impl_world_class {l : List Cls} {n : Str} (hl : l.length ≤ 1099511627776) : Ct Tryz.prog 193 [wv l, .str n] [] (.tup [eC (clsOf l n), .bool (decide (0 ≤ findFrom n l 0))]) [] := by
  refine Ct_bodyS tok Tryz.func193 rfl 27 (by kernel_rfl) (by kernel_rfl) fun X hX => ?_
  refine jq [0, 1, 4] ?_
  refine jq [0, 4, 6, 7] ?_
  refine W_seq (jq [0, 4, 6, 18] ?_)
  refine jd (fun h2 => ?_) (fun h2 => ?_)
  · try simp at h2
    refine jq [4, 5] ?_
    refine W_ret (W_retR (by simp; rfl) ?_ rfl)
    rw [clsOf_none (by omega), decide_eq_false (p := 0 ≤ findFrom n l 0) (by omega)]
    exact Wk.tup (.cons wk_zC (.cons (Wk.refl _) .nil))
  · try simp at h2
    obtain ⟨i, hi, hf, hp, hcl, _⟩ := clsOf_found h2
    refine W_skip (W_rseqK [4, 5] (jh hX (by simp [hi, hp]; rfl)) ?_)
    refine W_ret (W_retR (by simp [hi, hp]; rfl) ?_ rfl)
    rw [hcl, decide_eq_true h2]
    exact Wk.refl _
end Go.Proofs
namespace Go.Proofs
open Go Go.Ev


theorem cb_impl_world_superCode : Callable Tryz.prog 148 := ⟨_, Tryz.func148, by kernel_rfl, by kernel_rfl⟩
theorem ct_impl_world_superCode {l : List Cls} (hl : l.length ≤ 1099511627776) {c : Cls} : Ct Tryz.prog 148 [wv l, eC c] [] (.int .i64 (superCode l c)) [] := by
  have hcase : ((decide (0 ≤ findFrom c.super l 0)) = true ∧ (clsOf l c.super).final = true) ∨ ((decide (0 ≤ findFrom c.super l 0)) = true ∧ (clsOf l c.super).final = false) ∨ ((decide (0 ≤ findFrom c.super l 0)) = false ∧ True) := by
    cases decide (0 ≤ findFrom c.super l 0) <;> cases (clsOf l c.super).final <;> simp
  rcases hcase with ⟨hc1, hc2⟩ | ⟨hc1, hc2⟩ | ⟨hc1, hc2⟩
  all_goals
    refine Ct_bodyS tok Tryz.func148 rfl 33 (by kernel_rfl) (by kernel_rfl) fun X hX => ?_
    refine jq [0, 3] ?_
    refine W_rseqK [0, 3, 5, 6] (js hX 3 (by simp [hc1, hc2]; rfl) (jF (c:=(by apply ct_impl_world_class <;> first | assumption | omega | (simp at *; omega) | simp_all)) (a:=cb_impl_world_class) (k:=(jh hX (by simp [hc1, hc2]; rfl))))) ?_
    refine W_seq (W_block (W_rseqK [3, 5, 6, 14] (js hX 3 (by simp [hc1, hc2]; rfl) (jc [] (c:=(by apply ct_impl_world_known <;> first | assumption | omega | (simp at *; omega) | simp_all)) (a:=cb_impl_world_known) (k:=jr))) ?_))
    refine jd (fun h2 => ?_) (fun h2 => ?_)
    · try simp at h2
      refine jq [4] ?_
      refine W_ret (je (by simp [hc1, hc2]; rfl) ?_)
      simp only [superCode]
      (try simp_all) <;> grind
    · try simp at h2
      first | (refine jL 10 [0, 1, 2, 3, 4, 5, 8, 9] [6, 7] [20] ([0, 1]) hX (by simp [hc1, hc2]; rfl) (jH (p:=fun X hX => jr) (k:=(jH (p:=fun X hX => jr) (k:=.nil)))) jr ?_) | (refine jL 10 [0, 1, 2, 3, 4, 5, 8, 9] [6, 7] [20] ([0, 1]) hX (by simp [hc1, hc2]; rfl) (jH (p:=fun X hX => (jc [] (c:=(by apply ct_impl_builtIn <;> first | assumption | omega | (simp at *; omega) | simp_all)) (a:=cb_impl_builtIn) (k:=jf))) (k:=(jH (p:=fun X hX => (jh hX (by simp [hc1, hc2]; rfl))) (k:=.nil)))) (jB (c:=(by apply (ct_slices_Contains_string_string (l := builtIn.drop 2)) <;> first | decide | simp)) (a:=cb_slices_Contains_string_string) (k:=jr)) ?_) | (refine jL 10 [0, 1, 2, 3, 4, 5, 8, 9] [6, 7] [20] ([0, 1]) hX (by simp [hc1, hc2]; rfl) (jH (p:=fun X hX => (jc [] (c:=(by apply ct_impl_builtIn <;> first | assumption | omega | (simp at *; omega) | simp_all)) (a:=cb_impl_builtIn) (k:=jf))) (k:=(jH (p:=fun X hX => (jh hX (by simp [hc1, hc2]; rfl))) (k:=.nil)))) (jB (c:=(by apply (ct_slices_Contains_string_string (l := builtIn.drop 2)) <;> first | decide | simp)) (a:=cb_slices_Contains_string_string) (k:=jr)) ?_)
      refine jd (fun h4 => ?_) (fun h4 => ?_)
      · try simp at h4
        all_goals
          refine jq [4] ?_
          refine W_ret (je (by simp [hc1, hc2]; rfl) ?_)
          simp only [superCode]
          (try simp_all) <;> grind
      · try simp at h4
        all_goals
          refine W_skip (jq [4] ?_)
          refine W_ret (je (by simp [hc1, hc2]; rfl) ?_)
          simp only [superCode]
          (try simp_all) <;> grind
end Go.Proofs
namespace Go.Proofs
open Go Go.Ev


theorem cb_impl_world_check_2 : Callable Tryz.prog 147 := ⟨_, Tryz.func147, by kernel_rfl, by kernel_rfl⟩
theorem ct_impl_world_check_2 {l : List Cls} (hl : l.length ≤ 1099511627776) {c : Cls} {k : Int} : Ct Tryz.prog 147 [.int .i64 k, eC c, .fp [wv l]] [] (.int .i64 (superCode l c)) [] := by
  refine Ct_bodyS tok Tryz.func147 rfl 9 (by kernel_rfl) (by kernel_rfl) fun X hX => ?_
  refine jq [2, 4] ?_
  refine W_rseqK [5] (jt 2 (k:=(jc [] (c:=(by apply ct_impl_world_superCode <;> first | assumption | omega | (simp at *; omega) | simp_all)) (a:=cb_impl_world_superCode) (k:=jr)))) ?_
  refine W_ret (je0 ?_)
  simp_all
end Go.Proofs
namespace Go.Proofs
open Go Go.Ev


theorem cb_impl_codeUnless : Callable Tryz.prog 150 := ⟨_, Tryz.func150, by kernel_rfl, by kernel_rfl⟩
theorem ct_impl_codeUnless {b : Bool} {n : Int} : Ct Tryz.prog 150 [.bool b, .int .i64 n] [] (.int .i64 (if b = true then 0 else n)) [] := by
  refine Ct_bodyS tok Tryz.func150 rfl 7 (by kernel_rfl) (by kernel_rfl) fun X hX => ?_
  refine jq [0, 1] ?_
  refine W_seq (jq [1, 5] ?_)
  refine jd (fun h1 => ?_) (fun h1 => ?_)
  · try simp at h1
    refine jq [4] ?_
    refine W_ret (je0 ?_)
    simp_all
  · try simp at h1
    refine W_skip (jq [4] ?_)
    refine W_ret (je0 ?_)
    simp_all
end Go.Proofs
namespace Go.Proofs
open Go Go.Ev


theorem cb_impl_typeClass : Callable Tryz.prog 78 := ⟨_, Tryz.func78, by kernel_rfl, by kernel_rfl⟩
theorem ct_impl_typeClass {t : Str} (ht : t.length ≤ 1099511627776) : Ct Tryz.prog 78 [.str t] [] (.str (typeClass t)) [] := by
  refine Ct_bodyS tok Tryz.func78 rfl 29 (by kernel_rfl) (by kernel_rfl) fun X hX => ?_
  refine jq [0] ?_
  refine W_seq (W_block (W_rseqK [0, 3] (jt 3 (k:=(jm 3 6 [0, 9] (p:=fun b1_3 => by (try simp at b1_3); exact (jh hX (by simp [-atD_lt, -atL_lt]; rfl))) (q:=fun b1_3 => by (try simp at b1_3); exact (jh hX (by simp [-atD_lt, -atL_lt]; rfl))) (k:=(jt 1 (k:=(jm 4 10 [0, 14] (p:=fun b1_7 => by (try simp at b1_7); exact (jh hX (by simp [-atD_lt, -atL_lt]; rfl))) (q:=fun b1_7 => by (try simp at b1_7); exact (js hX 1 (by simp [-atD_lt, -atL_lt]; rfl) (Runs.call [] rfl (by simp) rfl (by simp [-atD_lt, -atL_lt]; rfl) (by simp; rfl) (by apply ct_impl_typeRight <;> first | assumption | omega | (simp at *; omega) | simp_all) cb_impl_typeRight (by simp) (by simp) (by simp [-atD_lt, -atL_lt]; rfl) (jh hX (by simp [-atD_lt, -atL_lt]; rfl))))) (k:=jr)))))))) ?_))
  refine jd (fun h1 => ?_) (fun h1 => ?_)
  · try simp at h1
    have hx : typeClass t = [] := typeClass_no (fun e => by
      rcases h1 with (h1 | h1) | h1
      · exact .inl h1
      · exact .inr h1
      · rw [h1] at e; cases e)
    refine jq [2] ?_
    refine W_ret (je0 ?_)
    rw [hx]
  · try simp at h1
    obtain ⟨hl1, hl2, hx⟩ := typeClass_eq h1.2 h1.1.1 h1.1.2
    rw [hx]
    have hl0 : 0 < t.length := by omega
    have hat := isAt_lt (n := 91) hl0
    have hs1 : 0 ≤ (t.length : Int) - 1 := by omega
    have hs2 : ((t.length : Int) - 1).toNat = t.length - 1 := by omega
    have hs3 : t.length - 1 ≤ t.length := by omega
    have hs4 : 1 ≤ t.length - 1 := by omega
    have hs6 : 1 ≤ t.length := by omega
    refine W_rseqK [0, 15] (jh hX (by simp [hl0, hs1, hs2, hs3, hs4, hs6]; rfl)) ?_
    refine jd (fun h3 => ?_) (fun h3 => ?_)
    · try simp at h3
      have h3b : isAt t 0 91 = true := by rw [hat]; simpa using h3
      have hs5 : 2 ≤ t.length - 1 := by have := hl2 h3b; omega
      rw [if_pos h3b]
      refine W_rseqK [2] (jh hX (by simp [hl0, hs1, hs2, hs3, hs4, hs6, hs5]; (try (simp (disch := omega) only [wrap_i64]; (try simp [hl0, hs1, hs2, hs3, hs4, hs6, hs5]))); rfl)) ?_
      refine W_ret (je (by simp [hl0, hs1, hs2, hs3, hs4, hs6, hs5]; rfl) ?_)
      simp [seg]
    · try simp at h3
      have h3b : isAt t 0 91 = false := by rw [hat]; simpa using h3
      rw [if_neg (by simp [h3b])]
      refine W_skip (W_rseqK [2] (jh hX (by simp [hl0, hs1, hs2, hs3, hs4, hs6]; (try (simp (disch := omega) only [wrap_i64]; (try simp [hl0, hs1, hs2, hs3, hs4, hs6]))); rfl)) ?_)
      refine W_ret (je (by simp [hl0, hs1, hs2, hs3, hs4, hs6]; rfl) ?_)
      simp [seg]
end Go.Proofs
namespace Go.Proofs
open Go Go.Ev


theorem cb_impl_world_namesOK_1 : Callable Tryz.prog 213 := ⟨_, Tryz.func213, by kernel_rfl, by kernel_rfl⟩
theorem ct_impl_world_namesOK_1 {l : List Cls} (hl : l.length ≤ 1099511627776) {t : Str} (ht : t.length ≤ 1099511627776) : Ct Tryz.prog 213 [.str t, .fp [wv l]] [] (.bool (typeK l t)) [] := by
  refine Ct_bodyS tok Tryz.func213 rfl 14 (by kernel_rfl) (by kernel_rfl) fun X hX => ?_
  refine jq [0, 1] ?_
  refine W_rseqK [1, 4] (jt 1 (k:=(jc [] (c:=(by apply ct_impl_typeClass <;> first | assumption | omega | (simp at *; omega) | simp_all)) (a:=cb_impl_typeClass) (k:=jr)))) ?_
  refine W_rseqK [3] (jt 3 (k:=(jm 4 9 [13] (p:=fun b2_3 => by (try simp at b2_3); exact (jh hX (by simp [-atD_lt, -atL_lt]; rfl))) (q:=fun b2_3 => by (try simp at b2_3); exact (js hX 2 (by simp [-atD_lt, -atL_lt]; rfl) (Runs.call [] rfl (by simp) rfl (by simp [-atD_lt, -atL_lt]; rfl) (by simp; rfl) (by apply ct_impl_world_known <;> first | assumption | omega | (simp at *; omega) | simp_all) cb_impl_world_known (by simp) (by simp) (by simp [-atD_lt, -atL_lt]; rfl) (jh hX (by simp [-atD_lt, -atL_lt]; rfl))))) (k:=jr)))) ?_
  refine W_ret (je0 ?_)
  rw [← typeK_of]
end Go.Proofs
namespace Go.Proofs
open Go Go.Ev


theorem cb_impl_world_namesOK_2 : Callable Tryz.prog 216 := ⟨_, Tryz.func216, by kernel_rfl, by kernel_rfl⟩
theorem ct_impl_world_namesOK_2 {l : List Cls} (hl : l.length ≤ 1099511627776) {t : Str} (ht : t.length ≤ 1099511627776) : Ct Tryz.prog 216 [.str t, .fp [.clo (.func 213) [] [.fp [wv l]]]] [] (.bool (!typeK l t)) [] := by
  refine Ct_bodyS tok Tryz.func216 rfl 8 (by kernel_rfl) (by kernel_rfl) fun X hX => ?_
  refine jq [0, 1] ?_
  refine W_rseqK [3] (jt 2 (k:=(jc [] (c:=(by apply ct_impl_world_namesOK_1 <;> first | assumption | omega | (simp at *; omega) | simp_all)) (a:=cb_impl_world_namesOK_1) (k:=jr)))) ?_
  refine W_ret (je0 ?_)
  simp_all
end Go.Proofs
namespace Go.Proofs
open Go Go.Ev


theorem cb_slices_IndexFunc_string_string : Callable Tryz.prog 261 := ⟨_, Tryz.func261, by kernel_rfl, by kernel_rfl⟩
theorem ct_slices_IndexFunc_string_string {cs : List Cls} (hc : cs.length ≤ 1099511627776) {l : List Str} (hl : l.length ≤ 1099511627776) (hs : ∀ x ∈ l, x.length ≤ 1099511627776) : Ct Tryz.prog 261 [.lst false 1 (l.map V.str), .clo (.func 216) [] [.fp [.clo (.func 213) [] [.fp [wv cs]]]]] [] (.int .i64 (fix (fun t => !typeK cs t) l)) [] := by
  refine Ct_bodyS tok Tryz.func261 rfl 19 (by kernel_rfl) (by kernel_rfl) fun X hX => ?_
  refine jq [0, 1] ?_
  refine W_seq (jq [0, 1, 7, 8] ?_)
  refine W_block (W_loopU (α := Nat) [0, 1, 7, 8] (fun i => [(8, .int .i64 i)]) (fun i => []) (fun i => i ≤ l.length ∧ ∀ x ∈ l.take i, (fun t => !typeK cs t) x = false) (fun i => l.length - i) (0) (fun i => by simp; rfl) (by simp) ?_ ?_)
  · simp
  rintro i ⟨hi, hI⟩
  refine jq [0, 1, 7, 8, 9] ?_
  refine W_seq (jd (fun h2 => ?_) (fun h2 => ?_))
  · try simp at h2
    refine W_skip (W_seq (W_block (jq [0, 1, 5, 7, 8] ?_)))
    refine W_rseqK [0, 1, 5, 7, 8, 16] (js hX 5 (by simp [h2]; rfl) (jc [] (c:=(by apply ct_impl_world_namesOK_2 <;> first | assumption | exact hs _ (List.getElem_mem h2) | omega)) (a:=cb_impl_world_namesOK_2) (k:=jf))) ?_
    refine jd (fun h4 => ?_) (fun h4 => ?_)
    · try simp at h4
      refine jq [4] ?_
      refine W_ret (je (by simp [h2]; rfl) ?_)
      rw [fix_hit h2 hI (by simpa using h4)]
    · try simp at h4
      refine W_skip (W_reg (jh hX (by simp; (try (simp (disch := omega) only [wrap_i64]; (try simp))); rfl)) ?_)
      refine round_end (i + 1) [0, 1, 7, 8] (by simp [h2]; try (simp (disch := omega) only [wrap_i64])) ?_ ?_
      · exact ⟨by omega, take_not h2 hI (by simpa using h4)⟩
      · omega
  · try simp at h2
    refine W_exit (jq [4] ?_)
    refine W_ret (je (by simp [h2]; rfl) ?_)
    rw [fix_none (p := fun t => !typeK cs t) (fun x hx => hI x (by rw [List.take_of_length_le h2]; exact hx))]
end Go.Proofs
namespace Go.Proofs
open Go Go.Ev


theorem cb_slices_ContainsFunc_string_string : Callable Tryz.prog 215 := ⟨_, Tryz.func215, by kernel_rfl, by kernel_rfl⟩
theorem ct_slices_ContainsFunc_string_string {cs : List Cls} (hc : cs.length ≤ 1099511627776) {l : List Str} (hl : l.length ≤ 1099511627776) (hs : ∀ x ∈ l, x.length ≤ 1099511627776) : Ct Tryz.prog 215 [.lst false 1 (l.map V.str), .clo (.func 216) [] [.fp [.clo (.func 213) [] [.fp [wv cs]]]]] [] (.bool (l.any (fun t => !typeK cs t))) [] := by
  refine Ct_bodyS tok Tryz.func215 rfl 9 (by kernel_rfl) (by kernel_rfl) fun X hX => ?_
  refine jq [0, 1] ?_
  refine W_rseqK [4] (jt 2 (k:=(jc [] (c:=(by apply ct_slices_IndexFunc_string_string <;> first | assumption | omega | (simp at *; omega) | simp_all)) (a:=cb_slices_IndexFunc_string_string) (k:=jr)))) ?_
  refine W_ret (je0 ?_)
  rw [← fix_ge]
end Go.Proofs
namespace Go.Proofs
open Go Go.Ev


theorem cb_impl_world_namesOK : Callable Tryz.prog 151 := ⟨_, Tryz.func151, by kernel_rfl, by kernel_rfl⟩
theorem ct_impl_world_namesOK {l : List Cls} (hl : l.length ≤ 1099511627776) {c : Cls} (h : sizeC c ≤ 1099511627776) : Ct Tryz.prog 151 [wv l, eC c] [] (.bool (clsKI l c)) [] := by
  simp only [sizeC] at h
  refine Ct_bodyS tok Tryz.func151 rfl 48 (by kernel_rfl) (by kernel_rfl) fun X hX => ?_
  refine jq [2, 3] ?_
  refine jq [3, 5] ?_
  refine W_seq (jq [3, 5, 13, 14, 15] ?_)
  refine W_block (W_loopU (α := Nat) [3, 5, 13, 14, 15] (fun i => [(15, .int .i64 i)]) (fun i => []) (fun i => i ≤ c.fields.length ∧ (c.fields.drop i).all (fun f => typeK l f.type) = c.fields.all (fun f => typeK l f.type)) (fun i => c.fields.length - i) (0) (fun i => by simp; rfl) (by simp) ?_ ?_)
  · simp
  rintro i ⟨hi, hI⟩
  refine jq [3, 5, 13, 14, 15, 16] ?_
  refine W_seq (jd (fun h3 => ?_) (fun h3 => ?_))
  · try simp at h3
    rw [all_drop h3] at hI
    refine W_skip (W_seq (W_block (W_rseqK [3, 5, 7, 13, 14, 15] (jh hX (by simp [h3]; rfl)) ?_)))
    refine W_rseqK [3, 5, 13, 14, 15, 23] (js hX 3 (by simp [h3]; rfl) (jB (c:=(by apply ct_impl_world_namesOK_1 <;> first | assumption | omega | (have := mem_sum (f := sizeF) (List.getElem_mem h3); simp only [sizeF] at *; (try simp only [atL_lt h3]); omega) | (have := mem_sum (f := sizeM) (List.getElem_mem h9); simp only [sizeM] at *; (try simp only [atL_lt h9]); omega))) (a:=cb_impl_world_namesOK_1) (k:=jr))) ?_
    refine jd (fun h5 => ?_) (fun h5 => ?_)
    · try simp at h5
      refine jq [4] ?_
      refine W_ret (je (by simp [h3]; rfl) ?_)
      simp [clsKI, ← hI, h5]
    · try simp at h5
      rw [h5, Bool.true_and] at hI
      refine W_skip (W_reg (jh hX (by simp; (try (simp (disch := omega) only [wrap_i64]; (try simp))); rfl)) ?_)
      refine round_endT (i + 1) [3, 5, 13, 14, 15] 3 (by simp [hX]) (by simp) (by simp [h3]; try (simp (disch := omega) only [wrap_i64])) ?_ ?_
      · exact ⟨by omega, hI⟩
      · omega
  · try simp at h3
    rw [List.drop_eq_nil_of_le h3] at hI
    refine W_exit (W_seq (W_rseqK [5, 26, 27, 28] (jh hX (by simp [h3]; rfl)) ?_))
    refine W_block (W_loopU (α := Nat) [5, 26, 27, 28] (fun i => [(28, .int .i64 i)]) (fun i => []) (fun i => i ≤ c.methods.length ∧ (c.methods.drop i).all (fun m => descKI l m.desc) = c.methods.all (fun m => descKI l m.desc)) (fun i => c.methods.length - i) (0) (fun i => by simp; rfl) (by simp) ?_ ?_)
    · simp
    rintro i ⟨hi2, hI2⟩
    refine jq [5, 26, 27, 28, 29] ?_
    refine W_seq (jd (fun h9 => ?_) (fun h9 => ?_))
    · try simp at h9
      rw [all_drop h9] at hI2
      have hdp := dRead_parts c.methods[i].desc
      have hd8 := dRead_le c.methods[i].desc
      have hdl : c.methods[i].desc.length ≤ 1099511627776 := by have := mem_sum (f := sizeM) (List.getElem_mem h9); simp only [sizeM] at *; omega
      refine W_skip (W_seq (W_block (W_rseqK [5, 9, 26, 27, 28] (jh hX (by simp [h3, h9]; rfl)) ?_)))
      refine W_rseqK [5, 10, 26, 27, 28] (js hX 2 (by simp [h3, h9]; rfl) (jF (c:=(by apply ct_impl_descRead <;> first | assumption | omega | (have := mem_sum (f := sizeF) (List.getElem_mem h3); simp only [sizeF] at *; (try simp only [atL_lt h3]); omega) | (have := mem_sum (f := sizeM) (List.getElem_mem h9); simp only [sizeM] at *; (try simp only [atL_lt h9]); omega))) (a:=cb_impl_descRead) (k:=(jh hX (by simp [h3, h9]; rfl))))) ?_
      refine W_rseqK [5, 26, 27, 28, 46] (js hX 3 (by simp [h3, h9]; rfl) (jB (c:=(by apply ct_impl_world_namesOK_1 <;> first | assumption | exact Nat.le_trans hdp.1 hdl)) (a:=cb_impl_world_namesOK_1) (k:=(jt 2 (k:=(jm 5 41 [5, 26, 27, 28, 46] (p:=fun b12_6 => by (try simp at b12_6); exact (jh hX (by simp [-atD_lt, -atL_lt]; rfl))) (q:=fun b12_6 => by (try simp at b12_6); exact (js hX 3 (by simp [-atD_lt, -atL_lt, h3, h9]; rfl) (Runs.callB2 rfl (by simp) rfl (by simp [-atD_lt, -atL_lt]; rfl) (by apply ct_slices_ContainsFunc_string_string <;> first | assumption | omega | exact fun x hx => Nat.le_trans (hdp.2 x hx) hdl) cb_slices_ContainsFunc_string_string (by simp) (by simp [-atD_lt, -atL_lt]; rfl) (jh hX (by simp [-atD_lt, -atL_lt]; rfl))))) (k:=jf))))))) ?_
      refine jd (fun h12 => ?_) (fun h12 => ?_)
      · try simp at h12
        refine jq [4] ?_
        refine W_ret (je (by simp [h3, h9]; rfl) ?_)
        have h12b : descKI l c.methods[i].desc = false := by
          rw [Bool.eq_false_iff]
          intro e
          simp only [descKI, Bool.and_eq_true, List.all_eq_true] at e
          rcases h12 with h | ⟨x, hx, h⟩
          · rw [e.1] at h; cases h
          · rw [e.2 x hx] at h; cases h
        simp [clsKI, ← hI2, h12b]
      · try simp at h12
        have h12b : descKI l c.methods[i].desc = true := by
          simp only [descKI, Bool.and_eq_true, List.all_eq_true]
          exact h12
        rw [h12b, Bool.true_and] at hI2
        refine W_skip (W_reg (jh hX (by simp; (try (simp (disch := omega) only [wrap_i64]; (try simp))); rfl)) ?_)
        refine round_endT (i + 1) [5, 26, 27, 28] 3 (by simp [hX]) (by simp) (by simp [h3, h9]; try (simp (disch := omega) only [wrap_i64])) ?_ ?_
        · exact ⟨by omega, hI2⟩
        · omega
    · try simp at h9
      rw [List.drop_eq_nil_of_le h9] at hI2
      refine W_exit (jq [4] ?_)
      refine W_ret (je (by simp [h3, h9]; rfl) ?_)
      simp [clsKI, ← hI, ← hI2]
end Go.Proofs
namespace Go.Proofs
open Go Go.Ev


theorem cb_impl_world_check_3 : Callable Tryz.prog 149 := ⟨_, Tryz.func149, by kernel_rfl, by kernel_rfl⟩
theorem ct_impl_world_check_3 {l : List Cls} (hl : l.length ≤ 1099511627776) {c : Cls} {k : Int} (h : sizeC c ≤ 1099511627776) : Ct Tryz.prog 149 [.int .i64 k, eC c, .fp [wv l]] [] (.int .i64 (pI3 l c)) [] := by
  refine Ct_bodyS tok Tryz.func149 rfl 10 (by kernel_rfl) (by kernel_rfl) fun X hX => ?_
  refine jq [2, 4] ?_
  refine W_rseqK [5] (jt 2 (k:=(jc [] (c:=(by apply ct_impl_world_namesOK <;> first | assumption | omega | (simp at *; omega) | simp_all)) (a:=cb_impl_world_namesOK) (k:=(jc [] (c:=(by apply ct_impl_codeUnless <;> first | assumption | omega | (simp at *; omega) | simp_all)) (a:=cb_impl_codeUnless) (k:=jr)))))) ?_
  refine W_ret (je0 ?_)
  unfold pI3
  rfl
end Go.Proofs
namespace Go.Proofs
open Go Go.Ev


theorem cb_impl_world_super : Callable Tryz.prog 217 := ⟨_, Tryz.func217, by kernel_rfl, by kernel_rfl⟩
theorem ct_impl_world_super {l : List Cls} (hl : l.length ≤ 1099511627776) {n : Str} : Ct Tryz.prog 217 [wv l, .str n] [] (.str (superI l n)) [] := by
  refine Ct_bodyS tok Tryz.func217 rfl 28 (by kernel_rfl) (by kernel_rfl) fun X hX => ?_
  refine jq [0, 1] ?_
  refine W_rseqK [1, 5, 6] (jt 2 (k:=(jF (c:=(by apply ct_impl_world_class <;> first | assumption | omega | (simp at *; omega) | simp_all)) (a:=cb_impl_world_class) (k:=jr)))) ?_
  refine W_seq (W_block (jq [1, 5, 13] ?_))
  refine jd (fun h2 => ?_) (fun h2 => ?_)
  · try simp at h2
    refine jq [4] ?_
    refine W_ret (je0 ?_)
    simp only [superI, sObject, sError]
    (try simp_all) <;> grind
  · try simp at h2
    refine W_rseqK [1, 17] (jt 1 (k:=(jc [] (c:=(by apply ct_impl_isBuiltIn <;> first | assumption | omega | (simp at *; omega) | simp_all)) (a:=cb_impl_isBuiltIn) (k:=(jt 2 (k:=(jm 3 21 [1, 24] (p:=fun b4_4 => by (try simp at b4_4); exact (jh hX (by simp [-atD_lt, -atL_lt]; rfl))) (q:=fun b4_4 => by (try simp at b4_4); exact (jh hX (by simp [-atD_lt, -atL_lt]; rfl))) (k:=jr)))))))) ?_
    refine jd (fun h4 => ?_) (fun h4 => ?_)
    · try simp at h4
      refine jq [4] ?_
      refine W_ret (je0 ?_)
      simp only [superI, sObject, sError]
      (try simp_all) <;> grind
    · try simp at h4
      refine jq [25] ?_
      refine jd (fun h6 => ?_) (fun h6 => ?_)
      · try simp at h6
        refine jq [4] ?_
        refine W_ret (je0 ?_)
        simp only [superI, sObject, sError]
        (try simp_all) <;> grind
      · try simp at h6
        refine W_skip (jq [4] ?_)
        refine W_ret (je0 ?_)
        simp only [superI, sObject, sError]
        (try simp_all) <;> grind
end Go.Proofs
namespace Go.Proofs
open Go Go.Ev


theorem cb_impl_world_chain : Callable Tryz.prog 156 := ⟨_, Tryz.func156, by kernel_rfl, by kernel_rfl⟩
theorem ct_impl_world_chain {l : List Cls} (hl : l.length ≤ 1048576) {n : Str} : Ct Tryz.prog 156 [wv l, .str n] [] (.lst true 1 ((chain l n).map V.str)) [] := by
  refine Ct_bodyS tok Tryz.func156 rfl 24 (by kernel_rfl) (by kernel_rfl) fun X hX => ?_
  refine W_rseqK [0, 1] (jh hX (by simp [Go.Ev.seen]; rfl)) ?_
  refine W_rseqK [0, 1, 5] (jh hX (by simp [Go.Ev.seen]; rfl)) ?_
  refine W_seq (W_block (W_loopU (α := List Str × Str) [0, 1, 5] (fun a => [(1, .str a.2), (5, .arr 0 0 a.1.length)]) (fun a => [(0, some (1, a.1.map V.str))]) (fun a => a.1.length + cMu l a.1 ≤ 8 + l.length ∧ chn l a.1 a.2 = chain l n) (fun a => cMu l a.1) (([], n)) (fun a => by simp; rfl) (by simp) ?_ ?_))
  · exact ⟨by simpa using cMu_le l [], rfl⟩
  rintro ⟨o, s⟩ ⟨hn, hI⟩
  simp only at hn hI
  have w0 : o.length ≤ 1099511627776 := by omega
  have w1 : (o.length + 1) * 16 ≤ 140737488355328 := by omega
  have w2 : o.length ≤ 1099511627775 := by omega
  refine W_seq (W_rseqK [0, 1, 5, 15] (js hX 2 (by simp [Go.Ev.seen]; rfl) (Runs.call [] rfl (by simp) rfl (by simp [Go.Ev.seen]; rfl) (by simp; rfl) (by apply ct_impl_world_known <;> first | assumption | omega | (simp at *; omega) | simp_all) cb_impl_world_known (by simp) (by simp) (by simp [Go.Ev.seen]; rfl) (js hX 1 (by simp [Go.Ev.seen]; rfl) (jm 5 10 [0, 1, 5, 15] (p:=fun b2_4 => by (try simp at b2_4); exact (js hX 2 (by simp [-atD_lt, -atL_lt, Go.Ev.seen]; rfl) (Runs.callB rfl (by simp) rfl (by simp [-atD_lt, -atL_lt, Go.Ev.seen]; rfl) (by apply ct_slices_Contains_string_string <;> first | assumption | omega | (simp at *; omega) | simp_all) cb_slices_Contains_string_string (by simp) (by simp [-atD_lt, -atL_lt, Go.Ev.seen]; rfl) (jh hX (by simp [-atD_lt, -atL_lt, Go.Ev.seen]; rfl))))) (q:=fun b2_4 => by (try simp at b2_4); exact (jh hX (by simp [-atD_lt, -atL_lt, Go.Ev.seen]; rfl))) (k:=jf))))) ?_)
  refine jd (fun h2 => ?_) (fun h2 => ?_)
  · try simp at h2
    have h2b : out o s = false := by
      rw [Bool.eq_false_iff]; intro e
      exact h2.2 _ (out_iff.1 e) rfl
    have hlt := cMu_lt h2.1 h2b
    rw [chn_go h2.1 h2b] at hI
    refine W_skip (W_block (W_rseqK [0, 1, 5] (jh hX (by simp [w1, w2, Go.Ev.seen]; rfl)) ?_))
    refine W_reg (js hX 2 (by simp [Go.Ev.seen]; rfl) (Runs.call [] rfl (by simp) rfl (by simp [Go.Ev.seen]; rfl) (by simp; rfl) (by apply ct_impl_world_super <;> first | assumption | omega | (simp at *; omega) | simp_all) cb_impl_world_super (by simp) (by simp) (by simp [Go.Ev.seen]; rfl) (jh hX (by simp [Go.Ev.seen]; rfl)))) ?_
    refine round_endT ((o ++ [s], superI l s)) [0, 1, 5] 1 (by simp [hX]) (by simp) (by simp [w1, w2]; try (simp (disch := omega) only [wrap_i64])) ?_ ?_
    · exact ⟨by simp; omega, hI⟩
    · exact hlt
  · try simp at h2
    have h2b : ¬ (isKnown l s = true ∧ out o s = false) := fun e => by have h3 := h2 e.1; rw [out_iff.2 h3] at e; cases e.2
    rw [chn_stop h2b] at hI
    refine W_exit (W_rseqK [4] (jh hX (by simp [Go.Ev.seen]; rfl)) ?_)
    refine W_ret (W_retR (by simp [w1, w2, Go.Ev.seen]; rfl) ?_ rfl)
    rw [← hI]
    exact Wk.refl _
end Go.Proofs
namespace Go.Proofs
open Go Go.Ev


theorem cb_impl_world_cycles : Callable Tryz.prog 153 := ⟨_, Tryz.func153, by kernel_rfl, by kernel_rfl⟩
theorem ct_impl_world_cycles {l : List Cls} (hl : l.length ≤ 1048576) {n : Str} (hk : isKnown l n = true) : Ct Tryz.prog 153 [wv l, .str n] [] (.bool (cycI l n)) [] := by
  obtain ⟨ys, hy⟩ := chain_cons hk
  have hcl := chain_len l n
  have hc1 : 0 < (chain l n).length := by rw [hy]; simp
  have hw : ((chain l n).length : Int) - 1 = (((chain l n).length - 1 : Nat) : Int) := by omega
  have hc2 : (chain l n).length - 1 < (chain l n).length := by omega
  have hc3 : IntKind.i64.wrap ((((chain l n).length - 1 : Nat) : Int)) = (((chain l n).length - 1 : Nat) : Int) := wrap_i64 (by omega) (by omega)
  refine Ct_bodyS tok Tryz.func153 rfl 19 (by kernel_rfl) (by kernel_rfl) fun X hX => ?_
  refine W_rseqK [0, 1] (jh hX (by simp [hw, hc2, hc3]; rfl)) ?_
  refine W_rseqK [0, 1, 5] (js hX 2 (by simp [hw, hc2, hc3]; rfl) (Runs.callF rfl (by simp) rfl (by simp [hw, hc2, hc3]; rfl) (by apply ct_impl_world_chain <;> first | assumption | omega) cb_impl_world_chain (by simp [hw, hc2, hc3]; rfl) (jh hX (by simp [hw, hc2, hc3]; rfl)))) ?_
  refine W_rseqK [4] (js hX 7 (by simp [hw, hc2, hc3]; (try (simp (disch := omega) only [wrap_i64]; (try simp [hw, hc2, hc3]))); rfl) (Runs.call [] rfl (by simp) rfl (by simp [hw, hc2, hc3]; rfl) (by simp; rfl) (by apply ct_impl_world_super <;> first | assumption | omega) cb_impl_world_super (by simp) (by simp) (by simp [hw, hc2, hc3]; rfl) (jh hX (by simp [hw, hc2, hc3]; rfl)))) ?_
  refine W_ret (je (by simp [hw, hc2, hc3]; rfl) ?_)
  simp [cycI, hc2]
end Go.Proofs
namespace Go.Proofs
open Go Go.Ev


theorem cb_impl_world_check_4 : Callable Tryz.prog 152 := ⟨_, Tryz.func152, by kernel_rfl, by kernel_rfl⟩
theorem ct_impl_world_check_4 {l : List Cls} (hl : l.length ≤ 1048576) {c : Cls} {k : Int} (hk : isKnown l c.name = true) : Ct Tryz.prog 152 [.int .i64 k, eC c, .fp [wv l]] [] (.int .i64 (pI4 l c)) [] := by
  refine Ct_bodyS tok Tryz.func152 rfl 12 (by kernel_rfl) (by kernel_rfl) fun X hX => ?_
  refine jq [2, 4] ?_
  refine W_rseqK [5] (jt 3 (k:=(jc [] (c:=(by apply ct_impl_world_cycles <;> first | assumption | omega | (simp at *; omega) | simp_all)) (a:=cb_impl_world_cycles) (k:=(jt 1 (k:=(jc [] (c:=(by apply ct_impl_codeUnless <;> first | assumption | omega | (simp at *; omega) | simp_all)) (a:=cb_impl_codeUnless) (k:=jr)))))))) ?_
  refine W_ret (je0 ?_)
  simp only [pI4]
  cases cycI l c.name <;> simp
end Go.Proofs
namespace Go.Proofs
open Go Go.Ev


theorem cb_impl_world_methodUp : Callable Tryz.prog 218 := ⟨_, Tryz.func218, by kernel_rfl, by kernel_rfl⟩
theorem ct_impl_world_methodUp {l : List Cls} (hl : l.length ≤ 1048576) (hs : sizeL l ≤ 1099511627776) {c n d : Str} : Ct Tryz.prog 218 [wv l, .str c, .str n, .str d] [] (.tup [eM ((mUp l n d (chain l c)).getD zM), .bool (mUp l n d (chain l c)).isSome]) [] := by
  have hcl := chain_len l c
  refine Ct_bodyS tok Tryz.func218 rfl 42 (by kernel_rfl) (by kernel_rfl) fun X hX => ?_
  refine W_rseqK [0, 1, 2, 3, 8] (jh hX (by simp [fix_mth]; rfl)) ?_
  refine W_seq (W_rseqK [0, 2, 3, 8, 17, 18, 19] (js hX 2 (by simp [fix_mth]; rfl) (Runs.callF rfl (by simp) rfl (by simp [fix_mth]; rfl) (by apply ct_impl_world_chain <;> first | assumption | omega | exact clsOf_sizes hs) cb_impl_world_chain (by simp [fix_mth]; rfl) (jh hX (by simp [fix_mth]; rfl)))) ?_)
  refine W_block (W_loopU (α := Nat) [0, 2, 3, 8, 17, 18, 19] (fun i => [(19, .int .i64 i)]) (fun i => []) (fun i => i ≤ (chain l c).length ∧ mUp l n d ((chain l c).drop i) = mUp l n d (chain l c)) (fun i => (chain l c).length - i) (0) (fun i => by simp; rfl) (by simp) ?_ ?_)
  · simp
  rintro i ⟨hi, hI⟩
  refine W_rseqK [0, 2, 3, 8, 17, 18, 19, 20] (jh hX (by simp [fix_mth]; rfl)) ?_
  refine W_seq (jd (fun h2 => ?_) (fun h2 => ?_))
  · try simp at h2
    rw [List.drop_eq_getElem_cons h2] at hI
    simp only [mUp] at hI
    refine W_skip (W_seq (W_block (W_rseqK [0, 2, 3, 8, 11, 17, 18, 19] (jh hX (by simp [h2, fix_mth]; rfl)) ?_)))
    refine W_rseqK [0, 2, 3, 8, 12, 17, 18, 19] (js hX 2 (by simp [fix_mth]; rfl) (Runs.callF rfl (by simp) rfl (by simp [fix_mth]; rfl) (by apply ct_impl_world_class <;> first | assumption | omega | exact clsOf_sizes hs) cb_impl_world_class (by simp [fix_mth]; rfl) (jh hX (by simp [h2, fix_mth]; rfl)))) ?_
    refine W_rseqK [0, 2, 3, 8, 12, 14, 17, 18, 19] (js hX 3 (by simp [h2, fix_mth]; rfl) (Runs.call [] rfl (by simp) rfl (by simp [fix_mth]; rfl) (by simp; rfl) (by apply ct_impl_Class_methodAt <;> first | assumption | omega | exact clsOf_sizes hs) cb_impl_Class_methodAt (by simp) (by simp) (by simp [fix_mth]; rfl) (jh hX (by simp [fix_mth]; rfl)))) ?_
    refine W_rseqK [0, 2, 3, 8, 12, 14, 17, 18, 19, 34] (jh hX (by simp [fix_mth]; rfl)) ?_
    refine jd (fun h6 => ?_) (fun h6 => ?_)
    · try simp at h6
      rw [if_pos h6] at hI
      rw [← hI]
      obtain ⟨j, hj, hjm⟩ := mthFrom_nat h6
      refine W_rseqK [8, 9] (jh hX (by simp [h2, h6, hj, hjm, fix_mth]; rfl)) ?_
      refine W_ret (W_retR (by simp [h2, h6, hj, hjm, fix_mth]; rfl) ?_ rfl)
      simp only [hjm]
      simp [hj]
      exact Wk.refl _
    · try simp at h6
      rw [if_neg (by omega)] at hI
      refine W_skip (W_reg (jh hX (by simp [fix_mth]; (try (simp (disch := omega) only [wrap_i64]; (try simp [fix_mth]))); rfl)) ?_)
      refine round_endT (i + 1) [0, 2, 3, 8, 17, 18, 19] 1 (by simp [hX]) (by simp) (by simp [h2, h6]; try (simp (disch := omega) only [wrap_i64])) ?_ ?_
      · exact ⟨by omega, hI⟩
      · omega
  · try simp at h2
    rw [List.drop_eq_nil_of_le h2] at hI
    simp only [mUp] at hI
    rw [← hI]
    refine W_exit (W_rseqK [8, 9] (jh hX (by simp [h2, fix_mth]; rfl)) ?_)
    refine W_ret (W_retR (by simp [h2, fix_mth]; rfl) ?_ rfl)
    exact Wk.tup (.cons wk_zM (.cons (Wk.refl _) .nil))
end Go.Proofs
namespace Go.Proofs
open Go Go.Ev


theorem cb_impl_world_accessOK : Callable Tryz.prog 155 := ⟨_, Tryz.func155, by kernel_rfl, by kernel_rfl⟩
theorem ct_impl_world_accessOK {l : List Cls} (hl : l.length ≤ 1048576) (hs : sizeL l ≤ 1099511627776) {c : Cls} (hc : sizeC c ≤ 1099511627776) (hk : isKnown l c.name = true) : Ct Tryz.prog 155 [wv l, eC c] [] (.bool (accI l c)) [] := by
  have hcl := chain_len l c.name
  obtain ⟨us, hy⟩ := chain_cons hk
  have hul : us.length ≤ 8 + l.length := by rw [hy] at hcl; simp at hcl; omega
  have hcm : c.methods.length ≤ 1099511627776 := by simp only [sizeC] at hc; omega
  have hac : accI l c = us.all (fun u => (clsOf l u).methods.all (okI l c)) := by simp only [accI, hy]; rfl
  rw [hac]
  refine Ct_bodyS tok Tryz.func155 rfl 91 (by kernel_rfl) (by kernel_rfl) fun X hX => ?_
  refine W_rseqK [0, 3] (jh hX (by simp [hy, fix_mth]; rfl)) ?_
  refine W_rseqK [0, 3, 5] (js hX 3 (by simp [hy, fix_mth]; rfl) (Runs.callF rfl (by simp) rfl (by simp [hy, fix_mth]; rfl) (by apply ct_impl_world_chain <;> first | assumption | omega | exact clsOf_sizes hs) cb_impl_world_chain (by simp [hy, fix_mth]; rfl) (jh hX (by simp [hy, fix_mth]; rfl)))) ?_
  refine W_seq (W_rseqK [0, 3, 20, 21, 22] (jh hX (by simp [hy, fix_mth]; rfl)) ?_)
  refine W_block (W_loopU (α := Nat) [0, 3, 20, 21, 22] (fun i => [(22, .int .i64 i)]) (fun i => []) (fun i => i ≤ us.length ∧ (us.drop i).all (fun u => (clsOf l u).methods.all (okI l c)) = us.all (fun u => (clsOf l u).methods.all (okI l c))) (fun i => us.length - i) (0) (fun i => by simp; rfl) (by simp) ?_ ?_)
  · simp
  rintro i ⟨hi, hI⟩
  refine W_rseqK [0, 3, 20, 21, 22, 23] (jh hX (by simp [hy, fix_mth]; rfl)) ?_
  refine W_seq (jd (fun h3 => ?_) (fun h3 => ?_))
  · try simp at h3
    rw [all_drop h3] at hI
    have hms : (clsOf l us[i]).methods.length ≤ 1099511627776 := clsOf_sizes hs
    refine W_skip (W_seq (W_block (W_rseqK [0, 3, 7, 20, 21, 22] (jh hX (by simp [h3, hy, fix_mth]; rfl)) ?_)))
    refine W_rseqK [0, 3, 8, 20, 21, 22] (js hX 2 (by simp [hy, fix_mth]; rfl) (Runs.callF rfl (by simp) rfl (by simp [hy, fix_mth]; rfl) (by apply ct_impl_world_class <;> first | assumption | omega | exact clsOf_sizes hs) cb_impl_world_class (by simp [hy, fix_mth]; rfl) (jh hX (by simp [h3, hy, fix_mth]; rfl)))) ?_
    refine W_rseqK [0, 3, 20, 21, 22, 33, 34, 35] (jh hX (by simp [h3, hy, fix_mth]; rfl)) ?_
    refine W_block (W_loopU (α := Nat) [0, 3, 20, 21, 22, 33, 34, 35] (fun j => [(35, .int .i64 j)]) (fun j => []) (fun j => j ≤ (clsOf l us[i]).methods.length ∧ ((clsOf l us[i]).methods.drop j).all (okI l c) = (clsOf l us[i]).methods.all (okI l c)) (fun j => (clsOf l us[i]).methods.length - j) (0) (fun j => by simp; rfl) (by simp) ?_ ?_)
    · simp
    rintro j ⟨hj, hJ⟩
    refine W_rseqK [0, 3, 20, 21, 22, 33, 34, 35, 36] (jh hX (by simp [hy, fix_mth]; rfl)) ?_
    refine W_seq (jd (fun h7 => ?_) (fun h7 => ?_))
    · try simp at h7
      rw [all_drop h7] at hJ
      refine W_skip (W_seq (W_block (W_rseqK [0, 3, 11, 20, 21, 22, 33, 34, 35] (jh hX (by simp [h3, h7, hy, fix_mth]; rfl)) ?_)))
      refine W_seq (W_rseqK [0, 3, 11, 12, 20, 21, 22, 33, 34, 35] (js hX 5 (by simp [h3, h7, hy, fix_mth]; rfl) (Runs.call [] rfl (by simp) rfl (by simp [hy, fix_mth]; rfl) (by simp; rfl) (by apply ct_impl_Class_methodAt <;> first | assumption | omega | exact clsOf_sizes hs) cb_impl_Class_methodAt (by simp) (by simp) (by simp [hy, fix_mth]; rfl) (jh hX (by simp [hy, fix_mth]; rfl)))) ?_)
      refine jD [0, 3, 11, 20, 21, 22, 33, 34, 35, 66] (jS 4 (by simp [h3, h7, hy, fix_mth]; rfl) (jM 3 48 [0, 3, 11, 12, 20, 21, 22, 33, 34, 35, 51] (p:=fun b10_4 => by (try simp at b10_4); exact (jQ (by simp [-atD_lt, -atL_lt, hy, fix_mth]; rfl))) (q:=fun b10_4 => by (try simp at b10_4); exact (jQ (by simp [-atD_lt, -atL_lt, hy, fix_mth]; rfl))) (k:=(jS 1 (by simp [hy, fix_mth]; rfl) (jM 14 52 [0, 3, 11, 20, 21, 22, 33, 34, 35, 66] (p:=fun b10_8 => by (try simp at b10_8); (have hk0 := b10_8.2; have hk1 := mthFrom_lt hk0); exact (jS 3 (by simp [-atD_lt, -atL_lt, h3, h7, b10_8, hk0, hk1, hy, fix_mth]; rfl) (jM 10 55 [0, 3, 11, 20, 21, 22, 33, 34, 35, 52, 65] (p:=fun b10_11 => by (try simp at b10_11); exact (jQ (by simp [-atD_lt, -atL_lt, hy, fix_mth]; rfl))) (q:=fun b10_11 => by (try simp at b10_11); exact (jQ (by simp [-atD_lt, -atL_lt, h3, h7, b10_8, hk0, hk1, hy, fix_mth]; rfl))) (k:=(jQ (by simp [-atD_lt, -atL_lt, hy, fix_mth]; rfl)))))) (q:=fun b10_8 => by (try simp at b10_8); exact (jQ (by simp [-atD_lt, -atL_lt, hy, fix_mth]; rfl))) (k:=(RunsQ.fin (by (try simp); rfl)))))))) ?_
      refine jd (fun h10 => ?_) (fun h10 => ?_)
      · try simp at h10
        refine W_rseqK [4] (jh hX (by simp [hy, fix_mth]; rfl)) ?_
        refine W_ret (je (by simp [h3, h7, h10, hy, fix_mth]; rfl) ?_)
        have ho : okI l c (clsOf l us[i]).methods[j] = false := by unfold okI init; grind
        rw [← hI, ← hJ, ho]; simp
      · try simp at h10
        refine W_skip (W_rseqK [0, 3, 11, 13, 20, 21, 22, 33, 34, 35] (js hX 7 (by simp [h3, h7, h10, hy, fix_mth]; rfl) (Runs.callF rfl (by simp) rfl (by simp [hy, fix_mth]; rfl) (by apply ct_impl_world_methodUp <;> first | assumption | omega | exact clsOf_sizes hs) cb_impl_world_methodUp (by simp [hy, fix_mth]; rfl) (jh hX (by simp [h3, h7, h10, hy, fix_mth]; rfl)))) ?_)
        refine W_rseqK [0, 3, 20, 21, 22, 33, 34, 35, 88] (js hX 3 (by simp [h3, h7, h10, hy, fix_mth]; rfl) (jm 4 80 [0, 3, 13, 20, 21, 22, 33, 34, 35, 84] (p:=fun b13_3 => by (try simp at b13_3); exact (jh hX (by simp [-atD_lt, -atL_lt, h3, h7, h10, hy, fix_mth]; rfl))) (q:=fun b13_3 => by (try simp at b13_3); exact (jh hX (by simp [-atD_lt, -atL_lt, hy, fix_mth]; rfl))) (k:=(js hX 1 (by simp [hy, fix_mth]; rfl) (jm 3 85 [0, 3, 20, 21, 22, 33, 34, 35, 88] (p:=fun b13_8 => by (try simp at b13_8); exact (jh hX (by simp [-atD_lt, -atL_lt, h3, h7, h10, hy, fix_mth]; rfl))) (q:=fun b13_8 => by (try simp at b13_8); exact (jh hX (by simp [-atD_lt, -atL_lt, hy, fix_mth]; rfl))) (k:=jf)))))) ?_
        refine jd (fun h13 => ?_) (fun h13 => ?_)
        · try simp at h13
          refine W_rseqK [4] (jh hX (by simp [hy, fix_mth]; rfl)) ?_
          refine W_ret (je (by simp [h3, h7, h10, hy, fix_mth]; rfl) ?_)
          have ho : okI l c (clsOf l us[i]).methods[j] = false := by unfold okI init; simp only [hy]; grind
          rw [← hI, ← hJ, ho]; simp
        · try simp at h13
          have ho : okI l c (clsOf l us[i]).methods[j] = true := okI_true h10 (by rw [hy]; exact h13)
          rw [ho, Bool.true_and] at hJ
          refine W_skip (W_reg (jh hX (by simp [hy, fix_mth]; (try (simp (disch := omega) only [wrap_i64]; (try simp [hy, fix_mth]))); rfl)) ?_)
          refine round_endT (j + 1) [0, 3, 20, 21, 22, 33, 34, 35] 2 (by simp [hX]) (by simp) (by simp [h3, h7, h10]; try (simp (disch := omega) only [wrap_i64])) ?_ ?_
          · exact ⟨by omega, hJ⟩
          · omega
    · try simp at h7
      rw [List.drop_eq_nil_of_le h7] at hJ
      rw [← hJ, List.all_nil, Bool.true_and] at hI
      refine W_exit (W_reg (jh hX (by simp [hy, fix_mth]; (try (simp (disch := omega) only [wrap_i64]; (try simp [hy, fix_mth]))); rfl)) ?_)
      refine round_endT (i + 1) [0, 3, 20, 21, 22] 1 (by simp [hX]) (by simp) (by simp [h3, h7]; try (simp (disch := omega) only [wrap_i64])) ?_ ?_
      · exact ⟨by omega, hI⟩
      · omega
  · try simp at h3
    rw [List.drop_eq_nil_of_le h3] at hI
    refine W_exit (W_rseqK [4] (jh hX (by simp [hy, fix_mth]; rfl)) ?_)
    refine W_ret (je (by simp [h3, hy, fix_mth]; rfl) ?_)
    rw [← hI]; rfl
end Go.Proofs
namespace Go.Proofs
open Go Go.Ev


theorem cb_impl_world_check_5 : Callable Tryz.prog 154 := ⟨_, Tryz.func154, by kernel_rfl, by kernel_rfl⟩
theorem ct_impl_world_check_5 {l : List Cls} (hl : l.length ≤ 1048576) (hs : sizeL l ≤ 1099511627776) {c : Cls} {k : Int} (hc : sizeC c ≤ 1099511627776) (hk : isKnown l c.name = true) : Ct Tryz.prog 154 [.int .i64 k, eC c, .fp [wv l]] [] (.int .i64 (pI5 l c)) [] := by
  refine Ct_bodyS tok Tryz.func154 rfl 10 (by kernel_rfl) (by kernel_rfl) fun X hX => ?_
  refine jq [2, 4] ?_
  refine W_rseqK [5] (jt 2 (k:=(jc [] (c:=(by apply ct_impl_world_accessOK <;> first | assumption | omega | (simp at *; omega) | simp_all)) (a:=cb_impl_world_accessOK) (k:=(jc [] (c:=(by apply ct_impl_codeUnless <;> first | assumption | omega | (simp at *; omega) | simp_all)) (a:=cb_impl_codeUnless) (k:=jr)))))) ?_
  refine W_ret (je0 ?_)
  unfold pI5
  rfl
end Go.Proofs
namespace Go.Proofs
open Go Go.Ev


theorem cb_impl_world_check : Callable Tryz.prog 88 := ⟨_, Tryz.func88, by kernel_rfl, by kernel_rfl⟩
theorem ct_impl_world_check {l : List Cls} (hl : l.length ≤ 1048576) (hs : sizeL l ≤ 1099511627776) : Ct Tryz.prog 88 [wv l] [] (.agg [.int .i64 (chkI l).1, .int .i64 (chkI l).2]) [] := by
  refine Ct_bodyS tok Tryz.func88 rfl 50 (by kernel_rfl) (by kernel_rfl) fun X hX => ?_
  refine jq [1, 2] ?_
  refine W_seq (jq [1, 2, 14] ?_)
  refine jd (fun h1 => ?_) (fun h1 => ?_)
  · try simp at h1
    refine W_rseqK [2] (jh hX (by simp [h1]; rfl)) ?_
    refine W_ret (je (by simp [h1]; rfl) ?_)
    simp [chkI, h1]
  · try simp at h1
    refine W_skip (jq [1, 2, 3] ?_)
    refine W_seq (W_rseqK [1, 2, 22, 23, 24] (jh hX (by simp [h1]; rfl)) ?_)
    refine W_block (W_loopU (α := Nat) [1, 2, 22, 23, 24] (fun p => [(24, .int .i64 p)]) (fun p => []) (fun p => p ≤ 5 ∧ chkFrom l p (5 - p) = chkFrom l 0 5) (fun p => 5 - p) (0) (fun p => by simp; rfl) (by simp) ?_ ?_)
    · simp
    rintro p ⟨hp, hI⟩
    obtain ⟨q, hq⟩ : ∃ q, q = p + 1 := ⟨_, rfl⟩
    obtain rfl | rfl | rfl | rfl | rfl | rfl : p = 0 ∨ p = 1 ∨ p = 2 ∨ p = 3 ∨ p = 4 ∨ p = 5 := by omega
    all_goals
      refine jq [1, 2, 22, 23, 24, 25] ?_
      refine W_seq (jd (fun h5 => ?_) (fun h5 => ?_))
      · try simp at h5
        all_goals
          refine W_skip (W_seq (W_block (W_rseqK [1, 2, 5, 22, 23, 24] (jh hX (by simp [h1, h5]; rfl)) ?_)))
          refine W_rseqK [1, 2, 5, 22, 23, 24, 31, 32, 33] (jh hX (by simp [h1, h5]; rfl)) ?_
          refine W_block (W_loopU (α := Nat) [1, 2, 5, 22, 23, 24, 31, 32, 33] (fun k => [(33, .int .i64 k)]) (fun k => []) (fun k => k ≤ l.length ∧ firstBad (codeI l (q - 1)) (l.length - k) k = firstBad (codeI l (q - 1)) l.length 0) (fun k => l.length - k) (0) (fun k => by simp; rfl) (by simp) ?_ ?_)
          · simp
          rintro k ⟨hk, hK⟩
          simp only [hq, Nat.reduceAdd, Nat.reduceSub, Nat.zero_add, Nat.add_sub_cancel] at hK
          refine jq [1, 2, 5, 22, 23, 24, 31, 32, 33, 34] ?_
          refine W_seq (jd (fun h8 => ?_) (fun h8 => ?_))
          · try simp at h8
            rw [fb_step h8] at hK
            refine W_skip (W_seq (W_block (W_rseqK [1, 2, 5, 6, 7, 22, 23, 24, 31, 32, 33] (jh hX (by simp [h1, h5, h8]; rfl)) ?_)))
            refine W_rseqK [1, 2, 5, 6, 8, 22, 23, 24, 31, 32, 33] (js hX 3 (by simp [h1, h5, h8]; rfl) (jB (c:=(by first | (apply ct_impl_world_check_1 <;> (first | assumption | omega | exact Nat.le_trans (sizeL_at h8) hs | exact known_own h8)) | (apply ct_impl_world_check_2 <;> (first | assumption | omega | exact Nat.le_trans (sizeL_at h8) hs | exact known_own h8)) | (apply ct_impl_world_check_3 <;> (first | assumption | omega | exact Nat.le_trans (sizeL_at h8) hs | exact known_own h8)) | (apply ct_impl_world_check_4 <;> (first | assumption | omega | exact Nat.le_trans (sizeL_at h8) hs | exact known_own h8)) | (apply ct_impl_world_check_5 <;> (first | assumption | omega | exact Nat.le_trans (sizeL_at h8) hs | exact known_own h8)))) (a:=(by first | exact cb_impl_world_check_1 | exact cb_impl_world_check_2 | exact cb_impl_world_check_3 | exact cb_impl_world_check_4 | exact cb_impl_world_check_5)) (k:=jr))) ?_
            refine jq [1, 2, 5, 6, 8, 22, 23, 24, 31, 32, 33, 43] ?_
            refine jd (fun h11 => ?_) (fun h11 => ?_)
            · try simp at h11
              rw [if_neg (by simp only [codeI, atL_lt h8]; exact h11)] at hK
              refine W_rseqK [2] (jh hX (by simp [h1, h5, h8]; rfl)) ?_
              refine W_ret (je (by simp [h1, h5, h8]; rfl) ?_)
              rw [chkI, if_neg (by omega), ← hI, chk_hit hK.symm]
              simp [codeI, h8]
            · try simp at h11
              rw [if_pos (by simp only [codeI, atL_lt h8]; exact h11)] at hK
              refine W_skip (W_reg (jh hX (by simp; (try (simp (disch := omega) only [wrap_i64]; (try simp))); rfl)) ?_)
              refine round_endT (k + 1) [1, 2, 5, 22, 23, 24, 31, 32, 33] 3 (by simp [hX]) (by simp) (by simp [h1, h5, h8]; try (simp (disch := omega) only [wrap_i64])) ?_ ?_
              · exact ⟨by omega, by simp only [hq, Nat.reduceAdd, Nat.reduceSub, Nat.zero_add, Nat.add_sub_cancel]; exact hK⟩
              · omega
          · try simp at h8
            rw [show l.length - k = 0 from by omega] at hK
            simp only [firstBad] at hK
            refine W_exit (W_reg (jh hX (by simp; (try (simp (disch := omega) only [wrap_i64]; (try simp))); rfl)) ?_)
            refine round_endT (q) [1, 2, 22, 23, 24] 3 (by simp [hX]) (by simp) (by simp [hq]; try (simp (disch := omega) only [wrap_i64])) ?_ ?_
            · exact ⟨by omega, by rw [hq]; exact (chk_next hK.symm).symm.trans hI⟩
            · omega
      · try simp at h5
        all_goals
          refine W_exit (W_rseqK [2] (jh hX (by simp [h1, h5]; rfl)) ?_)
          refine W_ret (je (by simp [h1, h5]; rfl) ?_)
          rw [chkI, if_neg (by omega), ← hI]
          rfl
end Go.Proofs
namespace Go.Proofs
open Go Go.Ev


theorem cb_impl_rightWorld : Callable Tryz.prog 39 := ⟨_, Tryz.func39, by kernel_rfl, by kernel_rfl⟩
theorem ct_impl_rightWorld {l : List Cls} (hl : l.length ≤ 1048576) (hs : sizeL l ≤ 1099511627776) : Ct Tryz.prog 39 [.lst false 6 (l.map eC)] [] (.tup [wv l, .bool (rightW l)]) [] := by
  refine Ct_bodyS tok Tryz.func39 rfl 17 (by kernel_rfl) (by kernel_rfl) fun X hX => ?_
  refine jq [0] ?_
  refine W_rseqK [0, 4] (jt 1 (k:=(jF (c:=(by apply ct_impl_worldOf <;> first | assumption | omega | (simp at *; omega) | simp_all)) (a:=cb_impl_worldOf) (k:=jr)))) ?_
  refine W_rseqK [2, 3] (jt 5 (k:=(jm 5 11 [7, 16] (p:=fun b2_5 => by (try simp at b2_5); exact (js hX 1 (by simp [-atD_lt, -atL_lt]; rfl) (Runs.call [] rfl (by simp) rfl (by simp [-atD_lt, -atL_lt]; rfl) (by simp; rfl) (by apply ct_impl_world_check <;> first | assumption | omega | (simp at *; omega) | simp_all) cb_impl_world_check (by simp) (by simp) (by simp [-atD_lt, -atL_lt]; rfl) (jh hX (by simp [-atD_lt, -atL_lt]; rfl))))) (q:=fun b2_5 => by (try simp at b2_5); exact (jh hX (by simp [-atD_lt, -atL_lt]; rfl))) (k:=jr)))) ?_
  refine W_ret (je0 ?_)
  rw [← rightI_eq]
  simp
end Go.Proofs
namespace Go.Proofs
open Go Go.Ev


theorem cb_impl_world_typeKnown : Callable Tryz.prog 40 := ⟨_, Tryz.func40, by kernel_rfl, by kernel_rfl⟩
theorem ct_impl_world_typeKnown {l : List Cls} (hl : l.length ≤ 1099511627776) {t : Typ} : Ct Tryz.prog 40 [wv l, eT t] [] (.bool (knownT l t)) [] := by
  refine Ct_bodyS tok Tryz.func40 rfl 43 (by kernel_rfl) (by kernel_rfl) fun X hX => ?_
  refine jq [0, 3] ?_
  refine W_seq (jq [0, 3, 6] ?_)
  refine W_block (W_seq (jq [0, 3, 6, 7] ?_))
  refine' W_condS3 [0, 3, 6, 7] (by simp; rfl) (by rfl) (fun h2 => ?a1_1) (fun h2 => ?a0_1) ?ak_1
  case a1_1 =>
    try simp at h2
    refine W_skip ?_
    exact ⟨rfl, Eq.trans (by (try simp); rfl) (by rfl)⟩
  case a0_1 =>
    try simp at h2
    refine W_reg jr ?_
    exact ⟨rfl, Eq.trans (by (try simp); rfl) (by rfl)⟩
  case ak_1 =>
    refine W_le (Le.of_eq (by simp; rfl)) ?_
    refine jd (fun h2 => ?_) (fun h2 => ?_)
    · try simp at h2
      refine W_rseqK [4] (jt 3 (k:=(jc [] (c:=(by apply ct_impl_world_known <;> first | assumption | omega | (simp at *; omega) | simp_all)) (a:=cb_impl_world_known) (k:=(jt 1 (k:=(jm 4 14 [18] (p:=fun b4_5 => by (try simp at b4_5); exact (jh hX (by simp [-atD_lt, -atL_lt]; rfl))) (q:=fun b4_5 => by (try simp at b4_5); exact (jh hX (by simp [-atD_lt, -atL_lt]; rfl))) (k:=jr)))))))) ?_
      refine W_ret (je0 ?_)
      simp only [knownT]
      (try simp_all) <;> grind
    · try simp at h2
      refine jq [0, 3, 19] ?_
      refine jd (fun h5 => ?_) (fun h5 => ?_)
      · try simp at h5
        refine W_rseqK [4] (jt 3 (k:=(jc [] (c:=(by apply ct_impl_world_known <;> first | assumption | omega | (simp at *; omega) | simp_all)) (a:=cb_impl_world_known) (k:=(jt 1 (k:=(jm 4 25 [29] (p:=fun b6_5 => by (try simp at b6_5); exact (js hX 2 (by simp [-atD_lt, -atL_lt]; rfl) (Runs.call [] rfl (by simp) rfl (by simp [-atD_lt, -atL_lt]; rfl) (by simp; rfl) (by apply ct_impl_within <;> first | assumption | omega | (simp at *; omega) | simp_all) cb_impl_within (by simp) (by simp) (by simp [-atD_lt, -atL_lt]; rfl) (jh hX (by simp [-atD_lt, -atL_lt]; rfl))))) (q:=fun b6_5 => by (try simp at b6_5); exact (jh hX (by simp [-atD_lt, -atL_lt]; rfl))) (k:=jr)))))))) ?_
        refine W_ret (je0 ?_)
        simp only [knownT]
        (try simp_all) <;> grind
      · try simp at h5
        refine W_skip (W_rseqK [4] (jt 2 (k:=(jc [] (c:=(by apply ct_impl_within <;> first | assumption | omega | (simp at *; omega) | simp_all)) (a:=cb_impl_within) (k:=(jt 1 (k:=(jm 4 33 [3, 37] (p:=fun b7_4 => by (try simp at b7_4); exact (jh hX (by simp [-atD_lt, -atL_lt]; rfl))) (q:=fun b7_4 => by (try simp at b7_4); exact (jh hX (by simp [-atD_lt, -atL_lt]; rfl))) (k:=(jt 1 (k:=(jm 4 38 [42] (p:=fun b7_9 => by (try simp at b7_9); exact (jh hX (by simp [-atD_lt, -atL_lt]; rfl))) (q:=fun b7_9 => by (try simp at b7_9); exact (jh hX (by simp [-atD_lt, -atL_lt]; rfl))) (k:=jr)))))))))))) ?_)
        refine W_ret (je0 ?_)
        simp only [knownT]
        (try simp_all) <;> grind
end Go.Proofs
namespace Go.Proofs
open Go Go.Ev


theorem cb_impl_Type_isObject : Callable Tryz.prog 89 := ⟨_, Tryz.func89, by kernel_rfl, by kernel_rfl⟩
theorem ct_impl_Type_isObject {t : Typ} : Ct Tryz.prog 89 [eT t] [] (.bool (isObj t)) [] := by
  refine Ct_bodyS tok Tryz.func89 rfl 6 (by kernel_rfl) (by kernel_rfl) fun X hX => ?_
  refine jq [1] ?_
  refine W_rseqK [2] (jt 2 (k:=(jc [] (c:=(by apply ct_impl_within <;> first | assumption | omega | (simp at *; omega) | simp_all)) (a:=cb_impl_within) (k:=jr)))) ?_
  refine W_ret (je0 ?_)
  simp [isObj]
end Go.Proofs
namespace Go.Proofs
open Go Go.Ev


theorem cb_impl_world_isSub : Callable Tryz.prog 95 := ⟨_, Tryz.func95, by kernel_rfl, by kernel_rfl⟩
theorem ct_impl_world_isSub {l : List Cls} {a b : Str} (hl : l.length ≤ 1048576) : Ct Tryz.prog 95 [wv l, .str a, .str b] [] (.bool (isKnown l b && out (chain l a) b)) [] := by
  have hcl := chain_len l a
  refine Ct_bodyS tok Tryz.func95 rfl 17 (by kernel_rfl) (by kernel_rfl) fun X hX => ?_
  refine jq [0, 1, 2] ?_
  refine W_rseqK [6] (jt 2 (k:=(jc [] (c:=(by apply ct_impl_world_known <;> first | assumption | omega | (simp at *; omega) | simp_all)) (a:=cb_impl_world_known) (k:=(jt 1 (k:=(jm 6 10 [16] (p:=fun b1_4 => by (try simp at b1_4); exact (js hX 2 (by simp [-atD_lt, -atL_lt]; rfl) (Runs.callF rfl (by simp) rfl (by simp [-atD_lt, -atL_lt]; rfl) (by apply ct_impl_world_chain <;> first | assumption | omega | (simp at *; omega) | simp_all) cb_impl_world_chain (by simp [-atD_lt, -atL_lt]; rfl) (js hX 1 (by simp [-atD_lt, -atL_lt]; rfl) (Runs.callB rfl (by simp) rfl (by simp [-atD_lt, -atL_lt]; rfl) (by apply ct_slices_Contains_string_string <;> first | assumption | omega | (simp at *; omega) | simp_all) cb_slices_Contains_string_string (by simp) (by simp [-atD_lt, -atL_lt]; rfl) (jh hX (by simp [-atD_lt, -atL_lt]; rfl))))))) (q:=fun b1_4 => by (try simp at b1_4); exact (jh hX (by simp [-atD_lt, -atL_lt]; rfl))) (k:=jr)))))))) ?_
  refine W_ret (je0 ?_)
  simp [out]
end Go.Proofs
namespace Go.Proofs
open Go Go.Ev


theorem cb_impl_world_common : Callable Tryz.prog 90 := ⟨_, Tryz.func90, by kernel_rfl, by kernel_rfl⟩
theorem ct_impl_world_common {l : List Cls} (hl : l.length ≤ 1048576) {a b : Str} : Ct Tryz.prog 90 [wv l, .str a, .str b] [] (.str (comI l a b)) [] := by
  have hcl := chain_len l a
  refine Ct_bodyS tok Tryz.func90 rfl 23 (by kernel_rfl) (by kernel_rfl) fun X hX => ?_
  refine jq [0, 1, 2] ?_
  refine W_seq (W_rseqK [0, 2, 11, 12, 13] (jt 2 (k:=(jF (c:=(by apply ct_impl_world_chain <;> first | assumption | omega | (simp at *; omega) | simp_all)) (a:=cb_impl_world_chain) (k:=jr)))) ?_)
  refine W_block (W_loopU (α := Nat) [0, 2, 11, 12, 13] (fun i => [(13, .int .i64 i)]) (fun i => []) (fun i => i ≤ (chain l a).length ∧ ((chain l a).drop i).find? (fun x => isKnown l x && out (chain l b) x) = (chain l a).find? (fun x => isKnown l x && out (chain l b) x)) (fun i => (chain l a).length - i) (0) (fun i => by simp; rfl) (by simp) ?_ ?_)
  · simp
  rintro i ⟨hi, hI⟩
  refine jq [0, 2, 11, 12, 13, 14] ?_
  refine W_seq (jd (fun h2 => ?_) (fun h2 => ?_))
  · try simp at h2
    rw [find_drop h2] at hI
    refine W_skip (W_seq (W_block (W_rseqK [0, 2, 8, 11, 12, 13] (jh hX (by simp [h2]; rfl)) ?_)))
    refine W_rseqK [0, 2, 8, 11, 12, 13, 20] (jt 3 (k:=(jc [] (c:=(by apply ct_impl_world_isSub <;> first | assumption | omega | (simp at *; omega) | simp_all)) (a:=cb_impl_world_isSub) (k:=jf)))) ?_
    refine jd (fun h4 => ?_) (fun h4 => ?_)
    · try simp at h4
      refine jq [6] ?_
      refine W_ret (je (by simp [h2]; rfl) ?_)
      have h4b : (isKnown l (chain l a)[i] && out (chain l b) (chain l a)[i]) = true := by simpa using h4
      rw [if_pos h4b] at hI
      unfold comI; rw [← hI]; rfl
    · try simp at h4
      have h4b : ¬ (isKnown l (chain l a)[i] && out (chain l b) (chain l a)[i]) = true := by simpa using h4
      rw [if_neg h4b] at hI
      refine W_skip (W_reg (jh hX (by simp; (try (simp (disch := omega) only [wrap_i64]; (try simp))); rfl)) ?_)
      refine round_end (i + 1) [0, 2, 11, 12, 13] (by simp [h2]; try (simp (disch := omega) only [wrap_i64])) ?_ ?_
      · exact ⟨by omega, hI⟩
      · omega
  · try simp at h2
    rw [List.drop_eq_nil_of_le h2] at hI
    refine W_exit (jq [6] ?_)
    refine W_ret (je (by simp [h2]; rfl) ?_)
    unfold comI; rw [← hI]; rfl
end Go.Proofs
namespace Go.Proofs
open Go Go.Ev


theorem cb_impl_ref : Callable Tryz.prog 91 := ⟨_, Tryz.func91, by kernel_rfl, by kernel_rfl⟩
theorem ct_impl_ref {c : Str} : Ct Tryz.prog 91 [.str c] [] (eT ⟨3, c, 0⟩) [] := by
  refine Ct_bodyS tok Tryz.func91 rfl 5 (by kernel_rfl) (by kernel_rfl) fun X hX => ?_
  refine jq [0, 2] ?_
  refine jq [2] ?_
  refine W_ret (je0 ?_)
  simp
end Go.Proofs
namespace Go.Proofs
open Go Go.Ev


theorem cb_impl_world_typeLub : Callable Tryz.prog 41 := ⟨_, Tryz.func41, by kernel_rfl, by kernel_rfl⟩
theorem ct_impl_world_typeLub {l : List Cls} (hl : l.length ≤ 1048576) {a b : Typ} : Ct Tryz.prog 41 [wv l, eT a, eT b] [] (eT (lubI l a b)) [] := by
  refine Ct_bodyS tok Tryz.func41 rfl 48 (by kernel_rfl) (by kernel_rfl) fun X hX => ?_
  refine jq [0, 4, 5, 6] ?_
  refine W_seq (W_block (jq [0, 4, 5, 6, 7] ?_))
  refine jd (fun h1 => ?_) (fun h1 => ?_)
  · try simp at h1
    refine jq [6] ?_
    refine W_ret (je0 ?_)
    cases a; cases b; simp only [lubI, isObj, objT, sObject, zT, eT] at *
    (try simp_all) <;> grind
  · try simp at h1
    refine W_rseqK [0, 4, 5, 6, 12] (jt 1 (k:=(jc [] (c:=(by apply ct_impl_Type_isObject <;> first | assumption | omega | (simp at *; omega) | simp_all)) (a:=cb_impl_Type_isObject) (k:=(jt 2 (k:=(jm 4 16 [0, 4, 5, 6, 20] (p:=fun b3_4 => by (try simp at b3_4); exact (jh hX (by simp [-atD_lt, -atL_lt]; rfl))) (q:=fun b3_4 => by (try simp at b3_4); exact (js hX 1 (by simp [-atD_lt, -atL_lt]; rfl) (Runs.call [] rfl (by simp) rfl (by simp [-atD_lt, -atL_lt]; rfl) (by simp; rfl) (by apply ct_impl_Type_isObject <;> first | assumption | omega | (simp at *; omega) | simp_all) cb_impl_Type_isObject (by simp) (by simp) (by simp [-atD_lt, -atL_lt]; rfl) (jh hX (by simp [-atD_lt, -atL_lt]; rfl))))) (k:=jr)))))))) ?_
    refine jd (fun h3 => ?_) (fun h3 => ?_)
    · try simp at h3
      refine jq [6] ?_
      refine W_ret (je0 ?_)
      cases a; cases b; simp only [lubI, isObj, objT, sObject, zT, eT] at *
      (try simp_all) <;> grind
    · try simp at h3
      refine jq [0, 4, 5, 6, 22] ?_
      refine jd (fun h5 => ?_) (fun h5 => ?_)
      · try simp at h5
        refine jq [6] ?_
        refine W_ret (je0 ?_)
        cases a; cases b; simp only [lubI, isObj, objT, sObject, zT, eT] at *
        (try simp_all) <;> grind
      · try simp at h5
        refine jq [0, 4, 5, 6, 27] ?_
        refine jd (fun h7 => ?_) (fun h7 => ?_)
        · try simp at h7
          refine jq [6] ?_
          refine W_ret (je0 ?_)
          cases a; cases b; simp only [lubI, isObj, objT, sObject, zT, eT] at *
          (try simp_all) <;> grind
        · try simp at h7
          refine jq [0, 4, 5, 6, 32] ?_
          refine jd (fun h9 => ?_) (fun h9 => ?_)
          · try simp at h9
            refine jL 8 [0, 1, 2, 3, 4, 5, 6] [7] [6] ([0, 1]) hX (by simp; rfl) (jH (p:=fun X hX => (jc [] (c:=(by apply ct_impl_world_common <;> first | assumption | omega | (simp at *; omega) | simp_all)) (a:=cb_impl_world_common) (k:=jf))) (k:=.nil)) jr ?_
            refine W_ret (je0 ?_)
            cases a; cases b; simp only [lubI, isObj, objT, sObject, zT, eT] at *
            (try simp_all) <;> grind
          · try simp at h9
            refine W_skip (W_rseqK [6] (jc [] (c:=(by apply ct_impl_ref <;> first | assumption | omega | (simp at *; omega) | simp_all)) (a:=cb_impl_ref) (k:=jr)) ?_)
            refine W_ret (je0 ?_)
            cases a; cases b; simp only [lubI, isObj, objT, sObject, zT, eT] at *
            (try simp_all) <;> grind
end Go.Proofs
namespace Go.Proofs
open Go Go.Ev


theorem cb_impl_TypeLub : Callable Tryz.prog 8 := ⟨_, Tryz.func8, by kernel_rfl, by kernel_rfl⟩
theorem ct_impl_TypeLub {l : List Cls} (hl : l.length ≤ 1048576) (hs : sizeL l ≤ 1099511627776) {a b : Typ} : Ct Tryz.prog 8 [.lst false 6 (l.map eC), eT a, eT b] [] (eT (lubW l a b)) [] := by
  refine Ct_bodyS tok Tryz.func8 rfl 33 (by kernel_rfl) (by kernel_rfl) fun X hX => ?_
  refine jq [0, 4, 5, 6] ?_
  refine W_rseqK [4, 5, 6, 7, 8] (jt 1 (k:=(jc [] (c:=(by apply ct_impl_rightWorld <;> first | assumption | omega | (simp at *; omega) | simp_all)) (a:=cb_impl_rightWorld) (k:=jr)))) ?_
  refine W_seq (W_rseqK [4, 5, 6, 7, 27] (jt 3 (k:=(jm 5 16 [4, 5, 6, 7, 21] (p:=fun b2_3 => by (try simp at b2_3); exact (jh hX (by simp [-atD_lt, -atL_lt]; rfl))) (q:=fun b2_3 => by (try simp at b2_3); exact (js hX 2 (by simp [-atD_lt, -atL_lt]; rfl) (Runs.call [] rfl (by simp) rfl (by simp [-atD_lt, -atL_lt]; rfl) (by simp; rfl) (by apply ct_impl_world_typeKnown <;> first | assumption | omega | (simp at *; omega) | simp_all) cb_impl_world_typeKnown (by simp) (by simp) (by simp [-atD_lt, -atL_lt]; rfl) (jh hX (by simp [-atD_lt, -atL_lt]; rfl))))) (k:=(jt 1 (k:=(jm 5 22 [4, 5, 6, 7, 27] (p:=fun b2_9 => by (try simp at b2_9); exact (jh hX (by simp [-atD_lt, -atL_lt]; rfl))) (q:=fun b2_9 => by (try simp at b2_9); exact (js hX 2 (by simp [-atD_lt, -atL_lt]; rfl) (Runs.call [] rfl (by simp) rfl (by simp [-atD_lt, -atL_lt]; rfl) (by simp; rfl) (by apply ct_impl_world_typeKnown <;> first | assumption | omega | (simp at *; omega) | simp_all) cb_impl_world_typeKnown (by simp) (by simp) (by simp [-atD_lt, -atL_lt]; rfl) (jh hX (by simp [-atD_lt, -atL_lt]; rfl))))) (k:=jf)))))))) ?_)
  refine jd (fun h2 => ?_) (fun h2 => ?_)
  · try simp at h2
    refine jq [6] ?_
    refine W_ret (je0 ?_)
    have h2b : (rightW l && knownT l a && knownT l b) = false := by grind
    simp only [lubW, h2b]; rfl
  · try simp at h2
    refine W_skip (W_rseqK [6] (jt 3 (k:=(jc [] (c:=(by apply ct_impl_world_typeLub <;> first | assumption | omega | (simp at *; omega) | simp_all)) (a:=cb_impl_world_typeLub) (k:=jr)))) ?_)
    refine W_ret (je0 ?_)
    have h2b : knownT l a = true ∧ knownT l b = true ∧ (rightW l && knownT l a && knownT l b) = true := by grind
    simp only [lubW, h2b.2.2, if_true, lub_eq h2b.1 h2b.2.1]; rfl
end Go.Proofs
namespace Go.Proofs
open Go Go.Ev


theorem cb_spec_BuiltIn : Callable Tryz.prog 182 := ⟨_, Tryz.func182, by kernel_rfl, by kernel_rfl⟩
theorem ct_spec_BuiltIn  : Ct Tryz.prog 182 [] [] (.lst true 1 (builtIn.map V.str)) [] := by
  refine Ct_bodyS tok Tryz.func182 rfl 2 (by kernel_rfl) (by kernel_rfl) fun X hX => ?_
  refine jq [] ?_
  refine jq [0] ?_
  refine W_ret (je0 ?_)
  simp [builtIn]
end Go.Proofs
namespace Go.Proofs
open Go Go.Ev


theorem cb_spec_l05Built : Callable Tryz.prog 123 := ⟨_, Tryz.func123, by kernel_rfl, by kernel_rfl⟩
theorem ct_spec_l05Built {n : Str} : Ct Tryz.prog 123 [.str n] [] (.int .i64 (builtIx n)) [] := by
  have hbl := builtIn_length
  refine Ct_bodyS tok Tryz.func123 rfl 19 (by kernel_rfl) (by kernel_rfl) fun X hX => ?_
  refine jq [0] ?_
  refine W_rseqK [0, 3] (jc [] (c:=(by apply ct_spec_BuiltIn <;> first | assumption | omega | (simp at *; omega) | simp_all)) (a:=cb_spec_BuiltIn) (k:=jr)) ?_
  refine W_seq (jq [0, 3, 4] ?_)
  refine W_block (W_loopU (α := Nat) [0, 3, 4] (fun i => [(4, .int .i64 i)]) (fun i => []) (fun i => i ≤ 8 ∧ ixFrom n (builtIn.drop i) i = builtIx n) (fun i => 8 - i) (0) (fun i => by simp; rfl) (by simp) ?_ ?_)
  · simp [builtIx]
  rintro i ⟨hi, hI⟩
  refine W_seq (jq [0, 3, 4, 9] ?_)
  refine jd (fun h3 => ?_) (fun h3 => ?_)
  · try simp at h3
    rw [List.drop_eq_getElem_cons h3] at hI
    simp only [ixFrom] at hI
    refine W_skip (W_seq (W_block (W_rseqK [0, 3, 4, 17] (jh hX (by simp [h3]; rfl)) ?_)))
    refine jd (fun h5 => ?_) (fun h5 => ?_)
    · try simp at h5
      refine jq [2] ?_
      refine W_ret (je (by simp [h3]; rfl) ?_)
      simp [← hI, h5]
    · try simp at h5
      refine W_skip (W_reg (jh hX (by simp; (try (simp (disch := omega) only [wrap_i64]; (try simp))); rfl)) ?_)
      refine round_end (i + 1) [0, 3, 4] (by simp [h3]; try (simp (disch := omega) only [wrap_i64])) ?_ ?_
      · exact ⟨by omega, by simp [← hI, h5]⟩
      · omega
  · try simp at h3
    refine W_exit (jq [2] ?_)
    refine W_ret (je (by simp [h3]; rfl) ?_)
    simp [← hI, List.drop_eq_nil_of_le h3, ixFrom]
end Go.Proofs
namespace Go.Proofs
open Go Go.Ev


theorem cb_spec_l05Find : Callable Tryz.prog 124 := ⟨_, Tryz.func124, by kernel_rfl, by kernel_rfl⟩
theorem ct_spec_l05Find {l : List Cls} {n : Str} (hl : l.length ≤ 1099511627776) : Ct Tryz.prog 124 [.lst false 6 (l.map eC), .str n] [] (.int .i64 (findFrom n l 0)) [] := by
  refine Ct_bodyS tok Tryz.func124 rfl 20 (by kernel_rfl) (by kernel_rfl) fun X hX => ?_
  refine jq [0, 1] ?_
  refine W_seq (jq [0, 1, 5] ?_)
  refine W_block (W_loopU (α := Nat) [0, 1, 5] (fun i => [(5, .int .i64 i)]) (fun i => []) (fun i => i ≤ l.length ∧ findFrom n (l.drop i) i = findFrom n l 0) (fun i => l.length - i) (0) (fun i => by simp; rfl) (by simp) ?_ ?_)
  · simp
  rintro i ⟨hi, hI⟩
  refine W_seq (jq [0, 1, 5, 9] ?_)
  refine jd (fun h2 => ?_) (fun h2 => ?_)
  · try simp at h2
    rw [List.drop_eq_getElem_cons h2] at hI
    simp only [findFrom] at hI
    refine W_skip (W_seq (W_block (W_rseqK [0, 1, 5, 18] (jh hX (by simp [h2]; rfl)) ?_)))
    refine jd (fun h4 => ?_) (fun h4 => ?_)
    · try simp at h4
      refine jq [4] ?_
      refine W_ret (je (by simp [h2]; rfl) ?_)
      simp [← hI, h4]
    · try simp at h4
      refine W_skip (W_reg (jh hX (by simp; (try (simp (disch := omega) only [wrap_i64]; (try simp))); rfl)) ?_)
      refine round_end (i + 1) [0, 1, 5] (by simp [h2]; try (simp (disch := omega) only [wrap_i64])) ?_ ?_
      · exact ⟨by omega, by simp [← hI, h4]⟩
      · omega
  · try simp at h2
    refine W_exit (jq [4] ?_)
    refine W_ret (je (by simp [h2]; rfl) ?_)
    simp [← hI, List.drop_eq_nil_of_le h2, findFrom]
end Go.Proofs
namespace Go.Proofs
open Go Go.Ev


theorem cb_spec_l05Known : Callable Tryz.prog 68 := ⟨_, Tryz.func68, by kernel_rfl, by kernel_rfl⟩
theorem ct_spec_l05Known {l : List Cls} {n : Str} (hl : l.length ≤ 1099511627776) : Ct Tryz.prog 68 [.lst false 6 (l.map eC), .str n] [] (.bool (isKnown l n)) [] := by
  refine Ct_bodyS tok Tryz.func68 rfl 14 (by kernel_rfl) (by kernel_rfl) fun X hX => ?_
  refine jq [0, 1] ?_
  refine W_rseqK [4] (jt 1 (k:=(jc [] (c:=(by apply ct_spec_l05Built <;> first | assumption | omega | (simp at *; omega) | simp_all)) (a:=cb_spec_l05Built) (k:=(jt 2 (k:=(jm 5 8 [13] (p:=fun b1_4 => by (try simp at b1_4); exact (jh hX (by simp [-atD_lt, -atL_lt]; rfl))) (q:=fun b1_4 => by (try simp at b1_4); exact (js hX 2 (by simp [-atD_lt, -atL_lt]; rfl) (Runs.call [] rfl (by simp) rfl (by simp [-atD_lt, -atL_lt]; rfl) (by simp; rfl) (by apply ct_spec_l05Find <;> first | assumption | omega | (simp at *; omega) | simp_all) cb_spec_l05Find (by simp) (by simp) (by simp [-atD_lt, -atL_lt]; rfl) (jh hX (by simp [-atD_lt, -atL_lt]; rfl))))) (k:=jr)))))))) ?_
  refine W_ret (je0 ?_)
  (try simp_all [isKnown])
end Go.Proofs
namespace Go.Proofs
open Go Go.Ev


theorem cb_spec_l06Known : Callable Tryz.prog 42 := ⟨_, Tryz.func42, by kernel_rfl, by kernel_rfl⟩
theorem ct_spec_l06Known {l : List Cls} {t : Typ} (hl : l.length ≤ 1099511627776) : Ct Tryz.prog 42 [.lst false 6 (l.map eC), eT t] [] (.bool (knownT l t)) [] := by
  refine Ct_bodyS tok Tryz.func42 rfl 49 (by kernel_rfl) (by kernel_rfl) fun X hX => ?_
  refine jq [0, 3] ?_
  refine W_seq (jq [0, 3, 6] ?_)
  refine W_block (W_seq (jq [0, 3, 6, 7] ?_))
  refine jd (fun h2 => ?_) (fun h2 => ?_)
  · try simp at h2
    refine W_skip (jd (fun h2_1 => ?_) (fun h2_1 => ?_))
    · try simp at h2_1
      refine W_rseqK [4] (jt 4 (k:=(jm 4 16 [20] (p:=fun b7_4 => by (try simp at b7_4); exact (jh hX (by simp [-atD_lt, -atL_lt]; rfl))) (q:=fun b7_4 => by (try simp at b7_4); exact (jh hX (by simp [-atD_lt, -atL_lt]; rfl))) (k:=jr)))) ?_
      refine W_ret (je0 ?_)
      simp only [knownT]
      (try simp_all) <;> grind
    · try simp at h2_1
      refine W_seq (jq [0, 3, 6, 21] ?_)
      refine jd (fun h8 => ?_) (fun h8 => ?_)
      · try simp at h8
        refine W_skip (jd (fun h8_1 => ?_) (fun h8_1 => ?_))
        · try simp at h8_1
          refine W_rseqK [4] (jt 3 (k:=(jc [] (c:=(by apply ct_spec_l05Known <;> first | assumption | omega | (simp at *; omega) | simp_all)) (a:=cb_spec_l05Known) (k:=(jt 1 (k:=(jm 4 28 [32] (p:=fun b10_5 => by (try simp at b10_5); exact (jh hX (by simp [-atD_lt, -atL_lt]; rfl))) (q:=fun b10_5 => by (try simp at b10_5); exact (jh hX (by simp [-atD_lt, -atL_lt]; rfl))) (k:=jr)))))))) ?_
          refine W_ret (je0 ?_)
          simp only [knownT]
          (try simp_all) <;> grind
        · try simp at h8_1
          refine jq [0, 3, 33] ?_
          refine jd (fun h11 => ?_) (fun h11 => ?_)
          · try simp at h11
            refine W_rseqK [4] (jt 3 (k:=(jc [] (c:=(by apply ct_spec_l05Known <;> first | assumption | omega | (simp at *; omega) | simp_all)) (a:=cb_spec_l05Known) (k:=(jt 1 (k:=(jm 4 39 [3, 43] (p:=fun b12_5 => by (try simp at b12_5); exact (jh hX (by simp [-atD_lt, -atL_lt]; rfl))) (q:=fun b12_5 => by (try simp at b12_5); exact (jh hX (by simp [-atD_lt, -atL_lt]; rfl))) (k:=(jt 1 (k:=(jm 4 44 [48] (p:=fun b12_10 => by (try simp at b12_10); exact (jh hX (by simp [-atD_lt, -atL_lt, b12_10]; rfl))) (q:=fun b12_10 => by (try simp at b12_10); exact (jh hX (by simp [-atD_lt, -atL_lt]; rfl))) (k:=jr)))))))))))) ?_
            refine W_ret (je0 ?_)
            simp only [knownT]
            (try simp_all) <;> grind
          · try simp at h11
            refine W_skip (jq [4] ?_)
            refine W_ret (je0 ?_)
            simp only [knownT]
            (try simp_all) <;> grind
      · try simp at h8
        refine W_reg jr ?_
        refine jd (fun h9 => ?_) (fun h9 => ?_)
        · try simp at h9
          refine W_rseqK [4] (jt 3 (k:=(jc [] (c:=(by apply ct_spec_l05Known <;> first | assumption | omega | (simp at *; omega) | simp_all)) (a:=cb_spec_l05Known) (k:=(jt 1 (k:=(jm 4 28 [32] (p:=fun b10_5 => by (try simp at b10_5); exact (jh hX (by simp [-atD_lt, -atL_lt]; rfl))) (q:=fun b10_5 => by (try simp at b10_5); exact (jh hX (by simp [-atD_lt, -atL_lt]; rfl))) (k:=jr)))))))) ?_
          refine W_ret (je0 ?_)
          simp only [knownT]
          (try simp_all) <;> grind
        · try simp at h9
          refine jq [0, 3, 33] ?_
          refine jd (fun h11 => ?_) (fun h11 => ?_)
          · try simp at h11
            refine W_rseqK [4] (jt 3 (k:=(jc [] (c:=(by apply ct_spec_l05Known <;> first | assumption | omega | (simp at *; omega) | simp_all)) (a:=cb_spec_l05Known) (k:=(jt 1 (k:=(jm 4 39 [3, 43] (p:=fun b12_5 => by (try simp at b12_5); exact (jh hX (by simp [-atD_lt, -atL_lt]; rfl))) (q:=fun b12_5 => by (try simp at b12_5); exact (jh hX (by simp [-atD_lt, -atL_lt]; rfl))) (k:=(jt 1 (k:=(jm 4 44 [48] (p:=fun b12_10 => by (try simp at b12_10); exact (jh hX (by simp [-atD_lt, -atL_lt, b12_10]; rfl))) (q:=fun b12_10 => by (try simp at b12_10); exact (jh hX (by simp [-atD_lt, -atL_lt]; rfl))) (k:=jr)))))))))))) ?_
            refine W_ret (je0 ?_)
            simp only [knownT]
            (try simp_all) <;> grind
          · try simp at h11
            refine W_skip (jq [4] ?_)
            refine W_ret (je0 ?_)
            simp only [knownT]
            (try simp_all) <;> grind
  · try simp at h2
    refine jq [0, 3, 6, 7] ?_
    refine jd (fun h3 => ?_) (fun h3 => ?_)
    · try simp at h3
      refine W_skip (jd (fun h3_1 => ?_) (fun h3_1 => ?_))
      · try simp at h3_1
        refine W_rseqK [4] (jt 4 (k:=(jm 4 16 [20] (p:=fun b7_4 => by (try simp at b7_4); exact (jh hX (by simp [-atD_lt, -atL_lt]; rfl))) (q:=fun b7_4 => by (try simp at b7_4); exact (jh hX (by simp [-atD_lt, -atL_lt]; rfl))) (k:=jr)))) ?_
        refine W_ret (je0 ?_)
        simp only [knownT]
        (try simp_all) <;> grind
      · try simp at h3_1
        refine W_seq (jq [0, 3, 6, 21] ?_)
        refine jd (fun h8 => ?_) (fun h8 => ?_)
        · try simp at h8
          refine W_skip (jd (fun h8_1 => ?_) (fun h8_1 => ?_))
          · try simp at h8_1
            refine W_rseqK [4] (jt 3 (k:=(jc [] (c:=(by apply ct_spec_l05Known <;> first | assumption | omega | (simp at *; omega) | simp_all)) (a:=cb_spec_l05Known) (k:=(jt 1 (k:=(jm 4 28 [32] (p:=fun b10_5 => by (try simp at b10_5); exact (jh hX (by simp [-atD_lt, -atL_lt]; rfl))) (q:=fun b10_5 => by (try simp at b10_5); exact (jh hX (by simp [-atD_lt, -atL_lt]; rfl))) (k:=jr)))))))) ?_
            refine W_ret (je0 ?_)
            simp only [knownT]
            (try simp_all) <;> grind
          · try simp at h8_1
            refine jq [0, 3, 33] ?_
            refine jd (fun h11 => ?_) (fun h11 => ?_)
            · try simp at h11
              refine W_rseqK [4] (jt 3 (k:=(jc [] (c:=(by apply ct_spec_l05Known <;> first | assumption | omega | (simp at *; omega) | simp_all)) (a:=cb_spec_l05Known) (k:=(jt 1 (k:=(jm 4 39 [3, 43] (p:=fun b12_5 => by (try simp at b12_5); exact (jh hX (by simp [-atD_lt, -atL_lt]; rfl))) (q:=fun b12_5 => by (try simp at b12_5); exact (jh hX (by simp [-atD_lt, -atL_lt]; rfl))) (k:=(jt 1 (k:=(jm 4 44 [48] (p:=fun b12_10 => by (try simp at b12_10); exact (jh hX (by simp [-atD_lt, -atL_lt, b12_10]; rfl))) (q:=fun b12_10 => by (try simp at b12_10); exact (jh hX (by simp [-atD_lt, -atL_lt]; rfl))) (k:=jr)))))))))))) ?_
              refine W_ret (je0 ?_)
              simp only [knownT]
              (try simp_all) <;> grind
            · try simp at h11
              refine W_skip (jq [4] ?_)
              refine W_ret (je0 ?_)
              simp only [knownT]
              (try simp_all) <;> grind
        · try simp at h8
          refine W_reg jr ?_
          refine jd (fun h9 => ?_) (fun h9 => ?_)
          · try simp at h9
            refine W_rseqK [4] (jt 3 (k:=(jc [] (c:=(by apply ct_spec_l05Known <;> first | assumption | omega | (simp at *; omega) | simp_all)) (a:=cb_spec_l05Known) (k:=(jt 1 (k:=(jm 4 28 [32] (p:=fun b10_5 => by (try simp at b10_5); exact (jh hX (by simp [-atD_lt, -atL_lt]; rfl))) (q:=fun b10_5 => by (try simp at b10_5); exact (jh hX (by simp [-atD_lt, -atL_lt]; rfl))) (k:=jr)))))))) ?_
            refine W_ret (je0 ?_)
            simp only [knownT]
            (try simp_all) <;> grind
          · try simp at h9
            refine jq [0, 3, 33] ?_
            refine jd (fun h11 => ?_) (fun h11 => ?_)
            · try simp at h11
              refine W_rseqK [4] (jt 3 (k:=(jc [] (c:=(by apply ct_spec_l05Known <;> first | assumption | omega | (simp at *; omega) | simp_all)) (a:=cb_spec_l05Known) (k:=(jt 1 (k:=(jm 4 39 [3, 43] (p:=fun b12_5 => by (try simp at b12_5); exact (jh hX (by simp [-atD_lt, -atL_lt]; rfl))) (q:=fun b12_5 => by (try simp at b12_5); exact (jh hX (by simp [-atD_lt, -atL_lt]; rfl))) (k:=(jt 1 (k:=(jm 4 44 [48] (p:=fun b12_10 => by (try simp at b12_10); exact (jh hX (by simp [-atD_lt, -atL_lt, b12_10]; rfl))) (q:=fun b12_10 => by (try simp at b12_10); exact (jh hX (by simp [-atD_lt, -atL_lt]; rfl))) (k:=jr)))))))))))) ?_
              refine W_ret (je0 ?_)
              simp only [knownT]
              (try simp_all) <;> grind
            · try simp at h11
              refine W_skip (jq [4] ?_)
              refine W_ret (je0 ?_)
              simp only [knownT]
              (try simp_all) <;> grind
    · try simp at h3
      refine jq [0, 3, 6, 7] ?_
      refine jd (fun h4 => ?_) (fun h4 => ?_)
      · try simp at h4
        refine W_skip (jd (fun h4_1 => ?_) (fun h4_1 => ?_))
        · try simp at h4_1
          refine W_rseqK [4] (jt 4 (k:=(jm 4 16 [20] (p:=fun b7_4 => by (try simp at b7_4); exact (jh hX (by simp [-atD_lt, -atL_lt]; rfl))) (q:=fun b7_4 => by (try simp at b7_4); exact (jh hX (by simp [-atD_lt, -atL_lt]; rfl))) (k:=jr)))) ?_
          refine W_ret (je0 ?_)
          simp only [knownT]
          (try simp_all) <;> grind
        · try simp at h4_1
          refine W_seq (jq [0, 3, 6, 21] ?_)
          refine jd (fun h8 => ?_) (fun h8 => ?_)
          · try simp at h8
            refine W_skip (jd (fun h8_1 => ?_) (fun h8_1 => ?_))
            · try simp at h8_1
              refine W_rseqK [4] (jt 3 (k:=(jc [] (c:=(by apply ct_spec_l05Known <;> first | assumption | omega | (simp at *; omega) | simp_all)) (a:=cb_spec_l05Known) (k:=(jt 1 (k:=(jm 4 28 [32] (p:=fun b10_5 => by (try simp at b10_5); exact (jh hX (by simp [-atD_lt, -atL_lt]; rfl))) (q:=fun b10_5 => by (try simp at b10_5); exact (jh hX (by simp [-atD_lt, -atL_lt]; rfl))) (k:=jr)))))))) ?_
              refine W_ret (je0 ?_)
              simp only [knownT]
              (try simp_all) <;> grind
            · try simp at h8_1
              refine jq [0, 3, 33] ?_
              refine jd (fun h11 => ?_) (fun h11 => ?_)
              · try simp at h11
                refine W_rseqK [4] (jt 3 (k:=(jc [] (c:=(by apply ct_spec_l05Known <;> first | assumption | omega | (simp at *; omega) | simp_all)) (a:=cb_spec_l05Known) (k:=(jt 1 (k:=(jm 4 39 [3, 43] (p:=fun b12_5 => by (try simp at b12_5); exact (jh hX (by simp [-atD_lt, -atL_lt]; rfl))) (q:=fun b12_5 => by (try simp at b12_5); exact (jh hX (by simp [-atD_lt, -atL_lt]; rfl))) (k:=(jt 1 (k:=(jm 4 44 [48] (p:=fun b12_10 => by (try simp at b12_10); exact (jh hX (by simp [-atD_lt, -atL_lt, b12_10]; rfl))) (q:=fun b12_10 => by (try simp at b12_10); exact (jh hX (by simp [-atD_lt, -atL_lt]; rfl))) (k:=jr)))))))))))) ?_
                refine W_ret (je0 ?_)
                simp only [knownT]
                (try simp_all) <;> grind
              · try simp at h11
                refine W_skip (jq [4] ?_)
                refine W_ret (je0 ?_)
                simp only [knownT]
                (try simp_all) <;> grind
          · try simp at h8
            refine W_reg jr ?_
            refine jd (fun h9 => ?_) (fun h9 => ?_)
            · try simp at h9
              refine W_rseqK [4] (jt 3 (k:=(jc [] (c:=(by apply ct_spec_l05Known <;> first | assumption | omega | (simp at *; omega) | simp_all)) (a:=cb_spec_l05Known) (k:=(jt 1 (k:=(jm 4 28 [32] (p:=fun b10_5 => by (try simp at b10_5); exact (jh hX (by simp [-atD_lt, -atL_lt]; rfl))) (q:=fun b10_5 => by (try simp at b10_5); exact (jh hX (by simp [-atD_lt, -atL_lt]; rfl))) (k:=jr)))))))) ?_
              refine W_ret (je0 ?_)
              simp only [knownT]
              (try simp_all) <;> grind
            · try simp at h9
              refine jq [0, 3, 33] ?_
              refine jd (fun h11 => ?_) (fun h11 => ?_)
              · try simp at h11
                refine W_rseqK [4] (jt 3 (k:=(jc [] (c:=(by apply ct_spec_l05Known <;> first | assumption | omega | (simp at *; omega) | simp_all)) (a:=cb_spec_l05Known) (k:=(jt 1 (k:=(jm 4 39 [3, 43] (p:=fun b12_5 => by (try simp at b12_5); exact (jh hX (by simp [-atD_lt, -atL_lt]; rfl))) (q:=fun b12_5 => by (try simp at b12_5); exact (jh hX (by simp [-atD_lt, -atL_lt]; rfl))) (k:=(jt 1 (k:=(jm 4 44 [48] (p:=fun b12_10 => by (try simp at b12_10); exact (jh hX (by simp [-atD_lt, -atL_lt, b12_10]; rfl))) (q:=fun b12_10 => by (try simp at b12_10); exact (jh hX (by simp [-atD_lt, -atL_lt]; rfl))) (k:=jr)))))))))))) ?_
                refine W_ret (je0 ?_)
                simp only [knownT]
                (try simp_all) <;> grind
              · try simp at h11
                refine W_skip (jq [4] ?_)
                refine W_ret (je0 ?_)
                simp only [knownT]
                (try simp_all) <;> grind
      · try simp at h4
        refine jq [0, 3, 6, 7] ?_
        refine jd (fun h5 => ?_) (fun h5 => ?_)
        · try simp at h5
          refine W_skip (jd (fun h5_1 => ?_) (fun h5_1 => ?_))
          · try simp at h5_1
            refine W_rseqK [4] (jt 4 (k:=(jm 4 16 [20] (p:=fun b7_4 => by (try simp at b7_4); exact (jh hX (by simp [-atD_lt, -atL_lt]; rfl))) (q:=fun b7_4 => by (try simp at b7_4); exact (jh hX (by simp [-atD_lt, -atL_lt]; rfl))) (k:=jr)))) ?_
            refine W_ret (je0 ?_)
            simp only [knownT]
            (try simp_all) <;> grind
          · try simp at h5_1
            refine W_seq (jq [0, 3, 6, 21] ?_)
            refine jd (fun h8 => ?_) (fun h8 => ?_)
            · try simp at h8
              refine W_skip (jd (fun h8_1 => ?_) (fun h8_1 => ?_))
              · try simp at h8_1
                refine W_rseqK [4] (jt 3 (k:=(jc [] (c:=(by apply ct_spec_l05Known <;> first | assumption | omega | (simp at *; omega) | simp_all)) (a:=cb_spec_l05Known) (k:=(jt 1 (k:=(jm 4 28 [32] (p:=fun b10_5 => by (try simp at b10_5); exact (jh hX (by simp [-atD_lt, -atL_lt]; rfl))) (q:=fun b10_5 => by (try simp at b10_5); exact (jh hX (by simp [-atD_lt, -atL_lt]; rfl))) (k:=jr)))))))) ?_
                refine W_ret (je0 ?_)
                simp only [knownT]
                (try simp_all) <;> grind
              · try simp at h8_1
                refine jq [0, 3, 33] ?_
                refine jd (fun h11 => ?_) (fun h11 => ?_)
                · try simp at h11
                  refine W_rseqK [4] (jt 3 (k:=(jc [] (c:=(by apply ct_spec_l05Known <;> first | assumption | omega | (simp at *; omega) | simp_all)) (a:=cb_spec_l05Known) (k:=(jt 1 (k:=(jm 4 39 [3, 43] (p:=fun b12_5 => by (try simp at b12_5); exact (jh hX (by simp [-atD_lt, -atL_lt]; rfl))) (q:=fun b12_5 => by (try simp at b12_5); exact (jh hX (by simp [-atD_lt, -atL_lt]; rfl))) (k:=(jt 1 (k:=(jm 4 44 [48] (p:=fun b12_10 => by (try simp at b12_10); exact (jh hX (by simp [-atD_lt, -atL_lt, b12_10]; rfl))) (q:=fun b12_10 => by (try simp at b12_10); exact (jh hX (by simp [-atD_lt, -atL_lt]; rfl))) (k:=jr)))))))))))) ?_
                  refine W_ret (je0 ?_)
                  simp only [knownT]
                  (try simp_all) <;> grind
                · try simp at h11
                  refine W_skip (jq [4] ?_)
                  refine W_ret (je0 ?_)
                  simp only [knownT]
                  (try simp_all) <;> grind
            · try simp at h8
              refine W_reg jr ?_
              refine jd (fun h9 => ?_) (fun h9 => ?_)
              · try simp at h9
                refine W_rseqK [4] (jt 3 (k:=(jc [] (c:=(by apply ct_spec_l05Known <;> first | assumption | omega | (simp at *; omega) | simp_all)) (a:=cb_spec_l05Known) (k:=(jt 1 (k:=(jm 4 28 [32] (p:=fun b10_5 => by (try simp at b10_5); exact (jh hX (by simp [-atD_lt, -atL_lt]; rfl))) (q:=fun b10_5 => by (try simp at b10_5); exact (jh hX (by simp [-atD_lt, -atL_lt]; rfl))) (k:=jr)))))))) ?_
                refine W_ret (je0 ?_)
                simp only [knownT]
                (try simp_all) <;> grind
              · try simp at h9
                refine jq [0, 3, 33] ?_
                refine jd (fun h11 => ?_) (fun h11 => ?_)
                · try simp at h11
                  refine W_rseqK [4] (jt 3 (k:=(jc [] (c:=(by apply ct_spec_l05Known <;> first | assumption | omega | (simp at *; omega) | simp_all)) (a:=cb_spec_l05Known) (k:=(jt 1 (k:=(jm 4 39 [3, 43] (p:=fun b12_5 => by (try simp at b12_5); exact (jh hX (by simp [-atD_lt, -atL_lt]; rfl))) (q:=fun b12_5 => by (try simp at b12_5); exact (jh hX (by simp [-atD_lt, -atL_lt]; rfl))) (k:=(jt 1 (k:=(jm 4 44 [48] (p:=fun b12_10 => by (try simp at b12_10); exact (jh hX (by simp [-atD_lt, -atL_lt, b12_10]; rfl))) (q:=fun b12_10 => by (try simp at b12_10); exact (jh hX (by simp [-atD_lt, -atL_lt]; rfl))) (k:=jr)))))))))))) ?_
                  refine W_ret (je0 ?_)
                  simp only [knownT]
                  (try simp_all) <;> grind
                · try simp at h11
                  refine W_skip (jq [4] ?_)
                  refine W_ret (je0 ?_)
                  simp only [knownT]
                  (try simp_all) <;> grind
        · try simp at h5
          refine W_reg jr ?_
          refine jd (fun h6 => ?_) (fun h6 => ?_)
          · try simp at h6
            refine W_rseqK [4] (jt 4 (k:=(jm 4 16 [20] (p:=fun b7_4 => by (try simp at b7_4); exact (jh hX (by simp [-atD_lt, -atL_lt]; rfl))) (q:=fun b7_4 => by (try simp at b7_4); exact (jh hX (by simp [-atD_lt, -atL_lt]; rfl))) (k:=jr)))) ?_
            refine W_ret (je0 ?_)
            simp only [knownT]
            (try simp_all) <;> grind
          · try simp at h6
            refine W_seq (jq [0, 3, 6, 21] ?_)
            refine jd (fun h8 => ?_) (fun h8 => ?_)
            · try simp at h8
              refine W_skip (jd (fun h8_1 => ?_) (fun h8_1 => ?_))
              · try simp at h8_1
                refine W_rseqK [4] (jt 3 (k:=(jc [] (c:=(by apply ct_spec_l05Known <;> first | assumption | omega | (simp at *; omega) | simp_all)) (a:=cb_spec_l05Known) (k:=(jt 1 (k:=(jm 4 28 [32] (p:=fun b10_5 => by (try simp at b10_5); exact (jh hX (by simp [-atD_lt, -atL_lt]; rfl))) (q:=fun b10_5 => by (try simp at b10_5); exact (jh hX (by simp [-atD_lt, -atL_lt]; rfl))) (k:=jr)))))))) ?_
                refine W_ret (je0 ?_)
                simp only [knownT]
                (try simp_all) <;> grind
              · try simp at h8_1
                refine jq [0, 3, 33] ?_
                refine jd (fun h11 => ?_) (fun h11 => ?_)
                · try simp at h11
                  refine W_rseqK [4] (jt 3 (k:=(jc [] (c:=(by apply ct_spec_l05Known <;> first | assumption | omega | (simp at *; omega) | simp_all)) (a:=cb_spec_l05Known) (k:=(jt 1 (k:=(jm 4 39 [3, 43] (p:=fun b12_5 => by (try simp at b12_5); exact (jh hX (by simp [-atD_lt, -atL_lt]; rfl))) (q:=fun b12_5 => by (try simp at b12_5); exact (jh hX (by simp [-atD_lt, -atL_lt]; rfl))) (k:=(jt 1 (k:=(jm 4 44 [48] (p:=fun b12_10 => by (try simp at b12_10); exact (jh hX (by simp [-atD_lt, -atL_lt, b12_10]; rfl))) (q:=fun b12_10 => by (try simp at b12_10); exact (jh hX (by simp [-atD_lt, -atL_lt]; rfl))) (k:=jr)))))))))))) ?_
                  refine W_ret (je0 ?_)
                  simp only [knownT]
                  (try simp_all) <;> grind
                · try simp at h11
                  refine W_skip (jq [4] ?_)
                  refine W_ret (je0 ?_)
                  simp only [knownT]
                  (try simp_all) <;> grind
            · try simp at h8
              refine W_reg jr ?_
              refine jd (fun h9 => ?_) (fun h9 => ?_)
              · try simp at h9
                refine W_rseqK [4] (jt 3 (k:=(jc [] (c:=(by apply ct_spec_l05Known <;> first | assumption | omega | (simp at *; omega) | simp_all)) (a:=cb_spec_l05Known) (k:=(jt 1 (k:=(jm 4 28 [32] (p:=fun b10_5 => by (try simp at b10_5); exact (jh hX (by simp [-atD_lt, -atL_lt]; rfl))) (q:=fun b10_5 => by (try simp at b10_5); exact (jh hX (by simp [-atD_lt, -atL_lt]; rfl))) (k:=jr)))))))) ?_
                refine W_ret (je0 ?_)
                simp only [knownT]
                (try simp_all) <;> grind
              · try simp at h9
                refine jq [0, 3, 33] ?_
                refine jd (fun h11 => ?_) (fun h11 => ?_)
                · try simp at h11
                  refine W_rseqK [4] (jt 3 (k:=(jc [] (c:=(by apply ct_spec_l05Known <;> first | assumption | omega | (simp at *; omega) | simp_all)) (a:=cb_spec_l05Known) (k:=(jt 1 (k:=(jm 4 39 [3, 43] (p:=fun b12_5 => by (try simp at b12_5); exact (jh hX (by simp [-atD_lt, -atL_lt]; rfl))) (q:=fun b12_5 => by (try simp at b12_5); exact (jh hX (by simp [-atD_lt, -atL_lt]; rfl))) (k:=(jt 1 (k:=(jm 4 44 [48] (p:=fun b12_10 => by (try simp at b12_10); exact (jh hX (by simp [-atD_lt, -atL_lt, b12_10]; rfl))) (q:=fun b12_10 => by (try simp at b12_10); exact (jh hX (by simp [-atD_lt, -atL_lt]; rfl))) (k:=jr)))))))))))) ?_
                  refine W_ret (je0 ?_)
                  simp only [knownT]
                  (try simp_all) <;> grind
                · try simp at h11
                  refine W_skip (jq [4] ?_)
                  refine W_ret (je0 ?_)
                  simp only [knownT]
                  (try simp_all) <;> grind
end Go.Proofs
namespace Go.Proofs
open Go Go.Ev


theorem cb_spec_ClassRight : Callable Tryz.prog 104 := ⟨_, Tryz.func104, by kernel_rfl, by kernel_rfl⟩
theorem ct_spec_ClassRight {x : Cls} (h : sizeC x ≤ 1099511627776) : Ct Tryz.prog 104 [eC x] [] (.bool (clsRight x)) [] := by
  simp only [sizeC] at h
  refine Ct_bodyS tok Tryz.func104 rfl 137 (by kernel_rfl) (by kernel_rfl) fun X hX => ?_
  refine jq [1] ?_
  refine W_seq (W_rseqK [1, 44] (jt 2 (k:=(jc [] (c:=(by apply ct_spec_NameRight <;> first | assumption | omega | (have := mem_sum (f := sizeF) (List.getElem_mem h4); simp only [sizeF] at *; (try simp only [atL_lt h4]); omega) | (have := mem_sum (f := sizeM) (List.getElem_mem h14); omega))) (a:=cb_spec_NameRight) (k:=(jt 2 (k:=(jm 5 12 [1, 17] (p:=fun b1_5 => by (try simp at b1_5); exact (jh hX (by simp [-atD_lt, -atL_lt]; rfl))) (q:=fun b1_5 => by (try simp at b1_5); exact (js hX 2 (by simp [-atD_lt, -atL_lt]; rfl) (Runs.call [] rfl (by simp) rfl (by simp [-atD_lt, -atL_lt]; rfl) (by simp; rfl) (by apply ct_spec_NameRight <;> first | assumption | omega | (have := mem_sum (f := sizeF) (List.getElem_mem h4); simp only [sizeF] at *; (try simp only [atL_lt h4]); omega) | (have := mem_sum (f := sizeM) (List.getElem_mem h14); omega)) cb_spec_NameRight (by simp) (by simp) (by simp [-atD_lt, -atL_lt]; rfl) (jh hX (by simp [-atD_lt, -atL_lt]; rfl))))) (k:=(jt 1 (k:=(jm 6 18 [1, 24] (p:=fun b1_11 => by (try simp at b1_11); exact (jh hX (by simp [-atD_lt, -atL_lt]; rfl))) (q:=fun b1_11 => by (try simp at b1_11); exact (jh hX (by simp [-atD_lt, -atL_lt]; rfl))) (k:=(jt 1 (k:=(jm 7 25 [1, 32] (p:=fun b1_18 => by (try simp at b1_18); exact (jh hX (by simp [-atD_lt, -atL_lt]; rfl))) (q:=fun b1_18 => by (try simp at b1_18); exact (js hX 3 (by simp [-atD_lt, -atL_lt]; rfl) (jm 3 28 [1, 25, 31] (p:=fun b1_21 => by (try simp at b1_21); exact (jh hX (by simp [-atD_lt, -atL_lt]; rfl))) (q:=fun b1_21 => by (try simp at b1_21); exact (jh hX (by simp [-atD_lt, -atL_lt]; rfl))) (k:=(jh hX (by simp [-atD_lt, -atL_lt]; rfl)))))) (k:=(jt 1 (k:=(jm 5 33 [1, 38] (p:=fun b1_26 => by (try simp at b1_26); exact (jh hX (by simp [-atD_lt, -atL_lt]; rfl))) (q:=fun b1_26 => by (try simp at b1_26); exact (jh hX (by simp [-atD_lt, -atL_lt]; rfl))) (k:=(jt 1 (k:=(jm 5 39 [1, 44] (p:=fun b1_32 => by (try simp at b1_32); exact (jh hX (by simp [-atD_lt, -atL_lt]; rfl))) (q:=fun b1_32 => by (try simp at b1_32); exact (jh hX (by simp [-atD_lt, -atL_lt, b1_32]; rfl))) (k:=jf)))))))))))))))))))))))) ?_)
  refine jd (fun h1 => ?_) (fun h1 => ?_)
  · try simp at h1
    have hh : clsHead x = false := by unfold clsHead; grind
    refine jq [2] ?_
    refine W_ret (je (by simp [h1]; rfl) ?_)
    simp [clsRight, hh]
  · try simp at h1
    have hh : clsHead x = true := by unfold clsHead; grind
    rw [show clsRight x = (fldsR [] x.fields && mthsR x.abstr [] x.methods) from by simp [clsRight, hh]]
    refine W_skip (W_seq (jq [1, 3] ?_))
    refine W_block (W_loopU (α := Nat) [1, 3] (fun i => [(3, .int .i64 i)]) (fun i => []) (fun i => i ≤ x.fields.length ∧ fldsR (x.fields.take i) (x.fields.drop i) = fldsR [] x.fields) (fun i => x.fields.length - i) (0) (fun i => by simp; rfl) (by simp) ?_ ?_)
    · simp
    rintro i ⟨hi, hI⟩
    refine W_seq (W_rseqK [1, 3, 49] (jh hX (by simp [h1]; rfl)) ?_)
    refine jd (fun h4 => ?_) (fun h4 => ?_)
    · try simp at h4
      rw [List.drop_eq_getElem_cons h4] at hI
      simp only [fldsR] at hI
      refine W_skip (W_seq (W_block (W_seq (W_rseqK [1, 3, 69] (js hX 6 (by simp [h1, h4]; rfl) (jc [] (c:=(by apply ct_spec_NameRight <;> first | assumption | omega | (have := mem_sum (f := sizeF) (List.getElem_mem h4); simp only [sizeF] at *; (try simp only [atL_lt h4]); omega) | (have := mem_sum (f := sizeM) (List.getElem_mem h14); omega))) (a:=cb_spec_NameRight) (k:=(jt 2 (k:=(jm 9 60 [1, 3, 69] (p:=fun b6_9 => by (try simp at b6_9); exact (jh hX (by simp [-atD_lt, -atL_lt]; rfl))) (q:=fun b6_9 => by (try simp at b6_9); exact (js hX 6 (by simp [-atD_lt, -atL_lt, h1, h4]; rfl) (Runs.call [] rfl (by simp) rfl (by simp [-atD_lt, -atL_lt]; rfl) (by simp; rfl) (by apply ct_spec_TypeRight <;> first | assumption | omega | (have := mem_sum (f := sizeF) (List.getElem_mem h4); simp only [sizeF] at *; (try simp only [atL_lt h4]); omega) | (have := mem_sum (f := sizeM) (List.getElem_mem h14); omega)) cb_spec_TypeRight (by simp) (by simp) (by simp [-atD_lt, -atL_lt]; rfl) (jh hX (by simp [-atD_lt, -atL_lt]; rfl))))) (k:=jf))))))) ?_))))
      refine jd (fun h6 => ?_) (fun h6 => ?_)
      · try simp at h6
        refine jq [2] ?_
        refine W_ret (je (by simp [h1, h4]; rfl) ?_)
        have h6b : (nameRight x.fields[i].name && typeRight x.fields[i].type) = false := by simp only [atL_lt h4] at h6; grind
        simp [← hI, h6b]
      · try simp at h6
        have h6b : (nameRight x.fields[i].name && typeRight x.fields[i].type) = true := by simp only [atL_lt h4] at h6; grind
        refine W_skip (jq [1, 3, 4] ?_)
        refine W_block (W_loopU (α := Nat) [1, 3, 4] (fun k => [(4, .int .i64 k)]) (fun k => []) (fun k => k ≤ i ∧ ((x.fields.take i).drop k).all (fun g => !decide (g.name = x.fields[i].name)) = (x.fields.take i).all (fun g => !decide (g.name = x.fields[i].name))) (fun k => i - k) (0) (fun k => by simp; rfl) (by simp) ?_ ?_)
        · simp
        rintro k ⟨hk, hK⟩
        refine W_seq (jq [1, 3, 4, 72] ?_)
        refine jd (fun h9 => ?_) (fun h9 => ?_)
        · try simp at h9
          have hkl : k < (x.fields.take i).length := by simp; omega
          have hkf : k < x.fields.length := by omega
          rw [all_drop hkl, List.getElem_take] at hK
          refine W_skip (W_seq (W_block (jD [1, 3, 4, 87] (jQ (by simp [h1, h4, h9, hkf]; rfl)) ?_)))
          refine jd (fun h11 => ?_) (fun h11 => ?_)
          · try simp at h11
            refine jq [2] ?_
            refine W_ret (je (by simp [h1, h4, h9, hkf]; rfl) ?_)
            simp [← hI, ← hK, h11]
          · try simp at h11
            simp only [h11, decide_false, Bool.not_false, Bool.true_and] at hK
            refine W_skip (W_reg (jh hX (by simp; (try (simp (disch := omega) only [wrap_i64]; (try simp))); rfl)) ?_)
            refine round_end (k + 1) [1, 3, 4] (by simp [h1, h4, h9, hkf]; try (simp (disch := omega) only [wrap_i64])) ?_ ?_
            · exact ⟨by omega, hK⟩
            · omega
        · try simp at h9
          rw [List.drop_eq_nil_of_le (by simp; omega)] at hK
          simp only [List.all_nil] at hK
          refine W_exit (W_reg (jh hX (by simp; (try (simp (disch := omega) only [wrap_i64]; (try simp))); rfl)) ?_)
          refine round_end (i + 1) [1, 3] (by simp [h1, h4, h9]; try (simp (disch := omega) only [wrap_i64])) ?_ ?_
          · exact ⟨by omega, by rw [List.take_succ_eq_append_getElem h4, ← hI, h6b, ← hK]; simp⟩
          · omega
    · try simp at h4
      rw [List.drop_eq_nil_of_le h4] at hI
      simp only [fldsR] at hI
      rw [← hI, Bool.true_and]
      refine W_exit (W_seq (jq [1, 5] ?_))
      refine W_block (W_loopU (α := Nat) [1, 5] (fun i => [(5, .int .i64 i)]) (fun i => []) (fun i => i ≤ x.methods.length ∧ mthsR x.abstr (x.methods.take i) (x.methods.drop i) = mthsR x.abstr [] x.methods) (fun i => x.methods.length - i) (0) (fun i => by simp; rfl) (by simp) ?_ ?_)
      · simp
      rintro i ⟨hi2, hI2⟩
      refine W_seq (W_rseqK [1, 5, 92] (jh hX (by simp [h1, h4]; rfl)) ?_)
      refine jd (fun h14 => ?_) (fun h14 => ?_)
      · try simp at h14
        rw [List.drop_eq_getElem_cons h14] at hI2
        simp only [mthsR] at hI2
        refine W_skip (W_seq (W_block (W_rseqK [1, 5, 6] (jh hX (by simp [h1, h4, h14]; rfl)) ?_)))
        refine W_seq (W_rseqK [1, 5, 6, 111] (js hX 1 (by simp [h1, h4, h14]; rfl) (jc [] (c:=(by apply ct_spec_MethodRight <;> first | assumption | omega | (have := mem_sum (f := sizeF) (List.getElem_mem h4); simp only [sizeF] at *; (try simp only [atL_lt h4]); omega) | (have := mem_sum (f := sizeM) (List.getElem_mem h14); omega))) (a:=cb_spec_MethodRight) (k:=(jt 2 (k:=(jm 8 103 [1, 5, 6, 111] (p:=fun b17_4 => by (try simp at b17_4); exact (jh hX (by simp [-atD_lt, -atL_lt]; rfl))) (q:=fun b17_4 => by (try simp at b17_4); exact (js hX 3 (by simp [-atD_lt, -atL_lt, h1, h4, h14]; rfl) (jm 4 106 [1, 5, 6, 103, 110] (p:=fun b17_7 => by (try simp at b17_7); exact (jh hX (by simp [-atD_lt, -atL_lt, h1, h4, h14]; rfl))) (q:=fun b17_7 => by (try simp at b17_7); exact (jh hX (by simp [-atD_lt, -atL_lt]; rfl))) (k:=(jh hX (by simp [-atD_lt, -atL_lt]; rfl)))))) (k:=jf))))))) ?_)
        refine jd (fun h17 => ?_) (fun h17 => ?_)
        · try simp at h17
          refine jq [2] ?_
          refine W_ret (je (by simp [h1, h4, h14]; rfl) ?_)
          have h17b : (mthRight x.methods[i] && !(x.methods[i].abstr && !x.abstr)) = false := by grind
          rw [← hI2, h17b, Bool.false_and, Bool.false_and]
        · try simp at h17
          have h17b : (mthRight x.methods[i] && !(x.methods[i].abstr && !x.abstr)) = true := by grind
          refine W_skip (jq [1, 5, 6, 7] ?_)
          refine W_block (W_loopU (α := Nat) [1, 5, 6, 7] (fun k => [(7, .int .i64 k)]) (fun k => []) (fun k => k ≤ i ∧ ((x.methods.take i).drop k).all (fun g => !(decide (g.name = x.methods[i].name) && decide (g.desc = x.methods[i].desc))) = (x.methods.take i).all (fun g => !(decide (g.name = x.methods[i].name) && decide (g.desc = x.methods[i].desc)))) (fun k => i - k) (0) (fun k => by simp; rfl) (by simp) ?_ ?_)
          · simp
          rintro k ⟨hk2, hK2⟩
          refine W_seq (jq [1, 5, 6, 7, 114] ?_)
          refine jd (fun h20 => ?_) (fun h20 => ?_)
          · try simp at h20
            have hkl : k < (x.methods.take i).length := by simp; omega
            have hkf : k < x.methods.length := by omega
            rw [all_drop hkl, List.getElem_take] at hK2
            refine W_skip (W_seq (W_block (jD [1, 5, 6, 7, 136] (jS 10 (by simp [h1, h4, h14, h20, hkf]; rfl) (jM 10 126 [1, 5, 6, 7, 136] (p:=fun b22_10 => by (try simp at b22_10); exact (jQ (by simp [-atD_lt, -atL_lt, h1, h4, h14, h20, hkf]; rfl))) (q:=fun b22_10 => by (try simp at b22_10); exact (jQ (by simp [-atD_lt, -atL_lt]; rfl))) (k:=(RunsQ.fin (by (try simp); rfl))))) ?_)))
            refine jd (fun h22 => ?_) (fun h22 => ?_)
            · try simp at h22
              refine jq [2] ?_
              refine W_ret (je (by simp [h1, h4, h14, h20, hkf]; rfl) ?_)
              simp only [atL_lt hkf] at h22
              rw [← hI2, ← hK2, decide_eq_true h22.1, decide_eq_true h22.2]
              simp
            · try simp at h22
              simp only [atL_lt hkf] at h22
              have h22b : (!(decide (x.methods[k].name = x.methods[i].name) && decide (x.methods[k].desc = x.methods[i].desc))) = true := by simp; exact Decidable.not_or_of_imp h22
              rw [h22b, Bool.true_and] at hK2
              refine W_skip (W_reg (jh hX (by simp; (try (simp (disch := omega) only [wrap_i64]; (try simp))); rfl)) ?_)
              refine round_end (k + 1) [1, 5, 6, 7] (by simp [h1, h4, h14, h20, hkf]; try (simp (disch := omega) only [wrap_i64])) ?_ ?_
              · exact ⟨by omega, hK2⟩
              · omega
          · try simp at h20
            rw [List.drop_eq_nil_of_le (by simp; omega)] at hK2
            simp only [List.all_nil] at hK2
            refine W_exit (W_reg (jh hX (by simp; (try (simp (disch := omega) only [wrap_i64]; (try simp))); rfl)) ?_)
            refine round_endT (i + 1) [1, 5] 1 (by simp [hX]) (by simp) (by simp [h1, h4, h14, h20]; try (simp (disch := omega) only [wrap_i64])) ?_ ?_
            · exact ⟨by omega, by rw [List.take_succ_eq_append_getElem h14, ← hI2, h17b, ← hK2]; simp⟩
            · omega
      · try simp at h14
        rw [List.drop_eq_nil_of_le h14] at hI2
        simp only [mthsR] at hI2
        rw [← hI2]
        refine W_exit (jq [2] ?_)
        refine W_ret (je (by simp [h1, h4, h14]; rfl) ?_)
        simp
end Go.Proofs
namespace Go.Proofs
open Go Go.Ev


theorem cb_spec_TypeClass : Callable Tryz.prog 239 := ⟨_, Tryz.func239, by kernel_rfl, by kernel_rfl⟩
theorem ct_spec_TypeClass {t : Str} (ht : t.length ≤ 1099511627776) : Ct Tryz.prog 239 [.str t] [] (.str (typeClass t)) [] := by
  refine Ct_bodyS tok Tryz.func239 rfl 24 (by kernel_rfl) (by kernel_rfl) fun X hX => ?_
  refine jq [0] ?_
  refine W_seq (W_rseqK [0, 10] (jt 4 (k:=(jm 4 6 [0, 10] (p:=fun b1_4 => by (try simp at b1_4); exact (jh hX (by simp [-atD_lt, -atL_lt]; rfl))) (q:=fun b1_4 => by (try simp at b1_4); exact (js hX 1 (by simp [-atD_lt, -atL_lt]; rfl) (Runs.call [] rfl (by simp) rfl (by simp [-atD_lt, -atL_lt]; rfl) (by simp; rfl) (by apply ct_spec_TypeRight <;> first | assumption | omega | (simp at *; omega) | simp_all) cb_spec_TypeRight (by simp) (by simp) (by simp [-atD_lt, -atL_lt]; rfl) (jh hX (by simp [-atD_lt, -atL_lt]; rfl))))) (k:=jf)))) ?_)
  refine jd (fun h1 => ?_) (fun h1 => ?_)
  · try simp at h1
    have hx : typeClass t = [] := by
      rw [typeClass, if_neg]
      rintro e
      have := (len_of_typeRight e).2
      rcases h1 with h1 | h1
      · omega
      · rw [h1] at e; cases e
    refine jq [2] ?_
    refine W_ret (je (by simp [h1]; rfl) ?_)
    rw [hx]
  · try simp at h1
    have hlt := (len_of_typeRight h1.2).1
    have hlt1 : 1 ≤ t.length := hlt
    have hlong := typeRight_long h1.2
    refine W_skip (W_seq (W_rseqK [0, 13] (jh hX (by simp [h1, hlt, hlt1]; rfl)) ?_))
    refine' W_condS3 [0] (by simp; rfl) (by rfl) (fun h3 => ?a1_1) (fun h3 => ?a0_1) ?ak_1
    case a1_1 =>
      try simp at h3
      refine W_reg (jh hX (by simp [h1, hlt, hlt1]; rfl)) ?_
      exact ⟨rfl, Eq.trans (by (try simp); rfl) (by rfl)⟩
    case a0_1 =>
      try simp at h3
      refine W_skip ?_
      exact ⟨rfl, Eq.trans (by (try simp); rfl) (by rfl)⟩
    case ak_1 =>
      refine W_le (Le.of_eq (by simp; rfl)) ?_
      generalize hu : (bif _ then _ else t) = u
      have hu2 : u = if isAt t 0 91 then t.drop 1 else t := by rw [← hu, isAt_lt hlt]; simp [cond_eq_ite]
      have hx : typeClass t = tClass u := by rw [typeClass, if_pos h1.2, hu2]; split <;> rfl
      rw [hx]
      clear hu hx
      have hu0 : 0 < u.length := by
        rw [hu2]
        split
        · rename_i hb
          have := hlong.1 hb
          simp; omega
        · exact hlt
      have hul : u.length ≤ t.length := by rw [hu2]; split <;> simp
      have hu3 : isAt u 0 73 = false → 2 < u.length := by
        intro hb
        rw [hu2] at hb ⊢
        split at hb
        · rename_i hc
          rw [isAt_drop] at hb
          have := hlong.2.1 hc hb
          rw [if_pos hc]; simp; omega
        · rename_i hc
          rw [if_neg hc]
          exact hlong.2.2 (by simpa using hc) hb
      have hat := isAt_lt (n := 73) hu0
      refine W_seq (W_rseqK [0, 18] (jh hX (by simp [h1, hlt, hlt1, hu0]; rfl)) ?_)
      refine jd (fun h5 => ?_) (fun h5 => ?_)
      · try simp at h5
        refine jq [2] ?_
        refine W_ret (je (by simp [h1, hlt, hlt1, hu0]; rfl) ?_)
        rw [tClass, if_pos (by rw [hat]; simpa using h5)]
      · try simp at h5
        have hat2 : isAt u 0 73 = false := by rw [hat]; simpa using h5
        have hu4 := hu3 hat2
        have hs1 : 0 ≤ (u.length : Int) - 1 := by omega
        have hs2 : ((u.length : Int) - 1).toNat = u.length - 1 := by omega
        have hs3 : u.length - 1 ≤ u.length := by omega
        have hs4 : 1 ≤ u.length - 1 := by omega
        have hs5 : 1 ≤ u.length := hu0
        refine W_skip (W_rseqK [2] (jh hX (by simp [h1, hlt, hlt1, hu0, hs1, hs2, hs3, hs4, hs5]; (try (simp (disch := omega) only [wrap_i64]; (try simp [h1, hlt, hlt1, hu0, hs1, hs2, hs3, hs4, hs5]))); rfl)) ?_)
        refine W_ret (je (by simp [h1, hlt, hlt1, hu0, hs1, hs2, hs3, hs4, hs5]; rfl) ?_)
        rw [tClass, if_neg (by simp [hat2])]
        simp [seg]
end Go.Proofs
namespace Go.Proofs
open Go Go.Ev


theorem cb_spec_l05Type : Callable Tryz.prog 183 := ⟨_, Tryz.func183, by kernel_rfl, by kernel_rfl⟩
theorem ct_spec_l05Type {l : List Cls} {t : Str} (hl : l.length ≤ 1099511627776) (ht : t.length ≤ 1099511627776) : Ct Tryz.prog 183 [.lst false 6 (l.map eC), .str t] [] (.bool (typeK l t)) [] := by
  refine Ct_bodyS tok Tryz.func183 rfl 15 (by kernel_rfl) (by kernel_rfl) fun X hX => ?_
  refine jq [0, 1] ?_
  refine W_rseqK [0, 5] (jt 1 (k:=(jc [] (c:=(by apply ct_spec_TypeClass <;> first | assumption | omega | (simp at *; omega) | simp_all)) (a:=cb_spec_TypeClass) (k:=jr)))) ?_
  refine W_rseqK [4] (jt 3 (k:=(jm 4 10 [14] (p:=fun b2_3 => by (try simp at b2_3); exact (jh hX (by simp [-atD_lt, -atL_lt]; rfl))) (q:=fun b2_3 => by (try simp at b2_3); exact (js hX 2 (by simp [-atD_lt, -atL_lt]; rfl) (Runs.call [] rfl (by simp) rfl (by simp [-atD_lt, -atL_lt]; rfl) (by simp; rfl) (by apply ct_spec_l05Known <;> first | assumption | omega | (simp at *; omega) | simp_all) cb_spec_l05Known (by simp) (by simp) (by simp [-atD_lt, -atL_lt]; rfl) (jh hX (by simp [-atD_lt, -atL_lt]; rfl))))) (k:=jr)))) ?_
  refine W_ret (je0 ?_)
  (try simp_all [typeK])
end Go.Proofs
namespace Go.Proofs
open Go Go.Ev


theorem cb_spec_l05Desc : Callable Tryz.prog 219 := ⟨_, Tryz.func219, by kernel_rfl, by kernel_rfl⟩
theorem ct_spec_l05Desc {l : List Cls} {t : Str} (hl : l.length ≤ 1099511627776) (ht : t.length ≤ 1099511627776) : Ct Tryz.prog 219 [.lst false 6 (l.map eC), .str t] [] (.bool (descK l t)) [] := by
  have hpl := descRead_le t
  have hps := descRead_parts t
  refine Ct_bodyS tok Tryz.func219 rfl 29 (by kernel_rfl) (by kernel_rfl) fun X hX => ?_
  refine jq [0, 1] ?_
  refine W_rseqK [0, 5] (jt 1 (k:=(jF (c:=(by apply ct_spec_DescRead <;> first | assumption | omega | exact Nat.le_trans (hps.2 _ (List.getElem_mem _)) ht)) (a:=cb_spec_DescRead) (k:=jr)))) ?_
  refine W_seq (jq [0, 5, 6] ?_)
  refine W_block (W_loopU (α := Nat) [0, 5, 6] (fun i => [(6, .int .i64 i)]) (fun i => []) (fun i => i ≤ (descRead t).params.length ∧ ((descRead t).params.drop i).all (typeK l) = (descRead t).params.all (typeK l)) (fun i => (descRead t).params.length - i) (0) (fun i => by simp; rfl) (by simp) ?_ ?_)
  · simp
  rintro i ⟨hi, hI⟩
  refine W_seq (jq [0, 5, 6, 14] ?_)
  refine jd (fun h3 => ?_) (fun h3 => ?_)
  · try simp at h3
    rw [all_drop h3] at hI
    refine W_skip (W_seq (W_block (W_rseqK [0, 5, 6, 24] (js hX 6 (by simp [h3]; rfl) (jc [] (c:=(by apply ct_spec_l05Type <;> first | assumption | omega | exact Nat.le_trans (hps.2 _ (List.getElem_mem _)) ht)) (a:=cb_spec_l05Type) (k:=jr))) ?_)))
    refine jd (fun h5 => ?_) (fun h5 => ?_)
    · try simp at h5
      refine jq [4] ?_
      refine W_ret (je (by simp [h3]; rfl) ?_)
      simp [descK, ← hI, h5]
    · try simp at h5
      rw [h5, Bool.true_and] at hI
      refine W_skip (W_reg (jh hX (by simp; (try (simp (disch := omega) only [wrap_i64]; (try simp))); rfl)) ?_)
      refine round_end (i + 1) [0, 5, 6] (by simp [h3]; try (simp (disch := omega) only [wrap_i64])) ?_ ?_
      · exact ⟨by omega, hI⟩
      · omega
  · try simp at h3
    rw [List.drop_eq_nil_of_le h3] at hI
    refine W_exit (W_rseqK [4] (js hX 3 (by simp [h3]; rfl) (jc [] (c:=(by apply ct_spec_l05Type <;> first | assumption | omega | exact Nat.le_trans (hps.2 _ (List.getElem_mem _)) ht)) (a:=cb_spec_l05Type) (k:=jr))) ?_)
    refine W_ret (je (by simp [h3]; rfl) ?_)
    simp [descK, ← hI]
end Go.Proofs
