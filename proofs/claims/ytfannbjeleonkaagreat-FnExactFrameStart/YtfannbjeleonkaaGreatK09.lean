/- Part 10 of what the proofs lean on: what the functions of the program and of the reference compute. Conditions: none. -/
import Derived.Test.YtfannbjeleonkaaGreatK08
set_option linter.all false
set_option linter.unusedVariables false
set_option linter.unusedSimpArgs false
set_option maxHeartbeats 2000000
set_option maxRecDepth 100000
namespace Go.Proofs
open Go Go.Ev


theorem cb_slices_IndexFunc_impl_Handler_impl_Handler : Callable Tryz.prog 264 := ⟨_, Tryz.func264, by kernel_rfl, by kernel_rfl⟩
theorem ct_slices_IndexFunc_impl_Handler_impl_Handler {n : Int} (hn0 : 0 ≤ n) (hn : n ≤ 1099511627776) {l : List Hdl} (hl : l.length ≤ 1099511627776) (hs : ∀ x ∈ l, x.cls.length ≤ 1099511627776) : Ct Tryz.prog 264 [.lst false 4 (l.map eH), .clo (.func 259) [] [.fp [.int .i64 n]]] [] (.int .i64 (fix (fun x => !hdlRight n x) l)) [] := by
  refine Ct_bodyS tok Tryz.func264 rfl 19 (by kernel_rfl) (by kernel_rfl) fun X hX => ?_
  refine jq [0, 1] ?_
  refine W_seq (jq [0, 1, 7, 8] ?_)
  refine W_block (W_loopU (α := Nat) [0, 1, 7, 8] (fun i => [(8, .int .i64 i)]) (fun i => []) (fun i => i ≤ l.length ∧ ∀ x ∈ l.take i, (fun x => !hdlRight n x) x = false) (fun i => l.length - i) (0) (fun i => by simp; rfl) (by simp) ?_ ?_)
  · simp
  rintro i ⟨hi, hI⟩
  refine jq [0, 1, 7, 8, 9] ?_
  refine W_seq (jd (fun h2 => ?_) (fun h2 => ?_))
  · try simp at h2
    refine W_skip (W_seq (W_block (jq [0, 1, 5, 7, 8] ?_)))
    refine W_rseqK [0, 1, 5, 7, 8, 16] (js hX 5 (by simp [h2]; rfl) (jc [] (c:=(by apply ct_impl_codeRight_1 <;> first | assumption | exact hs _ (List.getElem_mem h2) | omega)) (a:=cb_impl_codeRight_1) (k:=jf))) ?_
    refine jd (fun h4 => ?_) (fun h4 => ?_)
    · try simp at h4
      refine jq [4] ?_
      refine W_ret (je (by simp [h2]; rfl) ?_)
      rw [fix_hit h2 hI (by simpa using h4)]
    · try simp at h4
      refine W_skip (W_reg (jh hX (by simp; (try (simp (disch := omega) only [wrap_i64]; (try simp))); rfl)) ?_)
      refine round_end (i + 1) [0, 1, 7, 8] (by simp [h2]; try (simp (disch := omega) only [wrap_i64])) ?_ ?_
      · exact ⟨by omega, take_not h2 hI (by simpa using h4)⟩
      · omega
  · try simp at h2
    refine W_exit (jq [4] ?_)
    refine W_ret (je (by simp [h2]; rfl) ?_)
    rw [fix_none (p := fun x => !hdlRight n x) (fun x hx => hI x (by rw [List.take_of_length_le h2]; exact hx))]
end Go.Proofs
namespace Go.Proofs
open Go Go.Ev


theorem cb_slices_ContainsFunc_impl_Handler_impl_Handler : Callable Tryz.prog 258 := ⟨_, Tryz.func258, by kernel_rfl, by kernel_rfl⟩
theorem ct_slices_ContainsFunc_impl_Handler_impl_Handler {n : Int} (hn0 : 0 ≤ n) (hn : n ≤ 1099511627776) {l : List Hdl} (hl : l.length ≤ 1099511627776) (hs : ∀ x ∈ l, x.cls.length ≤ 1099511627776) : Ct Tryz.prog 258 [.lst false 4 (l.map eH), .clo (.func 259) [] [.fp [.int .i64 n]]] [] (.bool (l.any (fun x => !hdlRight n x))) [] := by
  refine Ct_bodyS tok Tryz.func258 rfl 9 (by kernel_rfl) (by kernel_rfl) fun X hX => ?_
  refine jq [0, 1] ?_
  refine W_rseqK [4] (jt 2 (k:=(jc [] (c:=(by apply ct_slices_IndexFunc_impl_Handler_impl_Handler <;> first | assumption | omega | (simp at *; omega) | simp_all)) (a:=cb_slices_IndexFunc_impl_Handler_impl_Handler) (k:=jr)))) ?_
  refine W_ret (je0 ?_)
  rw [← fix_ge]
end Go.Proofs
namespace Go.Proofs
open Go Go.Ev


theorem cb_impl_codeRight : Callable Tryz.prog 246 := ⟨_, Tryz.func246, by kernel_rfl, by kernel_rfl⟩
theorem ct_impl_codeRight {x : Mth} (h : sizeM x ≤ 1099511627776) : Ct Tryz.prog 246 [eM x] [] (.bool (codeR x)) [] := by
  unfold codeR
  simp only [sizeM] at h
  refine Ct_bodyS tok Tryz.func246 rfl 46 (by kernel_rfl) (by kernel_rfl) fun X hX => ?_
  refine jq [1] ?_
  refine W_rseqK [1, 3] (jt 2 (k:=(jc [] (c:=(by apply ct_impl_size_impl_Ins <;> first | assumption | omega | (have := mem_sum (f := sizeI) (List.getElem_mem (l := x.code) (n := i) (by omega)); simp only [sizeI] at *; omega))) (a:=cb_impl_size_impl_Ins) (k:=jr)))) ?_
  refine W_seq (W_rseqK [1, 3, 17] (jt 1 (k:=(jc [] (c:=(by apply ct_impl_within <;> first | assumption | omega | (have := mem_sum (f := sizeI) (List.getElem_mem (l := x.code) (n := i) (by omega)); simp only [sizeI] at *; omega))) (a:=cb_impl_within) (k:=(jt 2 (k:=(jm 5 12 [1, 3, 17] (p:=fun b2_4 => by (try simp at b2_4); exact (jh hX (by simp [-atD_lt, -atL_lt]; rfl))) (q:=fun b2_4 => by (try simp at b2_4); exact (jh hX (by simp [-atD_lt, -atL_lt]; rfl))) (k:=jf)))))))) ?_)
  refine jd (fun h2 => ?_) (fun h2 => ?_)
  · try simp at h2
    refine jq [2] ?_
    refine W_ret (je (by simp [h2]; rfl) ?_)
    have h2b : x.code.length < 1 ∨ 60 < x.code.length ∨ 6 < x.hdls.length := by
      rcases h2 with (h | h) | h
      · simp [h]
      · omega
      · omega
    rw [decide_eq_true h2b]; rfl
  · try simp at h2
    refine W_skip (W_seq (W_rseqK [1, 3, 19, 20, 21] (jh hX (by simp [h2]; rfl)) ?_))
    refine W_block (W_loopU (α := Nat) [1, 3, 19, 20, 21] (fun i => [(21, .int .i64 i)]) (fun i => []) (fun i => i ≤ x.code.length ∧ (x.code.drop i).all (codeOK x.code.length) = x.code.all (codeOK x.code.length)) (fun i => x.code.length - i) (0) (fun i => by simp; rfl) (by simp) ?_ ?_)
    · simp
    rintro i ⟨hi, hI⟩
    refine jq [1, 3, 19, 20, 21, 22] ?_
    refine W_seq (jd (fun h5 => ?_) (fun h5 => ?_))
    · try simp at h5
      rw [all_drop h5] at hI
      refine W_skip (W_seq (W_block (W_rseqK [1, 3, 5, 19, 20, 21] (jh hX (by simp [h2, h5]; rfl)) ?_)))
      refine W_rseqK [1, 3, 19, 20, 21, 39] (js hX 1 (by simp [h2, h5]; rfl) (jc [] (c:=(by apply ct_impl_InsRight <;> first | assumption | omega | (have := mem_sum (f := sizeI) (List.getElem_mem (l := x.code) (n := i) (by omega)); simp only [sizeI] at *; omega))) (a:=cb_impl_InsRight) (k:=(jt 2 (k:=(jm 11 28 [1, 3, 19, 20, 21, 39] (p:=fun b7_4 => by (try simp at b7_4); exact (jh hX (by simp [-atD_lt, -atL_lt]; rfl))) (q:=fun b7_4 => by (try simp at b7_4); exact (js hX 2 (by simp [-atD_lt, -atL_lt, h2, h5]; rfl) (Runs.call [] rfl (by simp) rfl (by simp [-atD_lt, -atL_lt]; rfl) (by simp; rfl) (by apply ct_impl_OpForm <;> first | assumption | omega | (have := mem_sum (f := sizeI) (List.getElem_mem (l := x.code) (n := i) (by omega)); simp only [sizeI] at *; omega)) cb_impl_OpForm (by simp) (by simp) (by simp [-atD_lt, -atL_lt]; rfl) (js hX 2 (by simp [-atD_lt, -atL_lt]; rfl) (jm 5 33 [1, 3, 19, 20, 21, 28, 38] (p:=fun b7_9 => by (try simp at b7_9); exact (jh hX (by simp [-atD_lt, -atL_lt, h2, h5]; rfl))) (q:=fun b7_9 => by (try simp at b7_9); exact (jh hX (by simp [-atD_lt, -atL_lt]; rfl))) (k:=(jh hX (by simp [-atD_lt, -atL_lt]; rfl)))))))) (k:=jf))))))) ?_
      refine jd (fun h7 => ?_) (fun h7 => ?_)
      · try simp at h7
        refine jq [2] ?_
        refine W_ret (je (by simp [h2, h5, h7]; rfl) ?_)
        have : codeOK x.code.length x.code[i] = false := by unfold codeOK; grind
        simp [← hI, this]
      · try simp at h7
        have h7b : codeOK x.code.length x.code[i] = true := by unfold codeOK; grind
        rw [h7b, Bool.true_and] at hI
        refine W_skip (W_reg (jh hX (by simp; (try (simp (disch := omega) only [wrap_i64]; (try simp))); rfl)) ?_)
        refine round_endT (i + 1) [1, 3, 19, 20, 21] 2 (by simp [hX]) (by simp) (by simp [h2, h5, h7]; try (simp (disch := omega) only [wrap_i64])) ?_ ?_
        · exact ⟨by omega, hI⟩
        · omega
    · try simp at h5
      rw [List.drop_eq_nil_of_le h5] at hI
      refine W_exit (W_rseqK [2] (js hX 3 (by simp [h2, h5]; rfl) (jB (c:=(by apply ct_slices_ContainsFunc_impl_Handler_impl_Handler <;> first | assumption | omega | (intro y hy; have := mem_sum (f := sizeH) hy; simp only [sizeH] at *; omega))) (a:=cb_slices_ContainsFunc_impl_Handler_impl_Handler) (k:=jr))) ?_)
      refine W_ret (je (by simp [h2, h5]; rfl) ?_)
      have h2b : ¬ (x.code.length < 1 ∨ 60 < x.code.length ∨ 6 < x.hdls.length) := by omega
      rw [decide_eq_false h2b, ← hI]
      simp only [List.all_nil, Bool.true_and, Bool.not_false]
      congr 1
      rw [Bool.eq_iff_iff]
      simp
end Go.Proofs
namespace Go.Proofs
open Go Go.Ev


theorem cb_impl_DescRead : Callable Tryz.prog 265 := ⟨_, Tryz.func265, by kernel_rfl, by kernel_rfl⟩
theorem ct_impl_DescRead {t : Str} (ht : t.length ≤ 1099511627776) : Ct Tryz.prog 265 [.str t] [] (eDO (descRead t)) [] := by
  refine Ct_bodyS tok Tryz.func265 rfl 10 (by kernel_rfl) (by kernel_rfl) fun X hX => ?_
  refine jq [0, 2] ?_
  refine W_seq (W_rseqK [0, 2, 6] (jt 2 (k:=(jB (c:=(by apply (ct_impl_isText (l := [t])) <;> simp)) (a:=cb_impl_isText) (k:=jr)))) ?_)
  refine jd (fun h1 => ?_) (fun h1 => ?_)
  · try simp at h1
    refine jq [2] ?_
    refine W_ret (W_retR (by simp; rfl) ?_ rfl)
    rw [show descRead t = ⟨[], [], 0, 2⟩ from by unfold descRead; rw [if_pos (by simpa using h1)]]
    exact wk_err _ _ _
  · try simp at h1
    refine W_skip (W_rseqK [2] (jt 1 (k:=(jc [] (c:=(by apply ct_impl_descRead <;> first | assumption | omega | (simp at *; omega) | simp_all)) (a:=cb_impl_descRead) (k:=jr)))) ?_)
    refine W_ret (W_retR (by simp; rfl) ?_ rfl)
    rw [show descRead t = dRead t from by unfold descRead; rw [if_neg (by simpa using h1)]]
    exact Wk.refl _
end Go.Proofs
namespace Go.Proofs
open Go Go.Ev


theorem cb_impl_size_string : Callable Tryz.prog 266 := ⟨_, Tryz.func266, by kernel_rfl, by kernel_rfl⟩
theorem ct_impl_size_string {l : List Str} : Ct Tryz.prog 266 [.lst false 1 (l.map V.str)] [] (.int .i64 l.length) [] := by
  refine Ct_bodyS tok Tryz.func266 rfl 5 (by kernel_rfl) (by kernel_rfl) fun X hX => ?_
  refine jq [0] ?_
  refine jq [2] ?_
  refine W_ret (je0 ?_)
  simp
end Go.Proofs
namespace Go.Proofs
open Go Go.Ev


theorem cb_impl_DescSlots : Callable Tryz.prog 260 := ⟨_, Tryz.func260, by kernel_rfl, by kernel_rfl⟩
theorem ct_impl_DescSlots {t : Str} (ht : t.length ≤ 1099511627776) : Ct Tryz.prog 260 [.str t] [] (.int .i64 (dSlots t)) [] := by
  have hd8 := descRead_le t
  refine Ct_bodyS tok Tryz.func260 rfl 13 (by kernel_rfl) (by kernel_rfl) fun X hX => ?_
  refine jq [0] ?_
  refine W_rseqK [3] (jt 1 (k:=(jF (c:=(by apply ct_impl_DescRead <;> first | assumption | omega)) (a:=cb_impl_DescRead) (k:=jr)))) ?_
  refine W_seq (jq [3, 8] ?_)
  refine jd (fun h2 => ?_) (fun h2 => ?_)
  · try simp at h2
    refine jq [2] ?_
    refine W_ret (je0 ?_)
    simp_all [dSlots]
  · try simp at h2
    refine W_skip (W_rseqK [2] (jt 3 (k:=(jc [] (c:=(by apply ct_impl_size_string <;> first | assumption | omega)) (a:=cb_impl_size_string) (k:=jr)))) ?_)
    refine W_ret (je0 ?_)
    simp_all [dSlots]
end Go.Proofs
namespace Go.Proofs
open Go Go.Ev


theorem cb_impl_Method_slots : Callable Tryz.prog 247 := ⟨_, Tryz.func247, by kernel_rfl, by kernel_rfl⟩
theorem ct_impl_Method_slots {x : Mth} (h : x.desc.length ≤ 1099511627776) : Ct Tryz.prog 247 [eM x] [] (.int .i64 (dSlots x.desc + if x.static = true then 0 else 1)) [] := by
  refine Ct_bodyS tok Tryz.func247 rfl 13 (by kernel_rfl) (by kernel_rfl) fun X hX => ?_
  refine jq [1] ?_
  refine W_rseqK [1, 3] (jt 2 (k:=(jc [] (c:=(by apply ct_impl_DescSlots <;> first | assumption | omega | (simp at *; omega) | simp_all)) (a:=cb_impl_DescSlots) (k:=jr)))) ?_
  have hd8 := dSlots_le x.desc
  have hw : IntKind.i64.wrap (dSlots x.desc + 1) = dSlots x.desc + 1 := wrap_i64 (by omega) (by omega)
  refine W_seq (jq [3, 9] ?_)
  refine' W_condS3 [3] (by simp; rfl) (by rfl) (fun h2 => ?a1_1) (fun h2 => ?a0_1) ?ak_1
  case a1_1 =>
    try simp at h2
    refine W_reg (jh hX (by simp; (try (simp (disch := omega) only [wrap_i64]; (try simp))); rfl)) ?_
    exact ⟨rfl, Eq.trans (by (try simp); rfl) (by rfl)⟩
  case a0_1 =>
    try simp at h2
    refine W_skip ?_
    exact ⟨rfl, Eq.trans (by (try simp); rfl) (by rfl)⟩
  case ak_1 =>
    refine W_le (Le.of_eq (by simp; rfl)) ?_
    refine jq [2] ?_
    refine W_ret (je0 ?_)
    cases hst : x.static <;> simp_all
end Go.Proofs
namespace Go.Proofs
open Go Go.Ev


theorem cb_impl_MethodRight : Callable Tryz.prog 219 := ⟨_, Tryz.func219, by kernel_rfl, by kernel_rfl⟩
theorem ct_impl_MethodRight {x : Mth} (h : sizeM x ≤ 1099511627776) : Ct Tryz.prog 219 [eM x] [] (.bool (mthRight x)) [] := by
  have hM := h
  simp only [sizeM] at h
  refine Ct_bodyS tok Tryz.func219 rfl 93 (by kernel_rfl) (by kernel_rfl) fun X hX => ?_
  refine jq [1] ?_
  refine W_seq (W_rseqK [1, 24] (jt 2 (k:=(jc [] (c:=(by apply ct_impl_isMethodName <;> first | assumption | omega | (simp at *; omega) | simp_all)) (a:=cb_impl_isMethodName) (k:=(jt 2 (k:=(jm 5 7 [1, 12] (p:=fun b1_5 => by (try simp at b1_5); exact (jh hX (by simp [-atD_lt, -atL_lt]; rfl))) (q:=fun b1_5 => by (try simp at b1_5); exact (js hX 2 (by simp [-atD_lt, -atL_lt]; rfl) (Runs.call [] rfl (by simp) rfl (by simp [-atD_lt, -atL_lt]; rfl) (by simp; rfl) (by apply ct_impl_isDesc <;> first | assumption | omega | (simp at *; omega) | simp_all) cb_impl_isDesc (by simp) (by simp) (by simp [-atD_lt, -atL_lt]; rfl) (jh hX (by simp [-atD_lt, -atL_lt]; rfl))))) (k:=(jt 1 (k:=(jm 5 13 [1, 18] (p:=fun b1_11 => by (try simp at b1_11); exact (jh hX (by simp [-atD_lt, -atL_lt]; rfl))) (q:=fun b1_11 => by (try simp at b1_11); exact (js hX 2 (by simp [-atD_lt, -atL_lt]; rfl) (Runs.call [] rfl (by simp) rfl (by simp [-atD_lt, -atL_lt]; rfl) (by simp; rfl) (by apply ct_impl_within <;> first | assumption | omega | (simp at *; omega) | simp_all) cb_impl_within (by simp) (by simp) (by simp [-atD_lt, -atL_lt]; rfl) (jh hX (by simp [-atD_lt, -atL_lt]; rfl))))) (k:=(jt 1 (k:=(jm 5 19 [1, 24] (p:=fun b1_17 => by (try simp at b1_17); exact (jh hX (by simp [-atD_lt, -atL_lt]; rfl))) (q:=fun b1_17 => by (try simp at b1_17); exact (js hX 2 (by simp [-atD_lt, -atL_lt]; rfl) (Runs.call [] rfl (by simp) rfl (by simp [-atD_lt, -atL_lt]; rfl) (by simp; rfl) (by apply ct_impl_within <;> first | assumption | omega | (simp at *; omega) | simp_all) cb_impl_within (by simp) (by simp) (by simp [-atD_lt, -atL_lt]; rfl) (jh hX (by simp [-atD_lt, -atL_lt]; rfl))))) (k:=jf)))))))))))))))) ?_)
  refine jd (fun h1 => ?_) (fun h1 => ?_)
  · try simp at h1
    have hh : mthHead x = false := by unfold mthHead; grind
    refine jq [2] ?_
    refine W_ret (je0 ?_)
    rw [mthRight_no hh]
  · try simp at h1
    have hh : mthHead x = true := by unfold mthHead; grind
    refine W_skip (W_seq (jq [1, 26] ?_))
    refine jd (fun h3 => ?_) (fun h3 => ?_)
    · try simp at h3
      refine W_rseqK [2] (jt 4 (k:=(jm 4 30 [1, 34] (p:=fun b4_4 => by (try simp at b4_4); exact (jh hX (by simp [-atD_lt, -atL_lt]; rfl))) (q:=fun b4_4 => by (try simp at b4_4); exact (jh hX (by simp [-atD_lt, -atL_lt]; rfl))) (k:=(jt 1 (k:=(jm 5 35 [1, 40] (p:=fun b4_9 => by (try simp at b4_9); exact (jh hX (by simp [-atD_lt, -atL_lt]; rfl))) (q:=fun b4_9 => by (try simp at b4_9); exact (jh hX (by simp [-atD_lt, -atL_lt]; rfl))) (k:=(jt 1 (k:=(jm 5 41 [1, 46] (p:=fun b4_15 => by (try simp at b4_15); exact (jh hX (by simp [-atD_lt, -atL_lt]; rfl))) (q:=fun b4_15 => by (try simp at b4_15); exact (jh hX (by simp [-atD_lt, -atL_lt]; rfl))) (k:=(jt 1 (k:=(jm 4 47 [1, 51] (p:=fun b4_21 => by (try simp at b4_21); exact (jh hX (by simp [-atD_lt, -atL_lt]; rfl))) (q:=fun b4_21 => by (try simp at b4_21); exact (jh hX (by simp [-atD_lt, -atL_lt]; rfl))) (k:=(jt 1 (k:=(jm 4 52 [1, 56] (p:=fun b4_26 => by (try simp at b4_26); exact (jh hX (by simp [-atD_lt, -atL_lt]; rfl))) (q:=fun b4_26 => by (try simp at b4_26); exact (jh hX (by simp [-atD_lt, -atL_lt]; rfl))) (k:=(jt 1 (k:=(jm 4 57 [61] (p:=fun b4_31 => by (try simp at b4_31); exact (jh hX (by simp [-atD_lt, -atL_lt]; rfl))) (q:=fun b4_31 => by (try simp at b4_31); exact (jh hX (by simp [-atD_lt, -atL_lt]; rfl))) (k:=jr)))))))))))))))))))))))) ?_
      refine W_ret (je0 ?_)
      rw [mthRight_abs hh h3]
      simp [init]; grind
    · try simp at h3
      rw [mthRight_eq hh h3]
      refine W_skip (W_seq (jD [1, 71] (jS 1 (by simp; rfl) (jC (c:=by apply ct_impl_codeRight <;> first | assumption | omega | (simp at *; omega) | simp_all) (a:=cb_impl_codeRight) (k:=(jS 2 (by simp; rfl) (jM 6 65 [1, 71] (p:=fun b5_4 => by (try simp at b5_4); exact (jQ (by simp [-atD_lt, -atL_lt]; rfl))) (q:=fun b5_4 => by (try simp at b5_4); exact (jS 3 (by simp [-atD_lt, -atL_lt]; rfl) (jC (c:=by apply ct_impl_Method_slots <;> first | assumption | omega | (simp at *; omega) | simp_all) (a:=cb_impl_Method_slots) (k:=(jQ (by simp [-atD_lt, -atL_lt]; rfl)))))) (k:=(RunsQ.fin (by (try simp); rfl)))))))) ?_))
      refine jd (fun h5 => ?_) (fun h5 => ?_)
      · try simp at h5
        refine jq [2] ?_
        refine W_ret (je (by simp [h5]; rfl) ?_)
        rcases h5 with h5 | h5
        · simp [h5]
        · rw [decide_eq_false (p := _ ≤ _) (by omega)]; simp
      · try simp at h5
        refine W_skip (W_rseqK [2] (js hX 4 (by simp [h5]; rfl) (jm 17 75 [92] (p:=fun b7_4 => by (try simp at b7_4); exact (jh hX (by simp [-atD_lt, -atL_lt]; rfl))) (q:=fun b7_4 => by (try simp at b7_4); exact (js hX 4 (by simp [-atD_lt, -atL_lt, h5]; rfl) (jm 4 79 [1, 75, 83] (p:=fun b7_8 => by (try simp at b7_8); exact (jh hX (by simp [-atD_lt, -atL_lt, h5]; rfl))) (q:=fun b7_8 => by (try simp at b7_8); exact (jh hX (by simp [-atD_lt, -atL_lt]; rfl))) (k:=(js hX 1 (by simp [-atD_lt, -atL_lt]; rfl) (jm 7 84 [75, 91] (p:=fun b7_13 => by (try simp at b7_13); exact (js hX 2 (by simp [-atD_lt, -atL_lt, h5]; rfl) (Runs.callF rfl (by simp) rfl (by simp [-atD_lt, -atL_lt]; rfl) (by apply ct_impl_descRead <;> first | assumption | omega | (simp at *; omega) | simp_all) cb_impl_descRead (by simp [-atD_lt, -atL_lt]; rfl) (jh hX (by simp [-atD_lt, -atL_lt]; rfl))))) (q:=fun b7_13 => by (try simp at b7_13); exact (jh hX (by simp [-atD_lt, -atL_lt]; rfl))) (k:=(jh hX (by simp [-atD_lt, -atL_lt]; rfl))))))))) (k:=jr))) ?_)
        refine W_ret (je (by simp [h5]; rfl) ?_)
        rw [h5.1, decide_eq_true h5.2]
        simp only [Bool.true_and, init]
        congr 1
end Go.Proofs
namespace Go.Proofs
open Go Go.Ev


theorem cb_impl_ClassRight : Callable Tryz.prog 168 := ⟨_, Tryz.func168, by kernel_rfl, by kernel_rfl⟩
theorem ct_impl_ClassRight {x : Cls} (h : sizeC x ≤ 1099511627776) : Ct Tryz.prog 168 [eC x] [] (.bool (clsRight x)) [] := by
  simp only [sizeC] at h
  refine Ct_bodyS tok Tryz.func168 rfl 102 (by kernel_rfl) (by kernel_rfl) fun X hX => ?_
  refine jq [1] ?_
  refine W_seq (W_rseqK [1, 43] (jt 2 (k:=(jc [] (c:=(by apply ct_impl_NameRight <;> first | assumption | omega | (have := mem_sum (f := sizeF) (List.getElem_mem h4); simp only [sizeF] at *; (try simp only [atL_lt h4]); omega) | (have := mem_sum (f := sizeM) (List.getElem_mem h10); (try simp only [atL_lt h10]); omega))) (a:=cb_impl_NameRight) (k:=(jt 2 (k:=(jm 5 11 [1, 16] (p:=fun b1_5 => by (try simp at b1_5); exact (jh hX (by simp [-atD_lt, -atL_lt]; rfl))) (q:=fun b1_5 => by (try simp at b1_5); exact (js hX 2 (by simp [-atD_lt, -atL_lt]; rfl) (Runs.call [] rfl (by simp) rfl (by simp [-atD_lt, -atL_lt]; rfl) (by simp; rfl) (by apply ct_impl_NameRight <;> first | assumption | omega | (have := mem_sum (f := sizeF) (List.getElem_mem h4); simp only [sizeF] at *; (try simp only [atL_lt h4]); omega) | (have := mem_sum (f := sizeM) (List.getElem_mem h10); (try simp only [atL_lt h10]); omega)) cb_impl_NameRight (by simp) (by simp) (by simp [-atD_lt, -atL_lt]; rfl) (jh hX (by simp [-atD_lt, -atL_lt]; rfl))))) (k:=(jt 1 (k:=(jm 6 17 [1, 23] (p:=fun b1_11 => by (try simp at b1_11); exact (jh hX (by simp [-atD_lt, -atL_lt]; rfl))) (q:=fun b1_11 => by (try simp at b1_11); exact (jh hX (by simp [-atD_lt, -atL_lt]; rfl))) (k:=(jt 1 (k:=(jm 7 24 [1, 31] (p:=fun b1_18 => by (try simp at b1_18); exact (jh hX (by simp [-atD_lt, -atL_lt]; rfl))) (q:=fun b1_18 => by (try simp at b1_18); exact (js hX 3 (by simp [-atD_lt, -atL_lt]; rfl) (jm 3 27 [1, 24, 30] (p:=fun b1_21 => by (try simp at b1_21); exact (jh hX (by simp [-atD_lt, -atL_lt]; rfl))) (q:=fun b1_21 => by (try simp at b1_21); exact (jh hX (by simp [-atD_lt, -atL_lt]; rfl))) (k:=(jh hX (by simp [-atD_lt, -atL_lt]; rfl)))))) (k:=(jt 1 (k:=(jm 5 32 [1, 37] (p:=fun b1_26 => by (try simp at b1_26); exact (jh hX (by simp [-atD_lt, -atL_lt]; rfl))) (q:=fun b1_26 => by (try simp at b1_26); exact (jh hX (by simp [-atD_lt, -atL_lt]; rfl))) (k:=(jt 1 (k:=(jm 5 38 [1, 43] (p:=fun b1_32 => by (try simp at b1_32); exact (jh hX (by simp [-atD_lt, -atL_lt]; rfl))) (q:=fun b1_32 => by (try simp at b1_32); exact (jh hX (by simp [-atD_lt, -atL_lt, b1_32]; rfl))) (k:=jf)))))))))))))))))))))))) ?_)
  refine jd (fun h1 => ?_) (fun h1 => ?_)
  · try simp at h1
    have hh : clsHead x = false := by unfold clsHead; grind
    refine jq [2] ?_
    refine W_ret (je (by simp [h1]; rfl) ?_)
    simp [clsRight, hh]
  · try simp at h1
    have hh : clsHead x = true := by unfold clsHead; grind
    rw [show clsRight x = (fldsR [] x.fields && mthsR x.abstr [] x.methods) from by simp [clsRight, hh]]
    refine W_skip (W_seq (W_rseqK [1, 45, 46, 47] (jh hX (by simp [h1]; rfl)) ?_))
    refine W_block (W_loopU (α := Nat) [1, 45, 46, 47] (fun i => [(47, .int .i64 i)]) (fun i => []) (fun i => i ≤ x.fields.length ∧ fldsR (x.fields.take i) (x.fields.drop i) = fldsR [] x.fields) (fun i => x.fields.length - i) (0) (fun i => by simp; rfl) (by simp) ?_ ?_)
    · simp
    rintro i ⟨hi, hI⟩
    refine jq [1, 45, 46, 47, 48] ?_
    refine W_seq (jd (fun h4 => ?_) (fun h4 => ?_))
    · try simp at h4
      rw [List.drop_eq_getElem_cons h4] at hI
      simp only [fldsR] at hI
      have hfx := fix_first (p := fun f : Fld => decide (f.name = x.fields[i].name)) h4 (by simp)
      refine W_skip (W_seq (W_block (W_rseqK [1, 3, 4, 45, 46, 47] (jh hX (by simp [h1, h4]; rfl)) ?_)))
      refine W_rseqK [1, 45, 46, 47, 69] (js hX 2 (by simp [h1, h4]; rfl) (jc [] (c:=(by apply ct_impl_NameRight <;> first | assumption | omega | (have := mem_sum (f := sizeF) (List.getElem_mem h4); simp only [sizeF] at *; (try simp only [atL_lt h4]); omega) | (have := mem_sum (f := sizeM) (List.getElem_mem h10); (try simp only [atL_lt h10]); omega))) (a:=cb_impl_NameRight) (k:=(jt 2 (k:=(jm 5 56 [1, 3, 4, 45, 46, 47, 61] (p:=fun b6_5 => by (try simp at b6_5); exact (jh hX (by simp [-atD_lt, -atL_lt]; rfl))) (q:=fun b6_5 => by (try simp at b6_5); exact (js hX 2 (by simp [-atD_lt, -atL_lt, h1, h4]; rfl) (Runs.call [] rfl (by simp) rfl (by simp [-atD_lt, -atL_lt]; rfl) (by simp; rfl) (by apply ct_impl_typeRight <;> first | assumption | omega | (have := mem_sum (f := sizeF) (List.getElem_mem h4); simp only [sizeF] at *; (try simp only [atL_lt h4]); omega) | (have := mem_sum (f := sizeM) (List.getElem_mem h10); (try simp only [atL_lt h10]); omega)) cb_impl_typeRight (by simp) (by simp) (by simp [-atD_lt, -atL_lt]; rfl) (jh hX (by simp [-atD_lt, -atL_lt]; rfl))))) (k:=(jt 1 (k:=(jm 7 62 [1, 45, 46, 47, 69] (p:=fun b6_11 => by (try simp at b6_11); exact (jh hX (by simp [-atD_lt, -atL_lt]; rfl))) (q:=fun b6_11 => by (try simp at b6_11); exact (js hX 3 (by simp [-atD_lt, -atL_lt, h1, h4]; rfl) (Runs.call [] rfl (by simp) rfl (by simp [-atD_lt, -atL_lt]; rfl) (by simp; rfl) (by apply ct_impl_Class_fieldAt <;> first | assumption | omega | (have := mem_sum (f := sizeF) (List.getElem_mem h4); simp only [sizeF] at *; (try simp only [atL_lt h4]); omega) | (have := mem_sum (f := sizeM) (List.getElem_mem h10); (try simp only [atL_lt h10]); omega)) cb_impl_Class_fieldAt (by simp) (by simp) (by simp [-atD_lt, -atL_lt]; rfl) (jh hX (by simp [-atD_lt, -atL_lt]; rfl))))) (k:=jf))))))))))) ?_
      refine jd (fun h6 => ?_) (fun h6 => ?_)
      · try simp at h6
        refine jq [2] ?_
        refine W_ret (je (by simp [h1, h4]; rfl) ?_)
        have h6b : (nameRight x.fields[i].name && typeRight x.fields[i].type && (x.fields.take i).all (fun g => !decide (g.name = x.fields[i].name))) = false := by rw [← hfx]; grind
        rw [← hI, h6b]; rfl
      · try simp at h6
        have h6b : (nameRight x.fields[i].name && typeRight x.fields[i].type && (x.fields.take i).all (fun g => !decide (g.name = x.fields[i].name))) = true := by rw [← hfx]; grind
        refine W_skip (W_reg (jh hX (by simp; (try (simp (disch := omega) only [wrap_i64]; (try simp))); rfl)) ?_)
        refine round_endT (i + 1) [1, 45, 46, 47] 1 (by simp [hX]) (by simp) (by simp [h1, h4]; try (simp (disch := omega) only [wrap_i64])) ?_ ?_
        · exact ⟨by omega, by rw [List.take_succ_eq_append_getElem h4, ← hI, h6b]; simp⟩
        · omega
    · try simp at h4
      rw [List.drop_eq_nil_of_le h4] at hI
      simp only [fldsR] at hI
      rw [← hI, Bool.true_and]
      refine W_exit (W_seq (W_rseqK [1, 72, 73, 74] (jh hX (by simp [h1, h4]; rfl)) ?_))
      refine W_block (W_loopU (α := Nat) [1, 72, 73, 74] (fun i => [(74, .int .i64 i)]) (fun i => []) (fun i => i ≤ x.methods.length ∧ mthsR x.abstr (x.methods.take i) (x.methods.drop i) = mthsR x.abstr [] x.methods) (fun i => x.methods.length - i) (0) (fun i => by simp; rfl) (by simp) ?_ ?_)
      · simp
      rintro i ⟨hi2, hI2⟩
      refine jq [1, 72, 73, 74, 75] ?_
      refine W_seq (jd (fun h10 => ?_) (fun h10 => ?_))
      · try simp at h10
        rw [List.drop_eq_getElem_cons h10] at hI2
        simp only [mthsR] at hI2
        have hfx := fix_first (p := fun m : Mth => decide (m.name = x.methods[i].name) && decide (m.desc = x.methods[i].desc)) h10 (by simp)
        refine W_skip (W_seq (W_block (W_rseqK [1, 5, 6, 72, 73, 74] (jh hX (by simp [h1, h4, h10]; rfl)) ?_)))
        refine W_rseqK [1, 72, 73, 74, 100] (js hX 1 (by simp [h1, h4, h10]; rfl) (jc [] (c:=(by apply ct_impl_MethodRight <;> first | assumption | omega | (have := mem_sum (f := sizeF) (List.getElem_mem h4); simp only [sizeF] at *; (try simp only [atL_lt h4]); omega) | (have := mem_sum (f := sizeM) (List.getElem_mem h10); (try simp only [atL_lt h10]); omega))) (a:=cb_impl_MethodRight) (k:=(jt 2 (k:=(jm 8 82 [1, 5, 6, 72, 73, 74, 90] (p:=fun b12_4 => by (try simp at b12_4); exact (jh hX (by simp [-atD_lt, -atL_lt]; rfl))) (q:=fun b12_4 => by (try simp at b12_4); exact (js hX 3 (by simp [-atD_lt, -atL_lt, h1, h4, h10]; rfl) (jm 4 85 [1, 5, 6, 72, 73, 74, 82, 89] (p:=fun b12_7 => by (try simp at b12_7); exact (jh hX (by simp [-atD_lt, -atL_lt, h1, h4, h10]; rfl))) (q:=fun b12_7 => by (try simp at b12_7); exact (jh hX (by simp [-atD_lt, -atL_lt]; rfl))) (k:=(jh hX (by simp [-atD_lt, -atL_lt]; rfl)))))) (k:=(jt 1 (k:=(jm 9 91 [1, 72, 73, 74, 100] (p:=fun b12_13 => by (try simp at b12_13); exact (jh hX (by simp [-atD_lt, -atL_lt]; rfl))) (q:=fun b12_13 => by (try simp at b12_13); exact (js hX 5 (by simp [-atD_lt, -atL_lt, h1, h4, h10]; rfl) (Runs.call [] rfl (by simp) rfl (by simp [-atD_lt, -atL_lt]; rfl) (by simp; rfl) (by apply ct_impl_Class_methodAt <;> first | assumption | omega | (have := mem_sum (f := sizeF) (List.getElem_mem h4); simp only [sizeF] at *; (try simp only [atL_lt h4]); omega) | (have := mem_sum (f := sizeM) (List.getElem_mem h10); (try simp only [atL_lt h10]); omega)) cb_impl_Class_methodAt (by simp) (by simp) (by simp [-atD_lt, -atL_lt]; rfl) (jh hX (by simp [-atD_lt, -atL_lt]; rfl))))) (k:=jf))))))))))) ?_
        refine jd (fun h12 => ?_) (fun h12 => ?_)
        · try simp at h12
          refine jq [2] ?_
          refine W_ret (je (by simp [h1, h4, h10]; rfl) ?_)
          have h12b : (mthRight x.methods[i] && !(x.methods[i].abstr && !x.abstr) && (x.methods.take i).all (fun g => !(decide (g.name = x.methods[i].name) && decide (g.desc = x.methods[i].desc)))) = false := by rw [← hfx]; grind
          rw [← hI2, h12b]; rfl
        · try simp at h12
          have h12b : (mthRight x.methods[i] && !(x.methods[i].abstr && !x.abstr) && (x.methods.take i).all (fun g => !(decide (g.name = x.methods[i].name) && decide (g.desc = x.methods[i].desc)))) = true := by rw [← hfx]; grind
          refine W_skip (W_reg (jh hX (by simp; (try (simp (disch := omega) only [wrap_i64]; (try simp))); rfl)) ?_)
          refine round_endT (i + 1) [1, 72, 73, 74] 1 (by simp [hX]) (by simp) (by simp [h1, h4, h10]; try (simp (disch := omega) only [wrap_i64])) ?_ ?_
          · exact ⟨by omega, by rw [List.take_succ_eq_append_getElem h10, ← hI2, h12b]; simp⟩
          · omega
      · try simp at h10
        rw [List.drop_eq_nil_of_le h10] at hI2
        simp only [mthsR] at hI2
        rw [← hI2]
        refine W_exit (jq [2] ?_)
        refine W_ret (je (by simp [h1, h4, h10]; rfl) ?_)
        simp
end Go.Proofs
namespace Go.Proofs
open Go Go.Ev


theorem cb_impl_world_check_1 : Callable Tryz.prog 167 := ⟨_, Tryz.func167, by kernel_rfl, by kernel_rfl⟩
theorem ct_impl_world_check_1 {l : List Cls} (hl : l.length ≤ 1099511627776) {c : Cls} {k : Int} (h : sizeC c ≤ 1099511627776) : Ct Tryz.prog 167 [.int .i64 k, eC c, .fp [wv l]] [] (.int .i64 (pI1 l c k)) [] := by
  refine Ct_bodyS tok Tryz.func167 rfl 25 (by kernel_rfl) (by kernel_rfl) fun X hX => ?_
  refine jq [0, 2, 4] ?_
  refine W_seq (W_block (W_rseqK [0, 2, 4, 6] (jt 1 (k:=(jc [] (c:=(by apply ct_impl_ClassRight <;> first | assumption | omega | (simp at *; omega) | simp_all)) (a:=cb_impl_ClassRight) (k:=jr)))) ?_))
  refine jd (fun h1 => ?_) (fun h1 => ?_)
  · try simp at h1
    refine jq [5] ?_
    refine W_ret (je0 ?_)
    simp only [pI1]
    simp_all
  · try simp at h1
    refine jD [10] (jS 2 (by simp; rfl) (jC (c:=by apply ct_impl_isBuiltIn <;> first | assumption | omega | (simp at *; omega) | simp_all) (a:=cb_impl_isBuiltIn) (k:=(jS 1 (by simp; rfl) (jM 10 14 [24] (p:=fun b3_4 => by (try simp at b3_4); exact (jQ (by simp [-atD_lt, -atL_lt]; rfl))) (q:=fun b3_4 => by (try simp at b3_4); exact (jQ (by simp [-atD_lt, -atL_lt]; rfl))) (k:=(jQ (by simp; rfl)))))))) ?_
    refine jd (fun h3 => ?_) (fun h3 => ?_)
    · try simp at h3
      refine jq [5] ?_
      refine W_ret (je0 ?_)
      simp only [pI1]
      simp_all
    · try simp at h3
      refine W_skip (jq [5] ?_)
      refine W_ret (je0 ?_)
      simp only [pI1]
      simp_all
end Go.Proofs
namespace Go.Proofs
open Go Go.Ev


theorem cb_impl_world_class : Callable Tryz.prog 123 := ⟨_, Tryz.func123, by kernel_rfl, by kernel_rfl⟩
theorem ct_impl_world_class {l : List Cls} {n : Str} (hl : l.length ≤ 1099511627776) : Ct Tryz.prog 123 [wv l, .str n] [] (.tup [eC (clsOf l n), .bool (decide (0 ≤ findFrom n l 0))]) [] := by
  refine Ct_bodyS tok Tryz.func123 rfl 27 (by kernel_rfl) (by kernel_rfl) fun X hX => ?_
  refine jq [0, 1, 4] ?_
  refine jq [0, 4, 6, 7] ?_
  refine W_seq (jq [0, 4, 6, 18] ?_)
  refine jd (fun h2 => ?_) (fun h2 => ?_)
  · try simp at h2
    refine jq [4, 5] ?_
    refine W_ret (W_retR (by simp; rfl) ?_ rfl)
    rw [clsOf_none (by omega), decide_eq_false (p := 0 ≤ findFrom n l 0) (by omega)]
    exact Wk.tup (.cons wk_zC (.cons (Wk.refl _) .nil))
  · try simp at h2
    obtain ⟨i, hi, hf, hp, hcl, _⟩ := clsOf_found h2
    refine W_skip (W_rseqK [4, 5] (jh hX (by simp [hi, hp]; rfl)) ?_)
    refine W_ret (W_retR (by simp [hi, hp]; rfl) ?_ rfl)
    rw [hcl, decide_eq_true h2]
    exact Wk.refl _
end Go.Proofs
namespace Go.Proofs
open Go Go.Ev


theorem cb_impl_world_known : Callable Tryz.prog 127 := ⟨_, Tryz.func127, by kernel_rfl, by kernel_rfl⟩
theorem ct_impl_world_known {l : List Cls} {n : Str} (hl : l.length ≤ 1099511627776) : Ct Tryz.prog 127 [wv l, .str n] [] (.bool (isKnown l n)) [] := by
  refine Ct_bodyS tok Tryz.func127 rfl 21 (by kernel_rfl) (by kernel_rfl) fun X hX => ?_
  refine jq [0, 1] ?_
  refine jq [1, 6] ?_
  refine W_rseqK [4] (jt 2 (k:=(jm 3 17 [20] (p:=fun b2_2 => by (try simp at b2_2); exact (jh hX (by simp [-atD_lt, -atL_lt]; rfl))) (q:=fun b2_2 => by (try simp at b2_2); exact (js hX 1 (by simp [-atD_lt, -atL_lt]; rfl) (Runs.call [] rfl (by simp) rfl (by simp [-atD_lt, -atL_lt]; rfl) (by simp; rfl) (by apply ct_impl_isBuiltIn <;> first | assumption | omega | (simp at *; omega) | simp_all) cb_impl_isBuiltIn (by simp) (by simp) (by simp [-atD_lt, -atL_lt]; rfl) (jh hX (by simp [-atD_lt, -atL_lt]; rfl))))) (k:=jr)))) ?_
  refine W_ret (je0 ?_)
  unfold isKnown
  simp_all [bIn, Bool.or_comm]
end Go.Proofs
namespace Go.Proofs
open Go Go.Ev


theorem cb_impl_world_superCode : Callable Tryz.prog 170 := ⟨_, Tryz.func170, by kernel_rfl, by kernel_rfl⟩
theorem ct_impl_world_superCode {l : List Cls} (hl : l.length ≤ 1099511627776) {c : Cls} : Ct Tryz.prog 170 [wv l, eC c] [] (.int .i64 (superCode l c)) [] := by
  have hcase : ((decide (0 ≤ findFrom c.super l 0)) = true ∧ (clsOf l c.super).final = true) ∨ ((decide (0 ≤ findFrom c.super l 0)) = true ∧ (clsOf l c.super).final = false) ∨ ((decide (0 ≤ findFrom c.super l 0)) = false ∧ True) := by
    cases decide (0 ≤ findFrom c.super l 0) <;> cases (clsOf l c.super).final <;> simp
  rcases hcase with ⟨hc1, hc2⟩ | ⟨hc1, hc2⟩ | ⟨hc1, hc2⟩
  all_goals
    refine Ct_bodyS tok Tryz.func170 rfl 33 (by kernel_rfl) (by kernel_rfl) fun X hX => ?_
    refine jq [0, 3] ?_
    refine W_rseqK [0, 3, 5, 6] (js hX 3 (by simp [hc1, hc2]; rfl) (jF (c:=(by apply ct_impl_world_class <;> first | assumption | omega | (simp at *; omega) | simp_all)) (a:=cb_impl_world_class) (k:=(jh hX (by simp [hc1, hc2]; rfl))))) ?_
    refine W_seq (W_block (W_rseqK [3, 5, 6, 14] (js hX 3 (by simp [hc1, hc2]; rfl) (jc [] (c:=(by apply ct_impl_world_known <;> first | assumption | omega | (simp at *; omega) | simp_all)) (a:=cb_impl_world_known) (k:=jr))) ?_))
    refine jd (fun h2 => ?_) (fun h2 => ?_)
    · try simp at h2
      refine jq [4] ?_
      refine W_ret (je (by simp [hc1, hc2]; rfl) ?_)
      simp only [superCode]
      (try simp_all) <;> grind
    · try simp at h2
      first | (refine jL 10 [0, 1, 2, 3, 4, 5, 8, 9] [6, 7] [20] ([0, 1]) hX (by simp [hc1, hc2]; rfl) (jH (p:=fun X hX => jr) (k:=(jH (p:=fun X hX => jr) (k:=.nil)))) jr ?_) | (refine jL 10 [0, 1, 2, 3, 4, 5, 8, 9] [6, 7] [20] ([0, 1]) hX (by simp [hc1, hc2]; rfl) (jH (p:=fun X hX => (jc [] (c:=(by apply ct_impl_builtIn <;> first | assumption | omega | (simp at *; omega) | simp_all)) (a:=cb_impl_builtIn) (k:=jf))) (k:=(jH (p:=fun X hX => (jh hX (by simp [hc1, hc2]; rfl))) (k:=.nil)))) (jB (c:=(by apply (ct_slices_Contains_string_string (l := builtIn.drop 2)) <;> first | decide | simp)) (a:=cb_slices_Contains_string_string) (k:=jr)) ?_) | (refine jL 10 [0, 1, 2, 3, 4, 5, 8, 9] [6, 7] [20] ([0, 1]) hX (by simp [hc1, hc2]; rfl) (jH (p:=fun X hX => (jc [] (c:=(by apply ct_impl_builtIn <;> first | assumption | omega | (simp at *; omega) | simp_all)) (a:=cb_impl_builtIn) (k:=jf))) (k:=(jH (p:=fun X hX => (jh hX (by simp [hc1, hc2]; rfl))) (k:=.nil)))) (jB (c:=(by apply (ct_slices_Contains_string_string (l := builtIn.drop 2)) <;> first | decide | simp)) (a:=cb_slices_Contains_string_string) (k:=jr)) ?_)
      refine jd (fun h4 => ?_) (fun h4 => ?_)
      · try simp at h4
        all_goals
          refine jq [4] ?_
          refine W_ret (je (by simp [hc1, hc2]; rfl) ?_)
          simp only [superCode]
          (try simp_all) <;> grind
      · try simp at h4
        all_goals
          refine W_skip (jq [4] ?_)
          refine W_ret (je (by simp [hc1, hc2]; rfl) ?_)
          simp only [superCode]
          (try simp_all) <;> grind
end Go.Proofs
namespace Go.Proofs
open Go Go.Ev


theorem cb_impl_world_check_2 : Callable Tryz.prog 169 := ⟨_, Tryz.func169, by kernel_rfl, by kernel_rfl⟩
theorem ct_impl_world_check_2 {l : List Cls} (hl : l.length ≤ 1099511627776) {c : Cls} {k : Int} : Ct Tryz.prog 169 [.int .i64 k, eC c, .fp [wv l]] [] (.int .i64 (superCode l c)) [] := by
  refine Ct_bodyS tok Tryz.func169 rfl 9 (by kernel_rfl) (by kernel_rfl) fun X hX => ?_
  refine jq [2, 4] ?_
  refine W_rseqK [5] (jt 2 (k:=(jc [] (c:=(by apply ct_impl_world_superCode <;> first | assumption | omega | (simp at *; omega) | simp_all)) (a:=cb_impl_world_superCode) (k:=jr)))) ?_
  refine W_ret (je0 ?_)
  simp_all
end Go.Proofs
namespace Go.Proofs
open Go Go.Ev


theorem cb_impl_codeUnless : Callable Tryz.prog 172 := ⟨_, Tryz.func172, by kernel_rfl, by kernel_rfl⟩
theorem ct_impl_codeUnless {b : Bool} {n : Int} : Ct Tryz.prog 172 [.bool b, .int .i64 n] [] (.int .i64 (if b = true then 0 else n)) [] := by
  refine Ct_bodyS tok Tryz.func172 rfl 7 (by kernel_rfl) (by kernel_rfl) fun X hX => ?_
  refine jq [0, 1] ?_
  refine W_seq (jq [1, 5] ?_)
  refine jd (fun h1 => ?_) (fun h1 => ?_)
  · try simp at h1
    refine jq [4] ?_
    refine W_ret (je0 ?_)
    simp_all
  · try simp at h1
    refine W_skip (jq [4] ?_)
    refine W_ret (je0 ?_)
    simp_all
end Go.Proofs
namespace Go.Proofs
open Go Go.Ev


theorem cb_impl_typeClass : Callable Tryz.prog 208 := ⟨_, Tryz.func208, by kernel_rfl, by kernel_rfl⟩
theorem ct_impl_typeClass {t : Str} (ht : t.length ≤ 1099511627776) : Ct Tryz.prog 208 [.str t] [] (.str (typeClass t)) [] := by
  refine Ct_bodyS tok Tryz.func208 rfl 29 (by kernel_rfl) (by kernel_rfl) fun X hX => ?_
  refine jq [0] ?_
  refine W_seq (W_block (W_rseqK [0, 3] (jt 3 (k:=(jm 3 6 [0, 9] (p:=fun b1_3 => by (try simp at b1_3); exact (jh hX (by simp [-atD_lt, -atL_lt]; rfl))) (q:=fun b1_3 => by (try simp at b1_3); exact (jh hX (by simp [-atD_lt, -atL_lt]; rfl))) (k:=(jt 1 (k:=(jm 4 10 [0, 14] (p:=fun b1_7 => by (try simp at b1_7); exact (jh hX (by simp [-atD_lt, -atL_lt]; rfl))) (q:=fun b1_7 => by (try simp at b1_7); exact (js hX 1 (by simp [-atD_lt, -atL_lt]; rfl) (Runs.call [] rfl (by simp) rfl (by simp [-atD_lt, -atL_lt]; rfl) (by simp; rfl) (by apply ct_impl_typeRight <;> first | assumption | omega | (simp at *; omega) | simp_all) cb_impl_typeRight (by simp) (by simp) (by simp [-atD_lt, -atL_lt]; rfl) (jh hX (by simp [-atD_lt, -atL_lt]; rfl))))) (k:=jr)))))))) ?_))
  refine jd (fun h1 => ?_) (fun h1 => ?_)
  · try simp at h1
    have hx : typeClass t = [] := typeClass_no (fun e => by
      rcases h1 with (h1 | h1) | h1
      · exact .inl h1
      · exact .inr h1
      · rw [h1] at e; cases e)
    refine jq [2] ?_
    refine W_ret (je0 ?_)
    rw [hx]
  · try simp at h1
    obtain ⟨hl1, hl2, hx⟩ := typeClass_eq h1.2 h1.1.1 h1.1.2
    rw [hx]
    have hl0 : 0 < t.length := by omega
    have hat := isAt_lt (n := 91) hl0
    have hs1 : 0 ≤ (t.length : Int) - 1 := by omega
    have hs2 : ((t.length : Int) - 1).toNat = t.length - 1 := by omega
    have hs3 : t.length - 1 ≤ t.length := by omega
    have hs4 : 1 ≤ t.length - 1 := by omega
    have hs6 : 1 ≤ t.length := by omega
    refine W_rseqK [0, 15] (jh hX (by simp [hl0, hs1, hs2, hs3, hs4, hs6]; rfl)) ?_
    refine jd (fun h3 => ?_) (fun h3 => ?_)
    · try simp at h3
      have h3b : isAt t 0 91 = true := by rw [hat]; simpa using h3
      have hs5 : 2 ≤ t.length - 1 := by have := hl2 h3b; omega
      rw [if_pos h3b]
      refine W_rseqK [2] (jh hX (by simp [hl0, hs1, hs2, hs3, hs4, hs6, hs5]; (try (simp (disch := omega) only [wrap_i64]; (try simp [hl0, hs1, hs2, hs3, hs4, hs6, hs5]))); rfl)) ?_
      refine W_ret (je (by simp [hl0, hs1, hs2, hs3, hs4, hs6, hs5]; rfl) ?_)
      simp [seg]
    · try simp at h3
      have h3b : isAt t 0 91 = false := by rw [hat]; simpa using h3
      rw [if_neg (by simp [h3b])]
      refine W_skip (W_rseqK [2] (jh hX (by simp [hl0, hs1, hs2, hs3, hs4, hs6]; (try (simp (disch := omega) only [wrap_i64]; (try simp [hl0, hs1, hs2, hs3, hs4, hs6]))); rfl)) ?_)
      refine W_ret (je (by simp [hl0, hs1, hs2, hs3, hs4, hs6]; rfl) ?_)
      simp [seg]
end Go.Proofs
namespace Go.Proofs
open Go Go.Ev


theorem cb_impl_world_namesOK_1 : Callable Tryz.prog 220 := ⟨_, Tryz.func220, by kernel_rfl, by kernel_rfl⟩
theorem ct_impl_world_namesOK_1 {l : List Cls} (hl : l.length ≤ 1099511627776) {t : Str} (ht : t.length ≤ 1099511627776) : Ct Tryz.prog 220 [.str t, .fp [wv l]] [] (.bool (typeK l t)) [] := by
  refine Ct_bodyS tok Tryz.func220 rfl 14 (by kernel_rfl) (by kernel_rfl) fun X hX => ?_
  refine jq [0, 1] ?_
  refine W_rseqK [1, 4] (jt 1 (k:=(jc [] (c:=(by apply ct_impl_typeClass <;> first | assumption | omega | (simp at *; omega) | simp_all)) (a:=cb_impl_typeClass) (k:=jr)))) ?_
  refine W_rseqK [3] (jt 3 (k:=(jm 4 9 [13] (p:=fun b2_3 => by (try simp at b2_3); exact (jh hX (by simp [-atD_lt, -atL_lt]; rfl))) (q:=fun b2_3 => by (try simp at b2_3); exact (js hX 2 (by simp [-atD_lt, -atL_lt]; rfl) (Runs.call [] rfl (by simp) rfl (by simp [-atD_lt, -atL_lt]; rfl) (by simp; rfl) (by apply ct_impl_world_known <;> first | assumption | omega | (simp at *; omega) | simp_all) cb_impl_world_known (by simp) (by simp) (by simp [-atD_lt, -atL_lt]; rfl) (jh hX (by simp [-atD_lt, -atL_lt]; rfl))))) (k:=jr)))) ?_
  refine W_ret (je0 ?_)
  rw [← typeK_of]
end Go.Proofs
namespace Go.Proofs
open Go Go.Ev


theorem cb_impl_world_namesOK_2 : Callable Tryz.prog 222 := ⟨_, Tryz.func222, by kernel_rfl, by kernel_rfl⟩
theorem ct_impl_world_namesOK_2 {l : List Cls} (hl : l.length ≤ 1099511627776) {t : Str} (ht : t.length ≤ 1099511627776) : Ct Tryz.prog 222 [.str t, .fp [.clo (.func 220) [] [.fp [wv l]]]] [] (.bool (!typeK l t)) [] := by
  refine Ct_bodyS tok Tryz.func222 rfl 8 (by kernel_rfl) (by kernel_rfl) fun X hX => ?_
  refine jq [0, 1] ?_
  refine W_rseqK [3] (jt 2 (k:=(jc [] (c:=(by apply ct_impl_world_namesOK_1 <;> first | assumption | omega | (simp at *; omega) | simp_all)) (a:=cb_impl_world_namesOK_1) (k:=jr)))) ?_
  refine W_ret (je0 ?_)
  simp_all
end Go.Proofs
namespace Go.Proofs
open Go Go.Ev


theorem cb_slices_IndexFunc_string_string : Callable Tryz.prog 248 := ⟨_, Tryz.func248, by kernel_rfl, by kernel_rfl⟩
theorem ct_slices_IndexFunc_string_string {cs : List Cls} (hc : cs.length ≤ 1099511627776) {l : List Str} (hl : l.length ≤ 1099511627776) (hs : ∀ x ∈ l, x.length ≤ 1099511627776) : Ct Tryz.prog 248 [.lst false 1 (l.map V.str), .clo (.func 222) [] [.fp [.clo (.func 220) [] [.fp [wv cs]]]]] [] (.int .i64 (fix (fun t => !typeK cs t) l)) [] := by
  refine Ct_bodyS tok Tryz.func248 rfl 19 (by kernel_rfl) (by kernel_rfl) fun X hX => ?_
  refine jq [0, 1] ?_
  refine W_seq (jq [0, 1, 7, 8] ?_)
  refine W_block (W_loopU (α := Nat) [0, 1, 7, 8] (fun i => [(8, .int .i64 i)]) (fun i => []) (fun i => i ≤ l.length ∧ ∀ x ∈ l.take i, (fun t => !typeK cs t) x = false) (fun i => l.length - i) (0) (fun i => by simp; rfl) (by simp) ?_ ?_)
  · simp
  rintro i ⟨hi, hI⟩
  refine jq [0, 1, 7, 8, 9] ?_
  refine W_seq (jd (fun h2 => ?_) (fun h2 => ?_))
  · try simp at h2
    refine W_skip (W_seq (W_block (jq [0, 1, 5, 7, 8] ?_)))
    refine W_rseqK [0, 1, 5, 7, 8, 16] (js hX 5 (by simp [h2]; rfl) (jc [] (c:=(by apply ct_impl_world_namesOK_2 <;> first | assumption | exact hs _ (List.getElem_mem h2) | omega)) (a:=cb_impl_world_namesOK_2) (k:=jf))) ?_
    refine jd (fun h4 => ?_) (fun h4 => ?_)
    · try simp at h4
      refine jq [4] ?_
      refine W_ret (je (by simp [h2]; rfl) ?_)
      rw [fix_hit h2 hI (by simpa using h4)]
    · try simp at h4
      refine W_skip (W_reg (jh hX (by simp; (try (simp (disch := omega) only [wrap_i64]; (try simp))); rfl)) ?_)
      refine round_end (i + 1) [0, 1, 7, 8] (by simp [h2]; try (simp (disch := omega) only [wrap_i64])) ?_ ?_
      · exact ⟨by omega, take_not h2 hI (by simpa using h4)⟩
      · omega
  · try simp at h2
    refine W_exit (jq [4] ?_)
    refine W_ret (je (by simp [h2]; rfl) ?_)
    rw [fix_none (p := fun t => !typeK cs t) (fun x hx => hI x (by rw [List.take_of_length_le h2]; exact hx))]
end Go.Proofs
namespace Go.Proofs
open Go Go.Ev


theorem cb_slices_ContainsFunc_string_string : Callable Tryz.prog 221 := ⟨_, Tryz.func221, by kernel_rfl, by kernel_rfl⟩
theorem ct_slices_ContainsFunc_string_string {cs : List Cls} (hc : cs.length ≤ 1099511627776) {l : List Str} (hl : l.length ≤ 1099511627776) (hs : ∀ x ∈ l, x.length ≤ 1099511627776) : Ct Tryz.prog 221 [.lst false 1 (l.map V.str), .clo (.func 222) [] [.fp [.clo (.func 220) [] [.fp [wv cs]]]]] [] (.bool (l.any (fun t => !typeK cs t))) [] := by
  refine Ct_bodyS tok Tryz.func221 rfl 9 (by kernel_rfl) (by kernel_rfl) fun X hX => ?_
  refine jq [0, 1] ?_
  refine W_rseqK [4] (jt 2 (k:=(jc [] (c:=(by apply ct_slices_IndexFunc_string_string <;> first | assumption | omega | (simp at *; omega) | simp_all)) (a:=cb_slices_IndexFunc_string_string) (k:=jr)))) ?_
  refine W_ret (je0 ?_)
  rw [← fix_ge]
end Go.Proofs
namespace Go.Proofs
open Go Go.Ev


theorem cb_impl_world_namesOK : Callable Tryz.prog 173 := ⟨_, Tryz.func173, by kernel_rfl, by kernel_rfl⟩
theorem ct_impl_world_namesOK {l : List Cls} (hl : l.length ≤ 1099511627776) {c : Cls} (h : sizeC c ≤ 1099511627776) : Ct Tryz.prog 173 [wv l, eC c] [] (.bool (clsKI l c)) [] := by
  simp only [sizeC] at h
  refine Ct_bodyS tok Tryz.func173 rfl 48 (by kernel_rfl) (by kernel_rfl) fun X hX => ?_
  refine jq [2, 3] ?_
  refine jq [3, 5] ?_
  refine W_seq (jq [3, 5, 13, 14, 15] ?_)
  refine W_block (W_loopU (α := Nat) [3, 5, 13, 14, 15] (fun i => [(15, .int .i64 i)]) (fun i => []) (fun i => i ≤ c.fields.length ∧ (c.fields.drop i).all (fun f => typeK l f.type) = c.fields.all (fun f => typeK l f.type)) (fun i => c.fields.length - i) (0) (fun i => by simp; rfl) (by simp) ?_ ?_)
  · simp
  rintro i ⟨hi, hI⟩
  refine jq [3, 5, 13, 14, 15, 16] ?_
  refine W_seq (jd (fun h3 => ?_) (fun h3 => ?_))
  · try simp at h3
    rw [all_drop h3] at hI
    refine W_skip (W_seq (W_block (W_rseqK [3, 5, 7, 13, 14, 15] (jh hX (by simp [h3]; rfl)) ?_)))
    refine W_rseqK [3, 5, 13, 14, 15, 23] (js hX 3 (by simp [h3]; rfl) (jB (c:=(by apply ct_impl_world_namesOK_1 <;> first | assumption | omega | (have := mem_sum (f := sizeF) (List.getElem_mem h3); simp only [sizeF] at *; (try simp only [atL_lt h3]); omega) | (have := mem_sum (f := sizeM) (List.getElem_mem h9); simp only [sizeM] at *; (try simp only [atL_lt h9]); omega))) (a:=cb_impl_world_namesOK_1) (k:=jr))) ?_
    refine jd (fun h5 => ?_) (fun h5 => ?_)
    · try simp at h5
      refine jq [4] ?_
      refine W_ret (je (by simp [h3]; rfl) ?_)
      simp [clsKI, ← hI, h5]
    · try simp at h5
      rw [h5, Bool.true_and] at hI
      refine W_skip (W_reg (jh hX (by simp; (try (simp (disch := omega) only [wrap_i64]; (try simp))); rfl)) ?_)
      refine round_endT (i + 1) [3, 5, 13, 14, 15] 3 (by simp [hX]) (by simp) (by simp [h3]; try (simp (disch := omega) only [wrap_i64])) ?_ ?_
      · exact ⟨by omega, hI⟩
      · omega
  · try simp at h3
    rw [List.drop_eq_nil_of_le h3] at hI
    refine W_exit (W_seq (W_rseqK [5, 26, 27, 28] (jh hX (by simp [h3]; rfl)) ?_))
    refine W_block (W_loopU (α := Nat) [5, 26, 27, 28] (fun i => [(28, .int .i64 i)]) (fun i => []) (fun i => i ≤ c.methods.length ∧ (c.methods.drop i).all (fun m => descKI l m.desc) = c.methods.all (fun m => descKI l m.desc)) (fun i => c.methods.length - i) (0) (fun i => by simp; rfl) (by simp) ?_ ?_)
    · simp
    rintro i ⟨hi2, hI2⟩
    refine jq [5, 26, 27, 28, 29] ?_
    refine W_seq (jd (fun h9 => ?_) (fun h9 => ?_))
    · try simp at h9
      rw [all_drop h9] at hI2
      have hdp := dRead_parts c.methods[i].desc
      have hd8 := dRead_le c.methods[i].desc
      have hdl : c.methods[i].desc.length ≤ 1099511627776 := by have := mem_sum (f := sizeM) (List.getElem_mem h9); simp only [sizeM] at *; omega
      refine W_skip (W_seq (W_block (W_rseqK [5, 9, 26, 27, 28] (jh hX (by simp [h3, h9]; rfl)) ?_)))
      refine W_rseqK [5, 10, 26, 27, 28] (js hX 2 (by simp [h3, h9]; rfl) (jF (c:=(by apply ct_impl_descRead <;> first | assumption | omega | (have := mem_sum (f := sizeF) (List.getElem_mem h3); simp only [sizeF] at *; (try simp only [atL_lt h3]); omega) | (have := mem_sum (f := sizeM) (List.getElem_mem h9); simp only [sizeM] at *; (try simp only [atL_lt h9]); omega))) (a:=cb_impl_descRead) (k:=(jh hX (by simp [h3, h9]; rfl))))) ?_
      refine W_rseqK [5, 26, 27, 28, 46] (js hX 3 (by simp [h3, h9]; rfl) (jB (c:=(by apply ct_impl_world_namesOK_1 <;> first | assumption | exact Nat.le_trans hdp.1 hdl)) (a:=cb_impl_world_namesOK_1) (k:=(jt 2 (k:=(jm 5 41 [5, 26, 27, 28, 46] (p:=fun b12_6 => by (try simp at b12_6); exact (jh hX (by simp [-atD_lt, -atL_lt]; rfl))) (q:=fun b12_6 => by (try simp at b12_6); exact (js hX 3 (by simp [-atD_lt, -atL_lt, h3, h9]; rfl) (Runs.callB2 rfl (by simp) rfl (by simp [-atD_lt, -atL_lt]; rfl) (by apply ct_slices_ContainsFunc_string_string <;> first | assumption | omega | exact fun x hx => Nat.le_trans (hdp.2 x hx) hdl) cb_slices_ContainsFunc_string_string (by simp) (by simp [-atD_lt, -atL_lt]; rfl) (jh hX (by simp [-atD_lt, -atL_lt]; rfl))))) (k:=jf))))))) ?_
      refine jd (fun h12 => ?_) (fun h12 => ?_)
      · try simp at h12
        refine jq [4] ?_
        refine W_ret (je (by simp [h3, h9]; rfl) ?_)
        have h12b : descKI l c.methods[i].desc = false := by
          rw [Bool.eq_false_iff]
          intro e
          simp only [descKI, Bool.and_eq_true, List.all_eq_true] at e
          rcases h12 with h | ⟨x, hx, h⟩
          · rw [e.1] at h; cases h
          · rw [e.2 x hx] at h; cases h
        simp [clsKI, ← hI2, h12b]
      · try simp at h12
        have h12b : descKI l c.methods[i].desc = true := by
          simp only [descKI, Bool.and_eq_true, List.all_eq_true]
          exact h12
        rw [h12b, Bool.true_and] at hI2
        refine W_skip (W_reg (jh hX (by simp; (try (simp (disch := omega) only [wrap_i64]; (try simp))); rfl)) ?_)
        refine round_endT (i + 1) [5, 26, 27, 28] 3 (by simp [hX]) (by simp) (by simp [h3, h9]; try (simp (disch := omega) only [wrap_i64])) ?_ ?_
        · exact ⟨by omega, hI2⟩
        · omega
    · try simp at h9
      rw [List.drop_eq_nil_of_le h9] at hI2
      refine W_exit (jq [4] ?_)
      refine W_ret (je (by simp [h3, h9]; rfl) ?_)
      simp [clsKI, ← hI, ← hI2]
end Go.Proofs
namespace Go.Proofs
open Go Go.Ev


theorem cb_impl_world_check_3 : Callable Tryz.prog 171 := ⟨_, Tryz.func171, by kernel_rfl, by kernel_rfl⟩
theorem ct_impl_world_check_3 {l : List Cls} (hl : l.length ≤ 1099511627776) {c : Cls} {k : Int} (h : sizeC c ≤ 1099511627776) : Ct Tryz.prog 171 [.int .i64 k, eC c, .fp [wv l]] [] (.int .i64 (pI3 l c)) [] := by
  refine Ct_bodyS tok Tryz.func171 rfl 10 (by kernel_rfl) (by kernel_rfl) fun X hX => ?_
  refine jq [2, 4] ?_
  refine W_rseqK [5] (jt 2 (k:=(jc [] (c:=(by apply ct_impl_world_namesOK <;> first | assumption | omega | (simp at *; omega) | simp_all)) (a:=cb_impl_world_namesOK) (k:=(jc [] (c:=(by apply ct_impl_codeUnless <;> first | assumption | omega | (simp at *; omega) | simp_all)) (a:=cb_impl_codeUnless) (k:=jr)))))) ?_
  refine W_ret (je0 ?_)
  unfold pI3
  rfl
end Go.Proofs
namespace Go.Proofs
open Go Go.Ev


theorem cb_impl_world_super : Callable Tryz.prog 179 := ⟨_, Tryz.func179, by kernel_rfl, by kernel_rfl⟩
theorem ct_impl_world_super {l : List Cls} (hl : l.length ≤ 1099511627776) {n : Str} : Ct Tryz.prog 179 [wv l, .str n] [] (.str (superI l n)) [] := by
  refine Ct_bodyS tok Tryz.func179 rfl 28 (by kernel_rfl) (by kernel_rfl) fun X hX => ?_
  refine jq [0, 1] ?_
  refine W_rseqK [1, 5, 6] (jt 2 (k:=(jF (c:=(by apply ct_impl_world_class <;> first | assumption | omega | (simp at *; omega) | simp_all)) (a:=cb_impl_world_class) (k:=jr)))) ?_
  refine W_seq (W_block (jq [1, 5, 13] ?_))
  refine jd (fun h2 => ?_) (fun h2 => ?_)
  · try simp at h2
    refine jq [4] ?_
    refine W_ret (je0 ?_)
    simp only [superI, sObject, sError]
    (try simp_all) <;> grind
  · try simp at h2
    refine W_rseqK [1, 17] (jt 1 (k:=(jc [] (c:=(by apply ct_impl_isBuiltIn <;> first | assumption | omega | (simp at *; omega) | simp_all)) (a:=cb_impl_isBuiltIn) (k:=(jt 2 (k:=(jm 3 21 [1, 24] (p:=fun b4_4 => by (try simp at b4_4); exact (jh hX (by simp [-atD_lt, -atL_lt]; rfl))) (q:=fun b4_4 => by (try simp at b4_4); exact (jh hX (by simp [-atD_lt, -atL_lt]; rfl))) (k:=jr)))))))) ?_
    refine jd (fun h4 => ?_) (fun h4 => ?_)
    · try simp at h4
      refine jq [4] ?_
      refine W_ret (je0 ?_)
      simp only [superI, sObject, sError]
      (try simp_all) <;> grind
    · try simp at h4
      refine jq [25] ?_
      refine jd (fun h6 => ?_) (fun h6 => ?_)
      · try simp at h6
        refine jq [4] ?_
        refine W_ret (je0 ?_)
        simp only [superI, sObject, sError]
        (try simp_all) <;> grind
      · try simp at h6
        refine W_skip (jq [4] ?_)
        refine W_ret (je0 ?_)
        simp only [superI, sObject, sError]
        (try simp_all) <;> grind
end Go.Proofs
namespace Go.Proofs
open Go Go.Ev


theorem cb_impl_world_chain : Callable Tryz.prog 119 := ⟨_, Tryz.func119, by kernel_rfl, by kernel_rfl⟩
theorem ct_impl_world_chain {l : List Cls} (hl : l.length ≤ 1048576) {n : Str} : Ct Tryz.prog 119 [wv l, .str n] [] (.lst true 1 ((chain l n).map V.str)) [] := by
  refine Ct_bodyS tok Tryz.func119 rfl 24 (by kernel_rfl) (by kernel_rfl) fun X hX => ?_
  refine W_rseqK [0, 1] (jh hX (by simp [Go.Ev.seen]; rfl)) ?_
  refine W_rseqK [0, 1, 5] (jh hX (by simp [Go.Ev.seen]; rfl)) ?_
  refine W_seq (W_block (W_loopU (α := List Str × Str) [0, 1, 5] (fun a => [(1, .str a.2), (5, .arr 0 0 a.1.length)]) (fun a => [(0, some (1, a.1.map V.str))]) (fun a => a.1.length + cMu l a.1 ≤ 8 + l.length ∧ chn l a.1 a.2 = chain l n) (fun a => cMu l a.1) (([], n)) (fun a => by simp; rfl) (by simp) ?_ ?_))
  · exact ⟨by simpa using cMu_le l [], rfl⟩
  rintro ⟨o, s⟩ ⟨hn, hI⟩
  simp only at hn hI
  have w0 : o.length ≤ 1099511627776 := by omega
  have w1 : (o.length + 1) * 16 ≤ 140737488355328 := by omega
  have w2 : o.length ≤ 1099511627775 := by omega
  refine W_seq (W_rseqK [0, 1, 5, 15] (js hX 2 (by simp [Go.Ev.seen]; rfl) (Runs.call [] rfl (by simp) rfl (by simp [Go.Ev.seen]; rfl) (by simp; rfl) (by apply ct_impl_world_known <;> first | assumption | omega | (simp at *; omega) | simp_all) cb_impl_world_known (by simp) (by simp) (by simp [Go.Ev.seen]; rfl) (js hX 1 (by simp [Go.Ev.seen]; rfl) (jm 5 10 [0, 1, 5, 15] (p:=fun b2_4 => by (try simp at b2_4); exact (js hX 2 (by simp [-atD_lt, -atL_lt, Go.Ev.seen]; rfl) (Runs.callB rfl (by simp) rfl (by simp [-atD_lt, -atL_lt, Go.Ev.seen]; rfl) (by apply ct_slices_Contains_string_string <;> first | assumption | omega | (simp at *; omega) | simp_all) cb_slices_Contains_string_string (by simp) (by simp [-atD_lt, -atL_lt, Go.Ev.seen]; rfl) (jh hX (by simp [-atD_lt, -atL_lt, Go.Ev.seen]; rfl))))) (q:=fun b2_4 => by (try simp at b2_4); exact (jh hX (by simp [-atD_lt, -atL_lt, Go.Ev.seen]; rfl))) (k:=jf))))) ?_)
  refine jd (fun h2 => ?_) (fun h2 => ?_)
  · try simp at h2
    have h2b : out o s = false := by
      rw [Bool.eq_false_iff]; intro e
      exact h2.2 _ (out_iff.1 e) rfl
    have hlt := cMu_lt h2.1 h2b
    rw [chn_go h2.1 h2b] at hI
    refine W_skip (W_block (W_rseqK [0, 1, 5] (jh hX (by simp [w1, w2, Go.Ev.seen]; rfl)) ?_))
    refine W_reg (js hX 2 (by simp [Go.Ev.seen]; rfl) (Runs.call [] rfl (by simp) rfl (by simp [Go.Ev.seen]; rfl) (by simp; rfl) (by apply ct_impl_world_super <;> first | assumption | omega | (simp at *; omega) | simp_all) cb_impl_world_super (by simp) (by simp) (by simp [Go.Ev.seen]; rfl) (jh hX (by simp [Go.Ev.seen]; rfl)))) ?_
    refine round_endT ((o ++ [s], superI l s)) [0, 1, 5] 1 (by simp [hX]) (by simp) (by simp [w1, w2]; try (simp (disch := omega) only [wrap_i64])) ?_ ?_
    · exact ⟨by simp; omega, hI⟩
    · exact hlt
  · try simp at h2
    have h2b : ¬ (isKnown l s = true ∧ out o s = false) := fun e => by have h3 := h2 e.1; rw [out_iff.2 h3] at e; cases e.2
    rw [chn_stop h2b] at hI
    refine W_exit (W_rseqK [4] (jh hX (by simp [Go.Ev.seen]; rfl)) ?_)
    refine W_ret (W_retR (by simp [w1, w2, Go.Ev.seen]; rfl) ?_ rfl)
    rw [← hI]
    exact Wk.refl _
end Go.Proofs
namespace Go.Proofs
open Go Go.Ev


theorem cb_impl_world_cycles : Callable Tryz.prog 175 := ⟨_, Tryz.func175, by kernel_rfl, by kernel_rfl⟩
theorem ct_impl_world_cycles {l : List Cls} (hl : l.length ≤ 1048576) {n : Str} (hk : isKnown l n = true) : Ct Tryz.prog 175 [wv l, .str n] [] (.bool (cycI l n)) [] := by
  obtain ⟨ys, hy⟩ := chain_cons hk
  have hcl := chain_len l n
  have hc1 : 0 < (chain l n).length := by rw [hy]; simp
  have hw : ((chain l n).length : Int) - 1 = (((chain l n).length - 1 : Nat) : Int) := by omega
  have hc2 : (chain l n).length - 1 < (chain l n).length := by omega
  have hc3 : IntKind.i64.wrap ((((chain l n).length - 1 : Nat) : Int)) = (((chain l n).length - 1 : Nat) : Int) := wrap_i64 (by omega) (by omega)
  refine Ct_bodyS tok Tryz.func175 rfl 19 (by kernel_rfl) (by kernel_rfl) fun X hX => ?_
  refine W_rseqK [0, 1] (jh hX (by simp [hw, hc2, hc3]; rfl)) ?_
  refine W_rseqK [0, 1, 5] (js hX 2 (by simp [hw, hc2, hc3]; rfl) (Runs.callF rfl (by simp) rfl (by simp [hw, hc2, hc3]; rfl) (by apply ct_impl_world_chain <;> first | assumption | omega) cb_impl_world_chain (by simp [hw, hc2, hc3]; rfl) (jh hX (by simp [hw, hc2, hc3]; rfl)))) ?_
  refine W_rseqK [4] (js hX 7 (by simp [hw, hc2, hc3]; (try (simp (disch := omega) only [wrap_i64]; (try simp [hw, hc2, hc3]))); rfl) (Runs.call [] rfl (by simp) rfl (by simp [hw, hc2, hc3]; rfl) (by simp; rfl) (by apply ct_impl_world_super <;> first | assumption | omega) cb_impl_world_super (by simp) (by simp) (by simp [hw, hc2, hc3]; rfl) (jh hX (by simp [hw, hc2, hc3]; rfl)))) ?_
  refine W_ret (je (by simp [hw, hc2, hc3]; rfl) ?_)
  simp [cycI, hc2]
end Go.Proofs
namespace Go.Proofs
open Go Go.Ev


theorem cb_impl_world_check_4 : Callable Tryz.prog 174 := ⟨_, Tryz.func174, by kernel_rfl, by kernel_rfl⟩
theorem ct_impl_world_check_4 {l : List Cls} (hl : l.length ≤ 1048576) {c : Cls} {k : Int} (hk : isKnown l c.name = true) : Ct Tryz.prog 174 [.int .i64 k, eC c, .fp [wv l]] [] (.int .i64 (pI4 l c)) [] := by
  refine Ct_bodyS tok Tryz.func174 rfl 12 (by kernel_rfl) (by kernel_rfl) fun X hX => ?_
  refine jq [2, 4] ?_
  refine W_rseqK [5] (jt 3 (k:=(jc [] (c:=(by apply ct_impl_world_cycles <;> first | assumption | omega | (simp at *; omega) | simp_all)) (a:=cb_impl_world_cycles) (k:=(jt 1 (k:=(jc [] (c:=(by apply ct_impl_codeUnless <;> first | assumption | omega | (simp at *; omega) | simp_all)) (a:=cb_impl_codeUnless) (k:=jr)))))))) ?_
  refine W_ret (je0 ?_)
  simp only [pI4]
  cases cycI l c.name <;> simp
end Go.Proofs
namespace Go.Proofs
open Go Go.Ev


theorem cb_impl_world_methodUp : Callable Tryz.prog 223 := ⟨_, Tryz.func223, by kernel_rfl, by kernel_rfl⟩
theorem ct_impl_world_methodUp {l : List Cls} (hl : l.length ≤ 1048576) (hs : sizeL l ≤ 1099511627776) {c n d : Str} : Ct Tryz.prog 223 [wv l, .str c, .str n, .str d] [] (.tup [eM ((mUp l n d (chain l c)).getD zM), .bool (mUp l n d (chain l c)).isSome]) [] := by
  have hcl := chain_len l c
  refine Ct_bodyS tok Tryz.func223 rfl 42 (by kernel_rfl) (by kernel_rfl) fun X hX => ?_
  refine W_rseqK [0, 1, 2, 3, 8] (jh hX (by simp [fix_mth]; rfl)) ?_
  refine W_seq (W_rseqK [0, 2, 3, 8, 17, 18, 19] (js hX 2 (by simp [fix_mth]; rfl) (Runs.callF rfl (by simp) rfl (by simp [fix_mth]; rfl) (by apply ct_impl_world_chain <;> first | assumption | omega | exact clsOf_sizes hs) cb_impl_world_chain (by simp [fix_mth]; rfl) (jh hX (by simp [fix_mth]; rfl)))) ?_)
  refine W_block (W_loopU (α := Nat) [0, 2, 3, 8, 17, 18, 19] (fun i => [(19, .int .i64 i)]) (fun i => []) (fun i => i ≤ (chain l c).length ∧ mUp l n d ((chain l c).drop i) = mUp l n d (chain l c)) (fun i => (chain l c).length - i) (0) (fun i => by simp; rfl) (by simp) ?_ ?_)
  · simp
  rintro i ⟨hi, hI⟩
  refine W_rseqK [0, 2, 3, 8, 17, 18, 19, 20] (jh hX (by simp [fix_mth]; rfl)) ?_
  refine W_seq (jd (fun h2 => ?_) (fun h2 => ?_))
  · try simp at h2
    rw [List.drop_eq_getElem_cons h2] at hI
    simp only [mUp] at hI
    refine W_skip (W_seq (W_block (W_rseqK [0, 2, 3, 8, 11, 17, 18, 19] (jh hX (by simp [h2, fix_mth]; rfl)) ?_)))
    refine W_rseqK [0, 2, 3, 8, 12, 17, 18, 19] (js hX 2 (by simp [fix_mth]; rfl) (Runs.callF rfl (by simp) rfl (by simp [fix_mth]; rfl) (by apply ct_impl_world_class <;> first | assumption | omega | exact clsOf_sizes hs) cb_impl_world_class (by simp [fix_mth]; rfl) (jh hX (by simp [h2, fix_mth]; rfl)))) ?_
    refine W_rseqK [0, 2, 3, 8, 12, 14, 17, 18, 19] (js hX 3 (by simp [h2, fix_mth]; rfl) (Runs.call [] rfl (by simp) rfl (by simp [fix_mth]; rfl) (by simp; rfl) (by apply ct_impl_Class_methodAt <;> first | assumption | omega | exact clsOf_sizes hs) cb_impl_Class_methodAt (by simp) (by simp) (by simp [fix_mth]; rfl) (jh hX (by simp [fix_mth]; rfl)))) ?_
    refine W_rseqK [0, 2, 3, 8, 12, 14, 17, 18, 19, 34] (jh hX (by simp [fix_mth]; rfl)) ?_
    refine jd (fun h6 => ?_) (fun h6 => ?_)
    · try simp at h6
      rw [if_pos h6] at hI
      rw [← hI]
      obtain ⟨j, hj, hjm⟩ := mthFrom_nat h6
      refine W_rseqK [8, 9] (jh hX (by simp [h2, h6, hj, hjm, fix_mth]; rfl)) ?_
      refine W_ret (W_retR (by simp [h2, h6, hj, hjm, fix_mth]; rfl) ?_ rfl)
      simp only [hjm]
      simp [hj]
      exact Wk.refl _
    · try simp at h6
      rw [if_neg (by omega)] at hI
      refine W_skip (W_reg (jh hX (by simp [fix_mth]; (try (simp (disch := omega) only [wrap_i64]; (try simp [fix_mth]))); rfl)) ?_)
      refine round_endT (i + 1) [0, 2, 3, 8, 17, 18, 19] 1 (by simp [hX]) (by simp) (by simp [h2, h6]; try (simp (disch := omega) only [wrap_i64])) ?_ ?_
      · exact ⟨by omega, hI⟩
      · omega
  · try simp at h2
    rw [List.drop_eq_nil_of_le h2] at hI
    simp only [mUp] at hI
    rw [← hI]
    refine W_exit (W_rseqK [8, 9] (jh hX (by simp [h2, fix_mth]; rfl)) ?_)
    refine W_ret (W_retR (by simp [h2, fix_mth]; rfl) ?_ rfl)
    exact Wk.tup (.cons wk_zM (.cons (Wk.refl _) .nil))
end Go.Proofs
namespace Go.Proofs
open Go Go.Ev


theorem cb_impl_world_accessOK : Callable Tryz.prog 177 := ⟨_, Tryz.func177, by kernel_rfl, by kernel_rfl⟩
theorem ct_impl_world_accessOK {l : List Cls} (hl : l.length ≤ 1048576) (hs : sizeL l ≤ 1099511627776) {c : Cls} (hc : sizeC c ≤ 1099511627776) (hk : isKnown l c.name = true) : Ct Tryz.prog 177 [wv l, eC c] [] (.bool (accI l c)) [] := by
  have hcl := chain_len l c.name
  obtain ⟨us, hy⟩ := chain_cons hk
  have hul : us.length ≤ 8 + l.length := by rw [hy] at hcl; simp at hcl; omega
  have hcm : c.methods.length ≤ 1099511627776 := by simp only [sizeC] at hc; omega
  have hac : accI l c = us.all (fun u => (clsOf l u).methods.all (okI l c)) := by simp only [accI, hy]; rfl
  rw [hac]
  refine Ct_bodyS tok Tryz.func177 rfl 91 (by kernel_rfl) (by kernel_rfl) fun X hX => ?_
  refine W_rseqK [0, 3] (jh hX (by simp [hy, fix_mth]; rfl)) ?_
  refine W_rseqK [0, 3, 5] (js hX 3 (by simp [hy, fix_mth]; rfl) (Runs.callF rfl (by simp) rfl (by simp [hy, fix_mth]; rfl) (by apply ct_impl_world_chain <;> first | assumption | omega | exact clsOf_sizes hs) cb_impl_world_chain (by simp [hy, fix_mth]; rfl) (jh hX (by simp [hy, fix_mth]; rfl)))) ?_
  refine W_seq (W_rseqK [0, 3, 20, 21, 22] (jh hX (by simp [hy, fix_mth]; rfl)) ?_)
  refine W_block (W_loopU (α := Nat) [0, 3, 20, 21, 22] (fun i => [(22, .int .i64 i)]) (fun i => []) (fun i => i ≤ us.length ∧ (us.drop i).all (fun u => (clsOf l u).methods.all (okI l c)) = us.all (fun u => (clsOf l u).methods.all (okI l c))) (fun i => us.length - i) (0) (fun i => by simp; rfl) (by simp) ?_ ?_)
  · simp
  rintro i ⟨hi, hI⟩
  refine W_rseqK [0, 3, 20, 21, 22, 23] (jh hX (by simp [hy, fix_mth]; rfl)) ?_
  refine W_seq (jd (fun h3 => ?_) (fun h3 => ?_))
  · try simp at h3
    rw [all_drop h3] at hI
    have hms : (clsOf l us[i]).methods.length ≤ 1099511627776 := clsOf_sizes hs
    refine W_skip (W_seq (W_block (W_rseqK [0, 3, 7, 20, 21, 22] (jh hX (by simp [h3, hy, fix_mth]; rfl)) ?_)))
    refine W_rseqK [0, 3, 8, 20, 21, 22] (js hX 2 (by simp [hy, fix_mth]; rfl) (Runs.callF rfl (by simp) rfl (by simp [hy, fix_mth]; rfl) (by apply ct_impl_world_class <;> first | assumption | omega | exact clsOf_sizes hs) cb_impl_world_class (by simp [hy, fix_mth]; rfl) (jh hX (by simp [h3, hy, fix_mth]; rfl)))) ?_
    refine W_rseqK [0, 3, 20, 21, 22, 33, 34, 35] (jh hX (by simp [h3, hy, fix_mth]; rfl)) ?_
    refine W_block (W_loopU (α := Nat) [0, 3, 20, 21, 22, 33, 34, 35] (fun j => [(35, .int .i64 j)]) (fun j => []) (fun j => j ≤ (clsOf l us[i]).methods.length ∧ ((clsOf l us[i]).methods.drop j).all (okI l c) = (clsOf l us[i]).methods.all (okI l c)) (fun j => (clsOf l us[i]).methods.length - j) (0) (fun j => by simp; rfl) (by simp) ?_ ?_)
    · simp
    rintro j ⟨hj, hJ⟩
    refine W_rseqK [0, 3, 20, 21, 22, 33, 34, 35, 36] (jh hX (by simp [hy, fix_mth]; rfl)) ?_
    refine W_seq (jd (fun h7 => ?_) (fun h7 => ?_))
    · try simp at h7
      rw [all_drop h7] at hJ
      refine W_skip (W_seq (W_block (W_rseqK [0, 3, 11, 20, 21, 22, 33, 34, 35] (jh hX (by simp [h3, h7, hy, fix_mth]; rfl)) ?_)))
      refine W_seq (W_rseqK [0, 3, 11, 12, 20, 21, 22, 33, 34, 35] (js hX 5 (by simp [h3, h7, hy, fix_mth]; rfl) (Runs.call [] rfl (by simp) rfl (by simp [hy, fix_mth]; rfl) (by simp; rfl) (by apply ct_impl_Class_methodAt <;> first | assumption | omega | exact clsOf_sizes hs) cb_impl_Class_methodAt (by simp) (by simp) (by simp [hy, fix_mth]; rfl) (jh hX (by simp [hy, fix_mth]; rfl)))) ?_)
      refine jD [0, 3, 11, 20, 21, 22, 33, 34, 35, 66] (jS 4 (by simp [h3, h7, hy, fix_mth]; rfl) (jM 3 48 [0, 3, 11, 12, 20, 21, 22, 33, 34, 35, 51] (p:=fun b10_4 => by (try simp at b10_4); exact (jQ (by simp [-atD_lt, -atL_lt, hy, fix_mth]; rfl))) (q:=fun b10_4 => by (try simp at b10_4); exact (jQ (by simp [-atD_lt, -atL_lt, hy, fix_mth]; rfl))) (k:=(jS 1 (by simp [hy, fix_mth]; rfl) (jM 14 52 [0, 3, 11, 20, 21, 22, 33, 34, 35, 66] (p:=fun b10_8 => by (try simp at b10_8); (have hk0 := b10_8.2; have hk1 := mthFrom_lt hk0); exact (jS 3 (by simp [-atD_lt, -atL_lt, h3, h7, b10_8, hk0, hk1, hy, fix_mth]; rfl) (jM 10 55 [0, 3, 11, 20, 21, 22, 33, 34, 35, 52, 65] (p:=fun b10_11 => by (try simp at b10_11); exact (jQ (by simp [-atD_lt, -atL_lt, hy, fix_mth]; rfl))) (q:=fun b10_11 => by (try simp at b10_11); exact (jQ (by simp [-atD_lt, -atL_lt, h3, h7, b10_8, hk0, hk1, hy, fix_mth]; rfl))) (k:=(jQ (by simp [-atD_lt, -atL_lt, hy, fix_mth]; rfl)))))) (q:=fun b10_8 => by (try simp at b10_8); exact (jQ (by simp [-atD_lt, -atL_lt, hy, fix_mth]; rfl))) (k:=(RunsQ.fin (by (try simp); rfl)))))))) ?_
      refine jd (fun h10 => ?_) (fun h10 => ?_)
      · try simp at h10
        refine W_rseqK [4] (jh hX (by simp [hy, fix_mth]; rfl)) ?_
        refine W_ret (je (by simp [h3, h7, h10, hy, fix_mth]; rfl) ?_)
        have ho : okI l c (clsOf l us[i]).methods[j] = false := by unfold okI init; grind
        rw [← hI, ← hJ, ho]; simp
      · try simp at h10
        refine W_skip (W_rseqK [0, 3, 11, 13, 20, 21, 22, 33, 34, 35] (js hX 7 (by simp [h3, h7, h10, hy, fix_mth]; rfl) (Runs.callF rfl (by simp) rfl (by simp [hy, fix_mth]; rfl) (by apply ct_impl_world_methodUp <;> first | assumption | omega | exact clsOf_sizes hs) cb_impl_world_methodUp (by simp [hy, fix_mth]; rfl) (jh hX (by simp [h3, h7, h10, hy, fix_mth]; rfl)))) ?_)
        refine W_rseqK [0, 3, 20, 21, 22, 33, 34, 35, 88] (js hX 3 (by simp [h3, h7, h10, hy, fix_mth]; rfl) (jm 4 80 [0, 3, 13, 20, 21, 22, 33, 34, 35, 84] (p:=fun b13_3 => by (try simp at b13_3); exact (jh hX (by simp [-atD_lt, -atL_lt, h3, h7, h10, hy, fix_mth]; rfl))) (q:=fun b13_3 => by (try simp at b13_3); exact (jh hX (by simp [-atD_lt, -atL_lt, hy, fix_mth]; rfl))) (k:=(js hX 1 (by simp [hy, fix_mth]; rfl) (jm 3 85 [0, 3, 20, 21, 22, 33, 34, 35, 88] (p:=fun b13_8 => by (try simp at b13_8); exact (jh hX (by simp [-atD_lt, -atL_lt, h3, h7, h10, hy, fix_mth]; rfl))) (q:=fun b13_8 => by (try simp at b13_8); exact (jh hX (by simp [-atD_lt, -atL_lt, hy, fix_mth]; rfl))) (k:=jf)))))) ?_
        refine jd (fun h13 => ?_) (fun h13 => ?_)
        · try simp at h13
          refine W_rseqK [4] (jh hX (by simp [hy, fix_mth]; rfl)) ?_
          refine W_ret (je (by simp [h3, h7, h10, hy, fix_mth]; rfl) ?_)
          have ho : okI l c (clsOf l us[i]).methods[j] = false := by unfold okI init; simp only [hy]; grind
          rw [← hI, ← hJ, ho]; simp
        · try simp at h13
          have ho : okI l c (clsOf l us[i]).methods[j] = true := okI_true h10 (by rw [hy]; exact h13)
          rw [ho, Bool.true_and] at hJ
          refine W_skip (W_reg (jh hX (by simp [hy, fix_mth]; (try (simp (disch := omega) only [wrap_i64]; (try simp [hy, fix_mth]))); rfl)) ?_)
          refine round_endT (j + 1) [0, 3, 20, 21, 22, 33, 34, 35] 2 (by simp [hX]) (by simp) (by simp [h3, h7, h10]; try (simp (disch := omega) only [wrap_i64])) ?_ ?_
          · exact ⟨by omega, hJ⟩
          · omega
    · try simp at h7
      rw [List.drop_eq_nil_of_le h7] at hJ
      rw [← hJ, List.all_nil, Bool.true_and] at hI
      refine W_exit (W_reg (jh hX (by simp [hy, fix_mth]; (try (simp (disch := omega) only [wrap_i64]; (try simp [hy, fix_mth]))); rfl)) ?_)
      refine round_endT (i + 1) [0, 3, 20, 21, 22] 1 (by simp [hX]) (by simp) (by simp [h3, h7]; try (simp (disch := omega) only [wrap_i64])) ?_ ?_
      · exact ⟨by omega, hI⟩
      · omega
  · try simp at h3
    rw [List.drop_eq_nil_of_le h3] at hI
    refine W_exit (W_rseqK [4] (jh hX (by simp [hy, fix_mth]; rfl)) ?_)
    refine W_ret (je (by simp [h3, hy, fix_mth]; rfl) ?_)
    rw [← hI]; rfl
end Go.Proofs
namespace Go.Proofs
open Go Go.Ev


theorem cb_impl_world_check_5 : Callable Tryz.prog 176 := ⟨_, Tryz.func176, by kernel_rfl, by kernel_rfl⟩
theorem ct_impl_world_check_5 {l : List Cls} (hl : l.length ≤ 1048576) (hs : sizeL l ≤ 1099511627776) {c : Cls} {k : Int} (hc : sizeC c ≤ 1099511627776) (hk : isKnown l c.name = true) : Ct Tryz.prog 176 [.int .i64 k, eC c, .fp [wv l]] [] (.int .i64 (pI5 l c)) [] := by
  refine Ct_bodyS tok Tryz.func176 rfl 10 (by kernel_rfl) (by kernel_rfl) fun X hX => ?_
  refine jq [2, 4] ?_
  refine W_rseqK [5] (jt 2 (k:=(jc [] (c:=(by apply ct_impl_world_accessOK <;> first | assumption | omega | (simp at *; omega) | simp_all)) (a:=cb_impl_world_accessOK) (k:=(jc [] (c:=(by apply ct_impl_codeUnless <;> first | assumption | omega | (simp at *; omega) | simp_all)) (a:=cb_impl_codeUnless) (k:=jr)))))) ?_
  refine W_ret (je0 ?_)
  unfold pI5
  rfl
end Go.Proofs
namespace Go.Proofs
open Go Go.Ev


theorem cb_impl_world_check : Callable Tryz.prog 118 := ⟨_, Tryz.func118, by kernel_rfl, by kernel_rfl⟩
theorem ct_impl_world_check {l : List Cls} (hl : l.length ≤ 1048576) (hs : sizeL l ≤ 1099511627776) : Ct Tryz.prog 118 [wv l] [] (.agg [.int .i64 (chkI l).1, .int .i64 (chkI l).2]) [] := by
  refine Ct_bodyS tok Tryz.func118 rfl 50 (by kernel_rfl) (by kernel_rfl) fun X hX => ?_
  refine jq [1, 2] ?_
  refine W_seq (jq [1, 2, 14] ?_)
  refine jd (fun h1 => ?_) (fun h1 => ?_)
  · try simp at h1
    refine W_rseqK [2] (jh hX (by simp [h1]; rfl)) ?_
    refine W_ret (je (by simp [h1]; rfl) ?_)
    simp [chkI, h1]
  · try simp at h1
    refine W_skip (jq [1, 2, 3] ?_)
    refine W_seq (W_rseqK [1, 2, 22, 23, 24] (jh hX (by simp [h1]; rfl)) ?_)
    refine W_block (W_loopU (α := Nat) [1, 2, 22, 23, 24] (fun p => [(24, .int .i64 p)]) (fun p => []) (fun p => p ≤ 5 ∧ chkFrom l p (5 - p) = chkFrom l 0 5) (fun p => 5 - p) (0) (fun p => by simp; rfl) (by simp) ?_ ?_)
    · simp
    rintro p ⟨hp, hI⟩
    obtain ⟨q, hq⟩ : ∃ q, q = p + 1 := ⟨_, rfl⟩
    obtain rfl | rfl | rfl | rfl | rfl | rfl : p = 0 ∨ p = 1 ∨ p = 2 ∨ p = 3 ∨ p = 4 ∨ p = 5 := by omega
    all_goals
      refine jq [1, 2, 22, 23, 24, 25] ?_
      refine W_seq (jd (fun h5 => ?_) (fun h5 => ?_))
      · try simp at h5
        all_goals
          refine W_skip (W_seq (W_block (W_rseqK [1, 2, 5, 22, 23, 24] (jh hX (by simp [h1, h5]; rfl)) ?_)))
          refine W_rseqK [1, 2, 5, 22, 23, 24, 31, 32, 33] (jh hX (by simp [h1, h5]; rfl)) ?_
          refine W_block (W_loopU (α := Nat) [1, 2, 5, 22, 23, 24, 31, 32, 33] (fun k => [(33, .int .i64 k)]) (fun k => []) (fun k => k ≤ l.length ∧ firstBad (codeI l (q - 1)) (l.length - k) k = firstBad (codeI l (q - 1)) l.length 0) (fun k => l.length - k) (0) (fun k => by simp; rfl) (by simp) ?_ ?_)
          · simp
          rintro k ⟨hk, hK⟩
          simp only [hq, Nat.reduceAdd, Nat.reduceSub, Nat.zero_add, Nat.add_sub_cancel] at hK
          refine jq [1, 2, 5, 22, 23, 24, 31, 32, 33, 34] ?_
          refine W_seq (jd (fun h8 => ?_) (fun h8 => ?_))
          · try simp at h8
            rw [fb_step h8] at hK
            refine W_skip (W_seq (W_block (W_rseqK [1, 2, 5, 6, 7, 22, 23, 24, 31, 32, 33] (jh hX (by simp [h1, h5, h8]; rfl)) ?_)))
            refine W_rseqK [1, 2, 5, 6, 8, 22, 23, 24, 31, 32, 33] (js hX 3 (by simp [h1, h5, h8]; rfl) (jB (c:=(by first | (apply ct_impl_world_check_1 <;> (first | assumption | omega | exact Nat.le_trans (sizeL_at h8) hs | exact known_own h8)) | (apply ct_impl_world_check_2 <;> (first | assumption | omega | exact Nat.le_trans (sizeL_at h8) hs | exact known_own h8)) | (apply ct_impl_world_check_3 <;> (first | assumption | omega | exact Nat.le_trans (sizeL_at h8) hs | exact known_own h8)) | (apply ct_impl_world_check_4 <;> (first | assumption | omega | exact Nat.le_trans (sizeL_at h8) hs | exact known_own h8)) | (apply ct_impl_world_check_5 <;> (first | assumption | omega | exact Nat.le_trans (sizeL_at h8) hs | exact known_own h8)))) (a:=(by first | exact cb_impl_world_check_1 | exact cb_impl_world_check_2 | exact cb_impl_world_check_3 | exact cb_impl_world_check_4 | exact cb_impl_world_check_5)) (k:=jr))) ?_
            refine jq [1, 2, 5, 6, 8, 22, 23, 24, 31, 32, 33, 43] ?_
            refine jd (fun h11 => ?_) (fun h11 => ?_)
            · try simp at h11
              rw [if_neg (by simp only [codeI, atL_lt h8]; exact h11)] at hK
              refine W_rseqK [2] (jh hX (by simp [h1, h5, h8]; rfl)) ?_
              refine W_ret (je (by simp [h1, h5, h8]; rfl) ?_)
              rw [chkI, if_neg (by omega), ← hI, chk_hit hK.symm]
              simp [codeI, h8]
            · try simp at h11
              rw [if_pos (by simp only [codeI, atL_lt h8]; exact h11)] at hK
              refine W_skip (W_reg (jh hX (by simp; (try (simp (disch := omega) only [wrap_i64]; (try simp))); rfl)) ?_)
              refine round_endT (k + 1) [1, 2, 5, 22, 23, 24, 31, 32, 33] 3 (by simp [hX]) (by simp) (by simp [h1, h5, h8]; try (simp (disch := omega) only [wrap_i64])) ?_ ?_
              · exact ⟨by omega, by simp only [hq, Nat.reduceAdd, Nat.reduceSub, Nat.zero_add, Nat.add_sub_cancel]; exact hK⟩
              · omega
          · try simp at h8
            rw [show l.length - k = 0 from by omega] at hK
            simp only [firstBad] at hK
            refine W_exit (W_reg (jh hX (by simp; (try (simp (disch := omega) only [wrap_i64]; (try simp))); rfl)) ?_)
            refine round_endT (q) [1, 2, 22, 23, 24] 3 (by simp [hX]) (by simp) (by simp [hq]; try (simp (disch := omega) only [wrap_i64])) ?_ ?_
            · exact ⟨by omega, by rw [hq]; exact (chk_next hK.symm).symm.trans hI⟩
            · omega
      · try simp at h5
        all_goals
          refine W_exit (W_rseqK [2] (jh hX (by simp [h1, h5]; rfl)) ?_)
          refine W_ret (je (by simp [h1, h5]; rfl) ?_)
          rw [chkI, if_neg (by omega), ← hI]
          rfl
end Go.Proofs
namespace Go.Proofs
open Go Go.Ev


theorem cb_impl_rightWorld : Callable Tryz.prog 65 := ⟨_, Tryz.func65, by kernel_rfl, by kernel_rfl⟩
theorem ct_impl_rightWorld {l : List Cls} (hl : l.length ≤ 1048576) (hs : sizeL l ≤ 1099511627776) : Ct Tryz.prog 65 [.lst false 6 (l.map eC)] [] (.tup [wv l, .bool (rightW l)]) [] := by
  refine Ct_bodyS tok Tryz.func65 rfl 17 (by kernel_rfl) (by kernel_rfl) fun X hX => ?_
  refine jq [0] ?_
  refine W_rseqK [0, 4] (jt 1 (k:=(jF (c:=(by apply ct_impl_worldOf <;> first | assumption | omega | (simp at *; omega) | simp_all)) (a:=cb_impl_worldOf) (k:=jr)))) ?_
  refine W_rseqK [2, 3] (jt 5 (k:=(jm 5 11 [7, 16] (p:=fun b2_5 => by (try simp at b2_5); exact (js hX 1 (by simp [-atD_lt, -atL_lt]; rfl) (Runs.call [] rfl (by simp) rfl (by simp [-atD_lt, -atL_lt]; rfl) (by simp; rfl) (by apply ct_impl_world_check <;> first | assumption | omega | (simp at *; omega) | simp_all) cb_impl_world_check (by simp) (by simp) (by simp [-atD_lt, -atL_lt]; rfl) (jh hX (by simp [-atD_lt, -atL_lt]; rfl))))) (q:=fun b2_5 => by (try simp at b2_5); exact (jh hX (by simp [-atD_lt, -atL_lt]; rfl))) (k:=jr)))) ?_
  refine W_ret (je0 ?_)
  rw [← rightI_eq]
  simp
end Go.Proofs
namespace Go.Proofs
open Go Go.Ev


theorem cb_impl_isList_impl_Class : Callable Tryz.prog 70 := ⟨_, Tryz.func70, by kernel_rfl, by kernel_rfl⟩
theorem ct_impl_isList_impl_Class {l : List Cls} : Ct Tryz.prog 70 [.lst false 6 (l.map eC)] [] (.bool (decide (l.length ≤ 400))) [] := by
  refine Ct_bodyS tok Tryz.func70 rfl 6 (by kernel_rfl) (by kernel_rfl) fun X hX => ?_
  refine jq [0] ?_
  refine jq [2] ?_
  refine W_ret (je0 ?_)
  simp
end Go.Proofs
namespace Go.Proofs
open Go Go.Ev


theorem cb_impl_size_impl_Class : Callable Tryz.prog 150 := ⟨_, Tryz.func150, by kernel_rfl, by kernel_rfl⟩
theorem ct_impl_size_impl_Class {l : List Cls} : Ct Tryz.prog 150 [.lst false 6 (l.map eC)] [] (.int .i64 l.length) [] := by
  refine Ct_bodyS tok Tryz.func150 rfl 5 (by kernel_rfl) (by kernel_rfl) fun X hX => ?_
  refine jq [0] ?_
  refine jq [2] ?_
  refine W_ret (je0 ?_)
  simp
end Go.Proofs
namespace Go.Proofs
open Go Go.Ev


theorem cb_impl_size_impl_Method : Callable Tryz.prog 151 := ⟨_, Tryz.func151, by kernel_rfl, by kernel_rfl⟩
theorem ct_impl_size_impl_Method {l : List Mth} : Ct Tryz.prog 151 [.lst false 9 (l.map eM)] [] (.int .i64 l.length) [] := by
  refine Ct_bodyS tok Tryz.func151 rfl 5 (by kernel_rfl) (by kernel_rfl) fun X hX => ?_
  refine jq [0] ?_
  refine jq [2] ?_
  refine W_ret (je0 ?_)
  simp
end Go.Proofs
namespace Go.Proofs
open Go Go.Ev


theorem cb_impl_methodAt : Callable Tryz.prog 100 := ⟨_, Tryz.func100, by kernel_rfl, by kernel_rfl⟩
theorem ct_impl_methodAt {l : List Cls} {c m : Int} (hl : l.length ≤ 1048576) (hs : sizeL l ≤ 1099511627776) : Ct Tryz.prog 100 [.lst false 6 (l.map eC), .int .i64 c, .int .i64 m] [] (.tup [eC (clsAt l c m), eM (mthAt l c m), .bool (thereW l c m)]) [] := by
  rcases there_split l c m with ⟨p1, p2, hT⟩ | ⟨i, rfl, p1, p2, hT⟩ | ⟨i, rfl, p1, p2, hT⟩ | ⟨i, j, rfl, rfl, p1, p2, hT⟩ | ⟨i, j, rfl, rfl, p1, p2, hT⟩
  all_goals try have hm2 := Nat.le_trans (mths_len p1) hs
  all_goals first | have p1x : (i : Int) ≤ (l.length : Int) - 1 := by omega | have p1x : ¬ (i : Int) ≤ (l.length : Int) - 1 := by omega | have p1x := trivial
  all_goals first | have p2x : (j : Int) ≤ (l[i].methods.length : Int) - 1 := by omega | have p2x : ¬ (j : Int) ≤ (l[i].methods.length : Int) - 1 := by omega | have p2x := trivial
  all_goals
    refine Ct_bodyS tok Tryz.func100 rfl 41 (by kernel_rfl) (by kernel_rfl) fun X hX => ?_
    refine W_rseqK [0, 1, 2, 6, 7] (jh hX (by simp [p1, p2, p1x, p2x]; rfl)) ?_
    refine W_seq ?_
    first | (refine W_rseqK [0, 1, 2, 6, 7, 26] (js hX 2 (by simp [p1, p2, p1x, p2x]; rfl) (jc [] (c:=(by apply ct_impl_size_impl_Class <;> first | assumption | omega)) (a:=cb_impl_size_impl_Class) (k:=(js hX 1 (by simp [p1, p2, p1x, p2x]; (try (simp (disch := omega) only [wrap_i64]; (try simp [p1, p2, p1x, p2x]))); rfl) (jc [] (c:=(by apply ct_impl_within <;> first | assumption | omega)) (a:=cb_impl_within) (k:=(jh hX (by simp [p1, p2, p1x, p2x]; rfl)))))))) ?_) | (refine W_rseqK [0, 1, 2, 6, 7, 26] (js hX 2 (by simp [p1, p2, p1x, p2x]; rfl) (jc [] (c:=(by apply ct_impl_size_impl_Class <;> first | assumption | omega)) (a:=cb_impl_size_impl_Class) (k:=(js hX 1 (by simp [p1, p2, p1x, p2x]; (try (simp (disch := omega) only [wrap_i64]; (try simp [p1, p2, p1x, p2x]))); rfl) (jc [] (c:=(by apply ct_impl_within <;> first | assumption | omega)) (a:=cb_impl_within) (k:=(js hX 8 (by simp [p1, p2, p1x, p2x]; rfl) (jc [] (c:=(by apply ct_impl_size_impl_Method <;> first | assumption | omega)) (a:=cb_impl_size_impl_Method) (k:=(js hX 1 (by simp [p1, p2, p1x, p2x]; (try (simp (disch := omega) only [wrap_i64]; (try simp [p1, p2, p1x, p2x]))); rfl) (jc [] (c:=(by apply ct_impl_within <;> first | assumption | omega)) (a:=cb_impl_within) (k:=(jh hX (by simp [p1, p2, p1x, p2x]; rfl)))))))))))))) ?_)
    refine jd (fun h1 => ?_) (fun h1 => ?_)
    · try simp at h1
      all_goals
        refine W_rseqK [6, 7, 8] (jh hX (by simp [p1, p2, p1x, p2x]; rfl)) ?_
        refine W_ret (W_retR (by simp [p1, p2, p1x, p2x]; rfl) ?_ rfl)
        simp only [clsAt, mthAt, hT, Bool.false_eq_true, if_false]
        exact Wk.tup (.cons wk_zC (.cons wk_zM (.cons (Wk.refl _) .nil)))
    · try simp at h1
      all_goals
        refine W_skip (jL 13 [0, 1, 2, 3, 4, 5, 6, 7, 8, 9, 10, 11] [12] [6, 7, 8] ([]) hX (by simp [p1, p2, p1x, p2x]; rfl) (jH (p:=fun X hX => (jh hX (by simp [p1, p2, p1x, p2x]; rfl))) (k:=.nil)) (jh hX (by simp [p1, p2, p1x, p2x]; rfl)) ?_)
        refine W_ret (W_retR (by simp [p1, p2, p1x, p2x]; rfl) ?_ rfl)
        rw [clsAt_there hT p1, mthAt_there hT p1 p2, hT]
        exact Wk.refl _
end Go.Proofs
namespace Go.Proofs
open Go Go.Ev


theorem cb_impl_ref : Callable Tryz.prog 130 := ⟨_, Tryz.func130, by kernel_rfl, by kernel_rfl⟩
theorem ct_impl_ref {c : Str} : Ct Tryz.prog 130 [.str c] [] (eT ⟨3, c, 0⟩) [] := by
  refine Ct_bodyS tok Tryz.func130 rfl 5 (by kernel_rfl) (by kernel_rfl) fun X hX => ?_
  refine jq [0, 2] ?_
  refine jq [2] ?_
  refine W_ret (je0 ?_)
  simp
end Go.Proofs
namespace Go.Proofs
open Go Go.Ev


theorem cb_impl_plain : Callable Tryz.prog 152 := ⟨_, Tryz.func152, by kernel_rfl, by kernel_rfl⟩
theorem ct_impl_plain {n : Int} : Ct Tryz.prog 152 [.int .i64 n] [] (eT ⟨n, [], 0⟩) [] := by
  refine Ct_bodyS tok Tryz.func152 rfl 5 (by kernel_rfl) (by kernel_rfl) fun X hX => ?_
  refine jq [0, 2] ?_
  refine jq [2] ?_
  refine W_ret (je0 ?_)
  simp
end Go.Proofs
namespace Go.Proofs
open Go Go.Ev


theorem cb_internal_stringslite_HasPrefix : Callable Tryz.prog 235 := ⟨_, Tryz.func235, by kernel_rfl, by kernel_rfl⟩
theorem ct_internal_stringslite_HasPrefix {s p : Str} : Ct Tryz.prog 235 [.str s, .str p] [] (.bool (decide (p.length ≤ s.length) && decide (s.take p.length = p))) [] := by
  refine Ct_bodyS tok Tryz.func235 rfl 18 (by kernel_rfl) (by kernel_rfl) fun X hX => ?_
  refine jq [0, 1] ?_
  refine W_rseqK [4] (jt 6 (k:=(jm 7 10 [17] (p:=fun b1_6 => by (try simp at b1_6); exact (jh hX (by simp [-atD_lt, -atL_lt, b1_6]; rfl))) (q:=fun b1_6 => by (try simp at b1_6); exact (jh hX (by simp [-atD_lt, -atL_lt, b1_6]; rfl))) (k:=jr)))) ?_
  refine W_ret (je0 ?_)
  simp
end Go.Proofs
namespace Go.Proofs
open Go Go.Ev


theorem cb_strings_HasPrefix : Callable Tryz.prog 207 := ⟨_, Tryz.func207, by kernel_rfl, by kernel_rfl⟩
theorem ct_strings_HasPrefix {s p : Str} : Ct Tryz.prog 207 [.str s, .str p] [] (.bool (decide (p.length ≤ s.length) && decide (s.take p.length = p))) [] := by
  refine Ct_bodyS tok Tryz.func207 rfl 8 (by kernel_rfl) (by kernel_rfl) fun X hX => ?_
  refine jq [0, 1] ?_
  refine W_rseqK [4] (jt 2 (k:=(jc [] (c:=(by apply ct_internal_stringslite_HasPrefix <;> first | assumption | omega | (simp at *; omega) | simp_all)) (a:=cb_internal_stringslite_HasPrefix) (k:=jr)))) ?_
  refine W_ret (je0 ?_)
  simp
end Go.Proofs
namespace Go.Proofs
open Go Go.Ev


theorem cb_impl_typeFrom : Callable Tryz.prog 154 := ⟨_, Tryz.func154, by kernel_rfl, by kernel_rfl⟩
theorem ct_impl_typeFrom {t : Str} (ht : t.length ≤ 1099511627776) : Ct Tryz.prog 154 [.str t] [] (eT (tyFrom t)) [] := by
  refine Ct_bodyS tok Tryz.func154 rfl 25 (by kernel_rfl) (by kernel_rfl) fun X hX => ?_
  refine jq [0, 2] ?_
  refine W_seq (W_block (W_rseqK [0, 2, 3] (jt 1 (k:=(jc [] (c:=(by apply ct_impl_typeRight <;> first | assumption | omega | (simp at *; omega) | simp_all)) (a:=cb_impl_typeRight) (k:=jr)))) ?_))
  refine jd (fun h1 => ?_) (fun h1 => ?_)
  · try simp at h1
    refine jq [2] ?_
    refine W_ret (je0 ?_)
    simp [tyFrom, h1, zT]
  · try simp at h1
    refine jq [0, 2, 8] ?_
    refine jd (fun h3 => ?_) (fun h3 => ?_)
    · try simp at h3
      refine W_rseqK [2] (jc [] (c:=(by apply ct_impl_plain <;> first | assumption | omega | (simp at *; omega) | simp_all)) (a:=cb_impl_plain) (k:=jr)) ?_
      refine W_ret (je0 ?_)
      rw [h3]; simp [tyFrom, right_I]
    · try simp at h3
      refine jq [0, 2, 12] ?_
      refine jd (fun h5 => ?_) (fun h5 => ?_)
      · try simp at h5
        refine W_rseqK [2] (jc [] (c:=(by apply ct_impl_plain <;> first | assumption | omega | (simp at *; omega) | simp_all)) (a:=cb_impl_plain) (k:=jr)) ?_
        refine W_ret (je0 ?_)
        rw [h5]; simp [tyFrom, right_A]
      · try simp at h5
        refine W_rseqK [0, 2, 16] (jt 1 (k:=(jc [] (c:=(by apply ct_strings_HasPrefix <;> first | assumption | omega | (simp at *; omega) | simp_all)) (a:=cb_strings_HasPrefix) (k:=jr)))) ?_
        refine jd (fun h7 => ?_) (fun h7 => ?_)
        · try simp at h7
          refine W_rseqK [2] (jt 1 (k:=(jc [] (c:=(by apply ct_impl_typeClass <;> first | assumption | omega | (simp at *; omega) | simp_all)) (a:=cb_impl_typeClass) (k:=jr)))) ?_
          refine W_ret (je0 ?_)
          rw [tyFrom, if_pos h1, if_neg h3, if_neg h5, if_pos (pre91.1 h7)]; rfl
        · try simp at h7
          refine W_skip (W_rseqK [2] (jt 1 (k:=(jc [] (c:=(by apply ct_impl_typeClass <;> first | assumption | omega | (simp at *; omega) | simp_all)) (a:=cb_impl_typeClass) (k:=(jc [] (c:=(by apply ct_impl_ref <;> first | assumption | omega | (simp at *; omega) | simp_all)) (a:=cb_impl_ref) (k:=jr)))))) ?_)
          refine W_ret (je0 ?_)
          rw [tyFrom, if_pos h1, if_neg h3, if_neg h5, if_neg (fun e => absurd (pre91.2 e) (fun e2 => h7 e2.1 e2.2))]; rfl
end Go.Proofs
namespace Go.Proofs
open Go Go.Ev


theorem cb_impl_size_impl_Type : Callable Tryz.prog 155 := ⟨_, Tryz.func155, by kernel_rfl, by kernel_rfl⟩
theorem ct_impl_size_impl_Type {l : List Typ} : Ct Tryz.prog 155 [.lst false 3 (l.map eT)] [] (.int .i64 l.length) [] := by
  refine Ct_bodyS tok Tryz.func155 rfl 5 (by kernel_rfl) (by kernel_rfl) fun X hX => ?_
  refine jq [0] ?_
  refine jq [2] ?_
  refine W_ret (je0 ?_)
  simp
end Go.Proofs
namespace Go.Proofs
open Go Go.Ev


theorem cb_impl_frameStart : Callable Tryz.prog 101 := ⟨_, Tryz.func101, by kernel_rfl, by kernel_rfl⟩
theorem ct_impl_frameStart {n : Str} {m : Mth} (hd : m.desc.length ≤ 1099511627776) (hL : m.locals ≤ 1048576) : Ct Tryz.prog 101 [.str n, eM m] [] (oFr ⟨[], startL n (dRead m.desc).params m⟩) [] := by
  have hpl := dRead_le m.desc
  have hpp := (dRead_parts m.desc).2
  refine Ct_bodyS tok Tryz.func101 rfl 60 (by kernel_rfl) (by kernel_rfl) fun X hX => ?_
  refine jq [0, 3, 4] ?_
  refine jq [0, 3, 4, 5] ?_
  refine W_le (Le.nilC 2 0 1 3 (by simp; rfl)) ?_
  refine W_seq (W_block (jq [0, 3, 4, 5, 16] ?_))
  refine jd (fun h3 => ?_) (fun h3 => ?_)
  · try simp at h3
    refine W_skip (W_seq (W_rseqK [3, 4, 5, 33, 34, 35] (jt 2 (k:=(jF (c:=(by apply ct_impl_descRead <;> first | assumption | omega | (simp; omega))) (a:=cb_impl_descRead) (k:=jr)))) ?_))
    refine W_block (W_loopU (α := List Typ × Nat) [3, 4, 5, 33, 34, 35] (fun p => [(35, .int .i64 p.2)]) (fun p => [(2, some (2, [.agg [.raw (.slice none 0 0), .arr 3 0 p.1.length]])), (3, some (3, p.1.map eT))]) (fun p => p.2 ≤ (dRead m.desc).params.length ∧ p.1.length ≤ 1 + p.2 ∧ p.1 = thisL n m ++ ((dRead m.desc).params.take p.2).map tyFrom) (fun p => (dRead m.desc).params.length - p.2) ((thisL n m, 0)) (fun p => by simp; rfl) (by first | (simp [thisL, init, h3, h4]; done) | (simp [thisL, init, h3]; done)) ?_ ?_)
    · exact ⟨by simp, by simpa using thisL_len _ _, by simp⟩
    rintro ⟨o, i⟩ ⟨hi, hn, hI⟩
    simp only at hi hn hI
    have w0 : o.length ≤ 1099511627776 := by omega
    have w1 : (o.length + 1) * 32 ≤ 140737488355328 := by omega
    have w2 : o.length ≤ 1099511627775 := by omega
    refine W_rseqK [3, 4, 5, 33, 34, 35, 36] (jh hX (by simp [w0, w1, w2]; rfl)) ?_
    refine W_seq (jd (fun h7 => ?_) (fun h7 => ?_))
    · try simp at h7
      have hp : ((dRead m.desc).params[i]).length ≤ 1099511627776 := Nat.le_trans (hpp _ (List.getElem_mem _)) (by omega)
      refine W_skip (W_seq (W_block (W_rseqK [3, 4, 5, 7, 33, 34, 35] (jh hX (by simp [w0, w1, w2, h7, hp]; rfl)) ?_)))
      refine W_held (n := 5) (A := [0, 1, 2]) (B := [3, 4]) (L := [2]) hmo (by kernel_rfl) tok hX (by simp [w0, w1, w2, h7, hp]; rfl) (jH (p:=fun X hX => (jc [] (c:=(by apply ct_impl_typeFrom <;> first | assumption | omega | (simp; omega))) (a:=cb_impl_typeFrom) (k:=jf))) (k:=(jH (p:=fun X hX => (jh hX (by simp [w0, w1, w2, h7, hp]; rfl))) (k:=.nil)))) (jh hX (by simp [w0, w1, w2, h7, hp]; rfl)) ?_
      refine W_reg (jh hX (by simp [w0, w1, w2, h7, hp]; (try (simp (disch := omega) only [wrap_i64]; (try simp [w0, w1, w2, h7, hp]))); rfl)) ?_
      refine round_endT ((o ++ [tyFrom (dRead m.desc).params[i]], i + 1)) [3, 4, 5, 33, 34, 35] 4 (by simp [hX]) (by simp) (by simp [w0, w1, w2, h7, hp]; try (simp (disch := omega) only [wrap_i64])) ?_ ?_
      · exact ⟨by simp only; omega, by simp; omega, by simp only; rw [map_snoc h7, ← List.append_assoc, ← hI]⟩
      · simp only; omega
    · try simp at h7
      have hil : i = (dRead m.desc).params.length := by omega
      subst hil
      rw [List.take_of_length_le (Nat.le_refl _)] at hI
      subst hI
      refine W_exit (W_seq (W_block (W_loopU (α := List Typ) [3, 4, 5] (fun o => []) (fun o => [(2, some (2, [.agg [.raw (.slice none 0 0), .arr 3 0 o.length]])), (3, some (3, o.map eT))]) (fun o => o.length ≤ 1048600 ∧ padL m.locals.toNat o = startL n (dRead m.desc).params m) (fun o => m.locals.toNat - o.length) (thisL n m ++ (dRead m.desc).params.map tyFrom) (fun o => by simp; rfl) (by simp) ?_ ?_)))
      · exact ⟨by have := thisL_len n m; simp; omega, rfl⟩
      rintro o ⟨ho, hJ⟩
      refine W_seq (jL 5 [0, 1, 3, 4] [2] [3, 4, 5, 52] ([0, 2]) hX (by simp [w0, w1, w2, h7]; rfl) (jH (p:=fun X hX => (jB (c:=(by apply ct_impl_size_impl_Type <;> first | assumption | omega | (simp; omega))) (a:=cb_impl_size_impl_Type) (k:=jf))) (k:=.nil)) (jh hX (by simp [w0, w1, w2, h7]; rfl)) ?_)
      refine jd (fun h11 => ?_) (fun h11 => ?_)
      · try simp at h11
        have x1 : (o.length + 1) * 32 ≤ 140737488355328 := by omega
        have x2 : o.length ≤ 1099511627775 := by omega
        refine W_skip (W_block (W_reg (jh hX (by simp [w0, w1, w2, h7, h11, x1, x2]; rfl)) ?_))
        refine round_endT (o ++ [zT]) [3, 4, 5] 4 (by simp [hX]) (by simp) (by simp [zT]; try (simp (disch := omega) only [wrap_i64])) ?_ ?_
        · exact ⟨by simp; omega, by rw [padL_go (by omega)]; exact hJ⟩
        · simp; omega
      · try simp at h11
        rw [padL_end (by omega)] at hJ
        subst hJ
        refine W_exit (W_rseqK [4] (jh hX (by simp [w0, w1, w2, h7, h11]; rfl)) ?_)
        refine W_ret (W_retR (by simp [w0, w1, w2, h7, h11]; rfl) ?_ rfl)
        exact Wk.agg (.cons (Wk.nilSlice _ _) (.cons (Wk.refl _) .nil))
  · try simp at h3
    refine jq [0, 3, 4, 5, 19] ?_
    refine jd (fun h4 => ?_) (fun h4 => ?_)
    · try simp at h4
      refine W_held (n := 4) (A := [0, 1]) (B := [2, 3]) (L := [2]) hmo (by kernel_rfl) tok hX (by simp; rfl) (jH (p:=fun X hX => (jc [] (c:=(by apply ct_impl_plain <;> first | assumption | omega | (simp; omega))) (a:=cb_impl_plain) (k:=jf))) (k:=(jH (p:=fun X hX => jr) (k:=.nil)))) jr ?_
      refine W_le (Le.trans (Le.trim 4 (by simp [hX]) _ (by simp)) (Le.of_eq (by simp; rfl))) ?_
      refine W_seq (W_rseqK [3, 4, 5, 33, 34, 35] (jt 2 (k:=(jF (c:=(by apply ct_impl_descRead <;> first | assumption | omega | (simp; omega))) (a:=cb_impl_descRead) (k:=jr)))) ?_)
      refine W_block (W_loopU (α := List Typ × Nat) [3, 4, 5, 33, 34, 35] (fun p => [(35, .int .i64 p.2)]) (fun p => [(2, some (2, [.agg [.raw (.slice none 0 0), .arr 3 0 p.1.length]])), (3, some (3, p.1.map eT))]) (fun p => p.2 ≤ (dRead m.desc).params.length ∧ p.1.length ≤ 1 + p.2 ∧ p.1 = thisL n m ++ ((dRead m.desc).params.take p.2).map tyFrom) (fun p => (dRead m.desc).params.length - p.2) ((thisL n m, 0)) (fun p => by simp; rfl) (by first | (simp [thisL, init, h3, h4]; done) | (simp [thisL, init, h3]; done)) ?_ ?_)
      · exact ⟨by simp, by simpa using thisL_len _ _, by simp⟩
      rintro ⟨o, i⟩ ⟨hi, hn, hI⟩
      simp only at hi hn hI
      have w0 : o.length ≤ 1099511627776 := by omega
      have w1 : (o.length + 1) * 32 ≤ 140737488355328 := by omega
      have w2 : o.length ≤ 1099511627775 := by omega
      refine W_rseqK [3, 4, 5, 33, 34, 35, 36] (jh hX (by simp [w0, w1, w2]; rfl)) ?_
      refine W_seq (jd (fun h7 => ?_) (fun h7 => ?_))
      · try simp at h7
        have hp : ((dRead m.desc).params[i]).length ≤ 1099511627776 := Nat.le_trans (hpp _ (List.getElem_mem _)) (by omega)
        refine W_skip (W_seq (W_block (W_rseqK [3, 4, 5, 7, 33, 34, 35] (jh hX (by simp [w0, w1, w2, h7, hp]; rfl)) ?_)))
        refine W_held (n := 5) (A := [0, 1, 2]) (B := [3, 4]) (L := [2]) hmo (by kernel_rfl) tok hX (by simp [w0, w1, w2, h7, hp]; rfl) (jH (p:=fun X hX => (jc [] (c:=(by apply ct_impl_typeFrom <;> first | assumption | omega | (simp; omega))) (a:=cb_impl_typeFrom) (k:=jf))) (k:=(jH (p:=fun X hX => (jh hX (by simp [w0, w1, w2, h7, hp]; rfl))) (k:=.nil)))) (jh hX (by simp [w0, w1, w2, h7, hp]; rfl)) ?_
        refine W_reg (jh hX (by simp [w0, w1, w2, h7, hp]; (try (simp (disch := omega) only [wrap_i64]; (try simp [w0, w1, w2, h7, hp]))); rfl)) ?_
        refine round_endT ((o ++ [tyFrom (dRead m.desc).params[i]], i + 1)) [3, 4, 5, 33, 34, 35] 4 (by simp [hX]) (by simp) (by simp [w0, w1, w2, h7, hp]; try (simp (disch := omega) only [wrap_i64])) ?_ ?_
        · exact ⟨by simp only; omega, by simp; omega, by simp only; rw [map_snoc h7, ← List.append_assoc, ← hI]⟩
        · simp only; omega
      · try simp at h7
        have hil : i = (dRead m.desc).params.length := by omega
        subst hil
        rw [List.take_of_length_le (Nat.le_refl _)] at hI
        subst hI
        refine W_exit (W_seq (W_block (W_loopU (α := List Typ) [3, 4, 5] (fun o => []) (fun o => [(2, some (2, [.agg [.raw (.slice none 0 0), .arr 3 0 o.length]])), (3, some (3, o.map eT))]) (fun o => o.length ≤ 1048600 ∧ padL m.locals.toNat o = startL n (dRead m.desc).params m) (fun o => m.locals.toNat - o.length) (thisL n m ++ (dRead m.desc).params.map tyFrom) (fun o => by simp; rfl) (by simp) ?_ ?_)))
        · exact ⟨by have := thisL_len n m; simp; omega, rfl⟩
        rintro o ⟨ho, hJ⟩
        refine W_seq (jL 5 [0, 1, 3, 4] [2] [3, 4, 5, 52] ([0, 2]) hX (by simp [w0, w1, w2, h7]; rfl) (jH (p:=fun X hX => (jB (c:=(by apply ct_impl_size_impl_Type <;> first | assumption | omega | (simp; omega))) (a:=cb_impl_size_impl_Type) (k:=jf))) (k:=.nil)) (jh hX (by simp [w0, w1, w2, h7]; rfl)) ?_)
        refine jd (fun h11 => ?_) (fun h11 => ?_)
        · try simp at h11
          have x1 : (o.length + 1) * 32 ≤ 140737488355328 := by omega
          have x2 : o.length ≤ 1099511627775 := by omega
          refine W_skip (W_block (W_reg (jh hX (by simp [w0, w1, w2, h7, h11, x1, x2]; rfl)) ?_))
          refine round_endT (o ++ [zT]) [3, 4, 5] 4 (by simp [hX]) (by simp) (by simp [zT]; try (simp (disch := omega) only [wrap_i64])) ?_ ?_
          · exact ⟨by simp; omega, by rw [padL_go (by omega)]; exact hJ⟩
          · simp; omega
        · try simp at h11
          rw [padL_end (by omega)] at hJ
          subst hJ
          refine W_exit (W_rseqK [4] (jh hX (by simp [w0, w1, w2, h7, h11]; rfl)) ?_)
          refine W_ret (W_retR (by simp [w0, w1, w2, h7, h11]; rfl) ?_ rfl)
          exact Wk.agg (.cons (Wk.nilSlice _ _) (.cons (Wk.refl _) .nil))
    · try simp at h4
      refine W_held (n := 5) (A := [0, 1, 2]) (B := [3, 4]) (L := [2]) hmo (by kernel_rfl) tok hX (by simp; rfl) (jH (p:=fun X hX => (jc [] (c:=(by apply ct_impl_ref <;> first | assumption | omega | (simp; omega))) (a:=cb_impl_ref) (k:=jf))) (k:=(jH (p:=fun X hX => jr) (k:=.nil)))) jr ?_
      refine W_le (Le.trans (Le.trim 4 (by simp [hX]) _ (by simp)) (Le.of_eq (by simp; rfl))) ?_
      refine W_seq (W_rseqK [3, 4, 5, 33, 34, 35] (jt 2 (k:=(jF (c:=(by apply ct_impl_descRead <;> first | assumption | omega | (simp; omega))) (a:=cb_impl_descRead) (k:=jr)))) ?_)
      refine W_block (W_loopU (α := List Typ × Nat) [3, 4, 5, 33, 34, 35] (fun p => [(35, .int .i64 p.2)]) (fun p => [(2, some (2, [.agg [.raw (.slice none 0 0), .arr 3 0 p.1.length]])), (3, some (3, p.1.map eT))]) (fun p => p.2 ≤ (dRead m.desc).params.length ∧ p.1.length ≤ 1 + p.2 ∧ p.1 = thisL n m ++ ((dRead m.desc).params.take p.2).map tyFrom) (fun p => (dRead m.desc).params.length - p.2) ((thisL n m, 0)) (fun p => by simp; rfl) (by first | (simp [thisL, init, h3, h4]; done) | (simp [thisL, init, h3]; done)) ?_ ?_)
      · exact ⟨by simp, by simpa using thisL_len _ _, by simp⟩
      rintro ⟨o, i⟩ ⟨hi, hn, hI⟩
      simp only at hi hn hI
      have w0 : o.length ≤ 1099511627776 := by omega
      have w1 : (o.length + 1) * 32 ≤ 140737488355328 := by omega
      have w2 : o.length ≤ 1099511627775 := by omega
      refine W_rseqK [3, 4, 5, 33, 34, 35, 36] (jh hX (by simp [w0, w1, w2]; rfl)) ?_
      refine W_seq (jd (fun h7 => ?_) (fun h7 => ?_))
      · try simp at h7
        have hp : ((dRead m.desc).params[i]).length ≤ 1099511627776 := Nat.le_trans (hpp _ (List.getElem_mem _)) (by omega)
        refine W_skip (W_seq (W_block (W_rseqK [3, 4, 5, 7, 33, 34, 35] (jh hX (by simp [w0, w1, w2, h7, hp]; rfl)) ?_)))
        refine W_held (n := 5) (A := [0, 1, 2]) (B := [3, 4]) (L := [2]) hmo (by kernel_rfl) tok hX (by simp [w0, w1, w2, h7, hp]; rfl) (jH (p:=fun X hX => (jc [] (c:=(by apply ct_impl_typeFrom <;> first | assumption | omega | (simp; omega))) (a:=cb_impl_typeFrom) (k:=jf))) (k:=(jH (p:=fun X hX => (jh hX (by simp [w0, w1, w2, h7, hp]; rfl))) (k:=.nil)))) (jh hX (by simp [w0, w1, w2, h7, hp]; rfl)) ?_
        refine W_reg (jh hX (by simp [w0, w1, w2, h7, hp]; (try (simp (disch := omega) only [wrap_i64]; (try simp [w0, w1, w2, h7, hp]))); rfl)) ?_
        refine round_endT ((o ++ [tyFrom (dRead m.desc).params[i]], i + 1)) [3, 4, 5, 33, 34, 35] 4 (by simp [hX]) (by simp) (by simp [w0, w1, w2, h7, hp]; try (simp (disch := omega) only [wrap_i64])) ?_ ?_
        · exact ⟨by simp only; omega, by simp; omega, by simp only; rw [map_snoc h7, ← List.append_assoc, ← hI]⟩
        · simp only; omega
      · try simp at h7
        have hil : i = (dRead m.desc).params.length := by omega
        subst hil
        rw [List.take_of_length_le (Nat.le_refl _)] at hI
        subst hI
        refine W_exit (W_seq (W_block (W_loopU (α := List Typ) [3, 4, 5] (fun o => []) (fun o => [(2, some (2, [.agg [.raw (.slice none 0 0), .arr 3 0 o.length]])), (3, some (3, o.map eT))]) (fun o => o.length ≤ 1048600 ∧ padL m.locals.toNat o = startL n (dRead m.desc).params m) (fun o => m.locals.toNat - o.length) (thisL n m ++ (dRead m.desc).params.map tyFrom) (fun o => by simp; rfl) (by simp) ?_ ?_)))
        · exact ⟨by have := thisL_len n m; simp; omega, rfl⟩
        rintro o ⟨ho, hJ⟩
        refine W_seq (jL 5 [0, 1, 3, 4] [2] [3, 4, 5, 52] ([0, 2]) hX (by simp [w0, w1, w2, h7]; rfl) (jH (p:=fun X hX => (jB (c:=(by apply ct_impl_size_impl_Type <;> first | assumption | omega | (simp; omega))) (a:=cb_impl_size_impl_Type) (k:=jf))) (k:=.nil)) (jh hX (by simp [w0, w1, w2, h7]; rfl)) ?_)
        refine jd (fun h11 => ?_) (fun h11 => ?_)
        · try simp at h11
          have x1 : (o.length + 1) * 32 ≤ 140737488355328 := by omega
          have x2 : o.length ≤ 1099511627775 := by omega
          refine W_skip (W_block (W_reg (jh hX (by simp [w0, w1, w2, h7, h11, x1, x2]; rfl)) ?_))
          refine round_endT (o ++ [zT]) [3, 4, 5] 4 (by simp [hX]) (by simp) (by simp [zT]; try (simp (disch := omega) only [wrap_i64])) ?_ ?_
          · exact ⟨by simp; omega, by rw [padL_go (by omega)]; exact hJ⟩
          · simp; omega
        · try simp at h11
          rw [padL_end (by omega)] at hJ
          subst hJ
          refine W_exit (W_rseqK [4] (jh hX (by simp [w0, w1, w2, h7, h11]; rfl)) ?_)
          refine W_ret (W_retR (by simp [w0, w1, w2, h7, h11]; rfl) ?_ rfl)
          exact Wk.agg (.cons (Wk.nilSlice _ _) (.cons (Wk.refl _) .nil))
end Go.Proofs
namespace Go.Proofs
open Go Go.Ev


theorem cb_impl_FrameStart : Callable Tryz.prog 51 := ⟨_, Tryz.func51, by kernel_rfl, by kernel_rfl⟩
theorem ct_impl_FrameStart {l : List Cls} (hl : l.length ≤ 1048576) (hs : sizeL l ≤ 1099511627776) {c m : Int} : Ct Tryz.prog 51 [.lst false 6 (l.map eC), .int .i64 c, .int .i64 m] [] (oFo (frmStartW l c m)) [] := by
  rcases start_split l c m with ⟨hR, hT, p1, p2⟩ | ⟨hR, hT, p1, p2⟩ | ⟨i, j, rfl, rfl, hR, hT, p1, p2⟩
  all_goals try have hM := right_at hR hT p1 p2
  all_goals try have hM1 := head_locals hM
  all_goals try have hM2 := head_desc hM
  all_goals
    refine Ct_bodyS tok Tryz.func51 rfl 45 (by kernel_rfl) (by kernel_rfl) fun X hX => ?_
    refine W_rseqK [0, 1, 2, 6] (jh hX (by simp [hT, hR]; rfl)) ?_
    refine W_seq (W_rseqK [0, 1, 2, 6, 14] (js hX 1 (by simp [hT, hR]; rfl) (jc [] (c:=(by apply ct_impl_isList_impl_Class <;> first | assumption | omega)) (a:=cb_impl_isList_impl_Class) (k:=(jh hX (by simp [hT, hR]; rfl))))) ?_)
    refine jd (fun h1 => ?_) (fun h1 => ?_)
    · try simp at h1
      refine W_rseqK [6] (jh hX (by simp [hT, hR]; rfl)) ?_
      refine W_ret (W_retR (by simp [hT, hR]; rfl) ?_ rfl)
      rw [frmStartW, if_pos (by omega)]
      exact Wk.agg (.cons (Wk.nilSlice _ _) (.cons (Wk.nilSlice _ _) (.cons (Wk.refl _) .nil)))
    · try simp at h1
      refine W_skip (W_rseqK [0, 1, 2, 6, 8] (js hX 1 (by simp [hT, hR]; rfl) (jc [] (c:=(by apply ct_impl_rightWorld <;> first | assumption | omega)) (a:=cb_impl_rightWorld) (k:=(jh hX (by simp [hT, hR]; rfl))))) ?_)
      refine W_rseqK [6, 8, 9, 10, 11] (js hX 3 (by simp [hT, hR]; rfl) (jF (c:=(by apply ct_impl_methodAt <;> first | assumption | omega)) (a:=cb_impl_methodAt) (k:=(jh hX (by simp [hT, hR]; rfl))))) ?_
      refine W_seq ?_
      first | (refine W_rseqK [6, 9, 10, 38] (jh hX (by simp [hT, hR]; rfl)) ?_) | (refine W_rseqK [6, 9, 10, 38] (jh hX (by simp [hT, hR]; rfl)) ?_) | (refine W_rseqK [6, 9, 10, 38] (jh hX (by simp [hT, hR]; rfl)) ?_)
      refine jd (fun h5 => ?_) (fun h5 => ?_)
      · try simp at h5
        all_goals
          refine W_rseqK [6] (jh hX (by simp [hT, hR]; rfl)) ?_
          refine W_ret (W_retR (by simp [hT, hR]; rfl) ?_ rfl)
          rw [frmStartW, if_neg (by omega), if_neg (by first | (simp [hR]; done) | (simp [hT]; done) | (simp [h5]; done))]
          exact Wk.agg (.cons (Wk.nilSlice _ _) (.cons (Wk.nilSlice _ _) (.cons (Wk.refl _) .nil)))
      · try simp at h5
        all_goals
          refine W_skip (W_rseqK [6] (js hX 3 (by simp [hT, hR]; rfl) (jc [] (c:=(by apply ct_impl_frameStart <;> first | assumption | omega)) (a:=cb_impl_frameStart) (k:=(jh hX (by simp [hT, hR]; rfl))))) ?_)
          refine W_ret (W_retR (by simp [hT, hR]; rfl) ?_ rfl)
          rw [frmStartW, if_neg (by omega), if_pos (by simp [hR, hT, h5]), hM2.2]
          exact Wk.refl _
end Go.Proofs
namespace Go.Proofs
open Go Go.Ev


theorem cb_laws_eqType : Callable Tryz.prog 36 := ⟨_, Tryz.func36, by kernel_rfl, by kernel_rfl⟩
theorem ct_laws_eqType {x y : Typ} : Ct Tryz.prog 36 [eT x, eT y] [] (.bool (decide (x = y))) [] := by
  refine Ct_bodyS tok Tryz.func36 rfl 20 (by kernel_rfl) (by kernel_rfl) fun X hX => ?_
  refine jq [2, 3] ?_
  refine W_seq (jq [2, 3, 9] ?_)
  refine jd (fun h1 => ?_) (fun h1 => ?_)
  · try simp at h1
    refine jq [4] ?_
    refine W_ret (je0 ?_)
    (try simp at *) <;> cases x <;> cases y <;> simp_all
  · try simp at h1
    refine W_skip (W_seq (jq [2, 3, 14] ?_))
    refine jd (fun h3 => ?_) (fun h3 => ?_)
    · try simp at h3
      refine jq [4] ?_
      refine W_ret (je0 ?_)
      (try simp at *) <;> cases x <;> cases y <;> simp_all
    · try simp at h3
      refine W_skip (W_seq (jq [19] ?_))
      refine jd (fun h5 => ?_) (fun h5 => ?_)
      · try simp at h5
        refine jq [4] ?_
        refine W_ret (je0 ?_)
        (try simp at *) <;> cases x <;> cases y <;> simp_all
      · try simp at h5
        refine W_skip (jq [4] ?_)
        refine W_ret (je0 ?_)
        (try simp at *) <;> cases x <;> cases y <;> simp_all
end Go.Proofs
namespace Go.Proofs
open Go Go.Ev


theorem cb_laws_eqTypeS : Callable Tryz.prog 81 := ⟨_, Tryz.func81, by kernel_rfl, by kernel_rfl⟩
theorem ct_laws_eqTypeS {l1 l2 : List Typ} (q1 : l1.length < 4611686018427387904) (q2 : l2.length < 4611686018427387904) : Ct Tryz.prog 81 [.lst false 3 (l1.map eT), .lst false 3 (l2.map eT)] [] (.bool (decide (l1 = l2))) [] := by
  refine Ct_bodyS tok Tryz.func81 rfl 27 (by kernel_rfl) (by kernel_rfl) fun X hX => ?_
  refine jq [0, 1] ?_
  refine W_seq (jq [0, 1, 10] ?_)
  refine jd (fun h1 => ?_) (fun h1 => ?_)
  · try simp at h1
    replace h1 : ¬ l1.length = l2.length := by omega
    refine jq [4] ?_
    refine W_ret (je0 ?_)
    have : ¬ l1 = l2 := fun e => h1 (by rw [e])
    simp [this]
  · try simp at h1
    replace h1 : l1.length = l2.length := by omega
    refine W_skip (W_seq (jq [0, 1, 5] ?_))
    refine W_block (W_loopU (α := Nat) [0, 1, 5] (fun i => [(5, .int .i64 i)]) (fun i => []) (fun i => i ≤ l1.length ∧ (l1.drop i = l2.drop i ↔ l1 = l2)) (fun i => l1.length - i) (0) (fun i => by simp; rfl) (by simp) ?_ ?_)
    · simp
    rintro i ⟨hi, hI⟩
    refine W_seq (jq [0, 1, 5, 14] ?_)
    refine jd (fun h4 => ?_) (fun h4 => ?_)
    · try simp at h4
      have h4b : i < l1.length := by omega
      have h4c : i < l2.length := by omega
      rw [List.drop_eq_getElem_cons h4b, List.drop_eq_getElem_cons h4c, List.cons.injEq] at hI
      refine W_skip (W_seq (W_block (jD [0, 1, 5, 26] (jS 8 (by simp [h4, h4b, h4c]; rfl) (jC (c:=by apply ct_laws_eqType <;> first | assumption | omega | exact hb1 _ (List.getElem_mem _) | exact hb2 _ (List.getElem_mem _)) (a:=cb_laws_eqType) (k:=(jQ (by simp; rfl))))) ?_)))
      refine jd (fun h6 => ?_) (fun h6 => ?_)
      · try simp at h6
        refine jq [4] ?_
        refine W_ret (je (by simp [h4, h4b, h4c]; rfl) ?_)
        simp_all
      · try simp at h6
        refine W_skip (W_reg (jh hX (by simp; (try (simp (disch := omega) only [wrap_i64]; (try simp))); rfl)) ?_)
        refine round_end (i + 1) [0, 1, 5] (by simp [h4, h4b, h4c]; try (simp (disch := omega) only [wrap_i64])) ?_ ?_
        · exact ⟨by omega, by simp_all⟩
        · omega
    · try simp at h4
      refine W_exit (jq [4] ?_)
      refine W_ret (je (by simp [h4]; rfl) ?_)
      have : l1.drop i = [] := List.drop_eq_nil_of_le (by omega)
      have e2 : l2.drop i = [] := List.drop_eq_nil_of_le (by omega)
      simp_all
end Go.Proofs
namespace Go.Proofs
open Go Go.Ev


theorem cb_laws_eqFrame : Callable Tryz.prog 31 := ⟨_, Tryz.func31, by kernel_rfl, by kernel_rfl⟩
theorem ct_laws_eqFrame_L {x y : Frm} (p0 : x.stack.length < 4611686018427387904) (p2 : x.locals.length < 4611686018427387904) (q0 : y.stack.length < 4611686018427387904) (q2 : y.locals.length < 4611686018427387904) : Ct Tryz.prog 31 [eFr x, eFr y] [] (.bool (decide (x = y))) [] := by
  refine Ct_bodyS tok Tryz.func31 rfl 17 (by kernel_rfl) (by kernel_rfl) fun X hX => ?_
  refine jq [2, 3] ?_
  refine W_seq (W_rseqK [2, 3, 10] (jt 4 (k:=(jc [] (c:=(by apply ct_laws_eqTypeS <;> first | assumption | omega)) (a:=cb_laws_eqTypeS) (k:=jr)))) ?_)
  refine jd (fun h1 => ?_) (fun h1 => ?_)
  · try simp at h1
    refine jq [4] ?_
    refine W_ret (je0 ?_)
    (try simp at *) <;> cases x <;> cases y <;> simp_all
  · try simp at h1
    refine W_skip (W_seq (W_rseqK [16] (jt 4 (k:=(jc [] (c:=(by apply ct_laws_eqTypeS <;> first | assumption | omega)) (a:=cb_laws_eqTypeS) (k:=jr)))) ?_))
    refine jd (fun h3 => ?_) (fun h3 => ?_)
    · try simp at h3
      refine jq [4] ?_
      refine W_ret (je0 ?_)
      (try simp at *) <;> cases x <;> cases y <;> simp_all
    · try simp at h3
      refine W_skip (jq [4] ?_)
      refine W_ret (je0 ?_)
      (try simp at *) <;> cases x <;> cases y <;> simp_all
theorem ct_laws_eqFrame {x y : Frm} (hx : bigFr x) (hy : bigFr y) : Ct Tryz.prog 31 [eFr x, eFr y] [] (.bool (decide (x = y))) [] := by
  simp only [bigFr] at hx hy
  obtain ⟨p0, p1, p2, p3⟩ := hx
  obtain ⟨q0, q1, q2, q3⟩ := hy
  refine Ct_bodyS tok Tryz.func31 rfl 17 (by kernel_rfl) (by kernel_rfl) fun X hX => ?_
  refine jq [2, 3] ?_
  refine W_seq (W_rseqK [2, 3, 10] (jt 4 (k:=(jc [] (c:=(by apply ct_laws_eqTypeS <;> first | assumption | omega)) (a:=cb_laws_eqTypeS) (k:=jr)))) ?_)
  refine jd (fun h1 => ?_) (fun h1 => ?_)
  · try simp at h1
    refine jq [4] ?_
    refine W_ret (je0 ?_)
    (try simp at *) <;> cases x <;> cases y <;> simp_all
  · try simp at h1
    refine W_skip (W_seq (W_rseqK [16] (jt 4 (k:=(jc [] (c:=(by apply ct_laws_eqTypeS <;> first | assumption | omega)) (a:=cb_laws_eqTypeS) (k:=jr)))) ?_))
    refine jd (fun h3 => ?_) (fun h3 => ?_)
    · try simp at h3
      refine jq [4] ?_
      refine W_ret (je0 ?_)
      (try simp at *) <;> cases x <;> cases y <;> simp_all
    · try simp at h3
      refine W_skip (jq [4] ?_)
      refine W_ret (je0 ?_)
      (try simp at *) <;> cases x <;> cases y <;> simp_all
end Go.Proofs
namespace Go.Proofs
open Go Go.Ev


theorem cb_laws_eqFrameOut : Callable Tryz.prog 52 := ⟨_, Tryz.func52, by kernel_rfl, by kernel_rfl⟩
theorem ct_laws_eqFrameOut {x y : FrO} (hx : bigFo x) (hy : bigFo y) : Ct Tryz.prog 52 [eFo x, eFo y] [] (.bool (decide (x = y))) [] := by
  obtain ⟨p0, p2⟩ := hx
  obtain ⟨q0, q2⟩ := hy
  refine Ct_bodyS tok Tryz.func52 rfl 16 (by kernel_rfl) (by kernel_rfl) fun X hX => ?_
  refine jq [2, 3] ?_
  refine W_seq (W_rseqK [2, 3, 10] (jt 4 (k:=(jc [] (c:=(by apply ct_laws_eqFrame_L <;> first | assumption | omega)) (a:=cb_laws_eqFrame) (k:=jr)))) ?_)
  refine jd (fun h1 => ?_) (fun h1 => ?_)
  · try simp at h1
    refine jq [4] ?_
    refine W_ret (je0 ?_)
    (try simp at *) <;> cases x <;> cases y <;> simp_all
  · try simp at h1
    refine W_skip (W_seq (jq [15] ?_))
    refine jd (fun h3 => ?_) (fun h3 => ?_)
    · try simp at h3
      refine jq [4] ?_
      refine W_ret (je0 ?_)
      (try simp at *) <;> cases x <;> cases y <;> simp_all
    · try simp at h3
      refine W_skip (jq [4] ?_)
      refine W_ret (je0 ?_)
      (try simp at *) <;> cases x <;> cases y <;> simp_all
end Go.Proofs
namespace Go.Proofs
open Go Go.Ev


theorem cb_laws_markTypeS : Callable Tryz.prog 107 := ⟨_, Tryz.func107, by kernel_rfl, by kernel_rfl⟩
theorem ct_laws_markTypeS {l : List Typ} {k : Nat} (hl : l.length ≤ 1099511627776) (hk : k ≤ 1099511627776) : Ct Tryz.prog 107 [.arr 0 0 l.length, .int .i64 k] [some (3, l.map eT)] (.int .i64 ((k + 3 * l.length : Nat) : Int)) [some (3, (mks mkT 3 k l.length).map eT)] := by
  refine Ct_bodyS tok Tryz.func107 rfl 35 (by kernel_rfl) (by kernel_rfl) fun X hX => ?_
  refine jq [0, 1] ?_
  refine W_seq (jq [0, 1, 5] ?_)
  refine W_block (W_loopU (α := Nat × Nat) [0, 1, 5] (fun p => [(1, .int .i64 (p.2 : Nat)), (5, .int .i64 (p.1 : Nat))]) (fun p => [(0, some (3, (mks mkT 3 k p.1).map eT ++ (l.map eT).drop p.1))]) (fun p => p.1 ≤ l.length ∧ p.2 = k + 3 * p.1) (fun p => l.length - p.1) ((0, k)) (fun p => by simp; rfl) (by simp [mks]) ?_ ?_)
  · simp
  rintro ⟨i, q⟩ ⟨hi, hq⟩
  simp only at hi hq
  obtain ⟨q1, e1⟩ : ∃ x, x = q + 1 := ⟨_, rfl⟩
  have w1 : IntKind.i64.wrap ((q : Int) + 1) = (q1 : Int) := by rw [wrap_i64 (by omega) (by omega)]; omega
  obtain ⟨q2, e2⟩ : ∃ x, x = q1 + 1 := ⟨_, rfl⟩
  have w2 : IntKind.i64.wrap ((q1 : Int) + 1) = (q2 : Int) := by rw [wrap_i64 (by omega) (by omega)]; omega
  obtain ⟨q3, e3⟩ : ∃ x, x = q2 + 1 := ⟨_, rfl⟩
  have w3 : IntKind.i64.wrap ((q2 : Int) + 1) = (q3 : Int) := by rw [wrap_i64 (by omega) (by omega)]; omega
  refine W_seq (W_rseqK [0, 1, 5, 9] (jh hX (by simp [w1, w2, w3]; rfl)) ?_)
  refine jd (fun h2 => ?_) (fun h2 => ?_)
  · try simp at h2
    rw [List.drop_eq_getElem_cons (show i < (l.map eT).length by simpa using h2), List.getElem_map]
    generalize hZ : (l.map eT).drop (i + 1) = Z
    obtain ⟨Y, hY⟩ : ∃ Y, Y = (mks mkT 3 k i).map eT := ⟨_, rfl⟩
    rw [← hY]
    have hYl : Y.length = i := by simp [hY, mks_len]
    have m1 := fun x => midG hYl x Z
    have m2 := fun x y => midS hYl x y Z
    have hnext : (mks mkT 3 k (i + 1)).map eT ++ (l.map eT).drop (i + 1) = Y ++ .agg [.int .i64 (q : Nat), .str (mText q1), .int .i64 (q2 : Nat)] :: Z := by
      rw [mks_succ, ← hq, hZ, hY]
      simp [mkT, e1, e2, e3]
      try omega
    refine W_skip (W_seq (W_block (W_rseqK [0, 1, 5] (jh hX (by simp [w1, w2, w3, h2, m1, m2, hYl]; rfl)) ?_)))
    refine W_rseqK [0, 1, 5] (jh hX (by simp [w1, w2, w3, h2, m1, m2, hYl]; (try (simp (disch := omega) only [wrap_i64]; (try simp [w1, w2, w3, h2, m1, m2, hYl]))); rfl)) ?_
    refine W_rseqK [0, 1, 5] (js hX 3 (by simp [w1, w2, w3, h2, m1, m2, hYl]; rfl) (jc [] (c:=(by apply ct_laws_markText <;> first | omega | assumption)) (a:=cb_laws_markText) (k:=(jh hX (by simp [w1, w2, w3, h2, m1, m2, hYl]; rfl))))) ?_
    refine W_rseqK [0, 1, 5] (jh hX (by simp [w1, w2, w3, h2, m1, m2, hYl]; (try (simp (disch := omega) only [wrap_i64]; (try simp [w1, w2, w3, h2, m1, m2, hYl]))); rfl)) ?_
    refine W_rseqK [0, 1, 5] (jh hX (by simp [w1, w2, w3, h2, m1, m2, hYl]; rfl)) ?_
    refine W_reg (jh hX (by simp [w1, w2, w3, h2, m1, m2, hYl]; (try (simp (disch := omega) only [wrap_i64]; (try simp [w1, w2, w3, h2, m1, m2, hYl]))); rfl)) ?_
    refine W_reg (jh hX (by simp [w1, w2, w3, h2, m1, m2, hYl]; (try (simp (disch := omega) only [wrap_i64]; (try simp [w1, w2, w3, h2, m1, m2, hYl]))); rfl)) ?_
    refine round_end ((i + 1, q3)) [0, 1, 5] (by simp [hnext, w1, w2, w3]; try (simp (disch := omega) only [wrap_i64]); try omega) ?_ ?_
    · exact ⟨by simp only; omega, by simp only; omega⟩
    · simp only; omega
  · try simp at h2
    have hil : i = l.length := by omega
    subst hil
    rw [List.drop_eq_nil_of_le (by simp), List.append_nil]
    refine W_exit (W_rseqK [4] (jh hX (by simp [w1, w2, w3, h2]; rfl)) ?_)
    refine W_ret (W_retR2 (by simp [w1, w2, w3, h2]; rfl) (by rfl) (.of_eq ?_) ?_)
    all_goals clear hX
    · skip
      simp; omega
    · skip
      simp
end Go.Proofs
namespace Go.Proofs
open Go Go.Ev


theorem cb_laws_markFrame : Callable Tryz.prog 59 := ⟨_, Tryz.func59, by kernel_rfl, by kernel_rfl⟩
theorem ct_laws_markFrame {s t : List Typ} {k : Nat} (hs : s.length ≤ 1048576) (ht : t.length ≤ 1048576) (hk : k ≤ 1073741824) : Ct Tryz.prog 59 [.agg [.arr 0 0 s.length, .arr 1 0 t.length], .int .i64 (k : Nat)] [some (3, s.map eT), some (3, t.map eT)] (.int .i64 ((k + 3 * s.length + 3 * t.length : Nat) : Int)) [some (3, (mks mkT 3 k s.length).map eT), some (3, (mks mkT 3 (k + 3 * s.length) t.length).map eT)] := by
  refine Ct_bodyS tok Tryz.func59 rfl 14 (by kernel_rfl) (by kernel_rfl) fun X hX => ?_
  refine jq [1, 2] ?_
  refine W_rseqK [1, 2] (jt 3 (k:=(jc [0] (c:=(by (try simp only [mapL_T, mapL_F, mapL_I, mapL_H, mapL_M, mapL_C]); apply ct_laws_markTypeS <;> first | omega | (change k + 3 * s.length ≤ _; omega) | (simp; omega))) (a:=cb_laws_markTypeS) (k:=jr)))) ?_
  refine W_rseqK [1] (jt 3 (k:=(jc [1] (c:=(by (try simp only [mapL_T, mapL_F, mapL_I, mapL_H, mapL_M, mapL_C]); apply ct_laws_markTypeS <;> first | omega | (change k + 3 * s.length ≤ _; omega) | (simp; omega))) (a:=cb_laws_markTypeS) (k:=jr)))) ?_
  refine jq [4] ?_
  refine W_ret (W_retR2 (by simp; rfl) (by rfl) (.of_eq ?_) ?_)
  all_goals clear hX
  · skip
    simp
  · skip
    simp
end Go.Proofs
namespace Go.Proofs
open Go Go.Ev


theorem cb_laws_markFrameOut : Callable Tryz.prog 53 := ⟨_, Tryz.func53, by kernel_rfl, by kernel_rfl⟩
theorem ct_laws_markFrameOut {s t : List Typ} {k : Nat} (hs : s.length ≤ 1048576) (ht : t.length ≤ 1048576) (hk : k ≤ 1073741824) {c : Int} : Ct Tryz.prog 53 [.agg [.arr 0 0 s.length, .arr 1 0 t.length, .int .i64 c], .int .i64 (k : Nat)] [some (3, s.map eT), some (3, t.map eT)] (.int .i64 ((k + 3 * s.length + 3 * t.length : Nat) : Int)) [some (3, (mks mkT 3 k s.length).map eT), some (3, (mks mkT 3 (k + 3 * s.length) t.length).map eT)] := by
  refine Ct_bodyS tok Tryz.func53 rfl 10 (by kernel_rfl) (by kernel_rfl) fun X hX => ?_
  refine jq [1, 2] ?_
  refine W_rseqK [1] (jt 3 (k:=(jc [0, 1] (c:=(by (try simp only [mapL_T, mapL_F, mapL_I, mapL_H, mapL_M, mapL_C]); apply ct_laws_markFrame <;> first | omega | (change k + 3 * s.length ≤ _; omega) | (simp; omega))) (a:=cb_laws_markFrame) (k:=jr)))) ?_
  refine jq [4] ?_
  refine W_ret (W_retR2 (by simp; rfl) (by rfl) (.of_eq ?_) ?_)
  all_goals clear hX
  · skip
    simp
  · skip
    simp
end Go.Proofs
namespace Go.Proofs
open Go Go.Ev


theorem cb_laws_heldTypeS : Callable Tryz.prog 156 := ⟨_, Tryz.func156, by kernel_rfl, by kernel_rfl⟩
theorem ct_laws_heldTypeS {k n : Nat} (hl : n ≤ 1099511627776) (hk : k ≤ 1099511627776) : Ct Tryz.prog 156 [.lst false 3 ((mks mkT 3 k n).map eT), .int .i64 k] [] (.int .i64 ((k + 3 * n : Nat) : Int)) [] := by
  refine Ct_bodyS tok Tryz.func156 rfl 41 (by kernel_rfl) (by kernel_rfl) fun X hX => ?_
  refine W_rseqK [0, 1] (jh hX (by simp [mks_len]; rfl)) ?_
  refine W_seq (W_rseqK [0, 1, 5] (jh hX (by simp [mks_len]; rfl)) ?_)
  refine W_block (W_loopU (α := Nat × Nat) [0, 1, 5] (fun p => [(1, .int .i64 (p.2 : Nat)), (5, .int .i64 (p.1 : Nat))]) (fun p => []) (fun p => p.1 ≤ n ∧ p.2 = k + 3 * p.1) (fun p => n - p.1) ((0, k)) (fun p => by simp; rfl) (by simp) ?_ ?_)
  · simp
  rintro ⟨i, q⟩ ⟨hi, hq⟩
  simp only at hi hq
  obtain ⟨q1, e1⟩ : ∃ x, x = q + 1 := ⟨_, rfl⟩
  have w1 : IntKind.i64.wrap ((q : Int) + 1) = (q1 : Int) := by rw [wrap_i64 (by omega) (by omega)]; omega
  obtain ⟨q2, e2⟩ : ∃ x, x = q1 + 1 := ⟨_, rfl⟩
  have w2 : IntKind.i64.wrap ((q1 : Int) + 1) = (q2 : Int) := by rw [wrap_i64 (by omega) (by omega)]; omega
  obtain ⟨q3, e3⟩ : ∃ x, x = q2 + 1 := ⟨_, rfl⟩
  have w3 : IntKind.i64.wrap ((q2 : Int) + 1) = (q3 : Int) := by rw [wrap_i64 (by omega) (by omega)]; omega
  have v1 : (q : Int) + 1 = (q1 : Int) := by omega
  have u1 : q + 1 = q1 := by omega
  have v2 : (q : Int) + 2 = (q2 : Int) := by omega
  have u2 : q + 2 = q2 := by omega
  refine W_seq (W_rseqK [0, 1, 5, 9] (jh hX (by simp [w1, w2, w3, v1, u1, v2, u2, mks_len]; rfl)) ?_)
  refine jd (fun h2 => ?_) (fun h2 => ?_)
  · try simp at h2
    have hg : ∀ h, (mks mkT 3 k n)[i]'h = mkT q := fun h => by rw [mks_get h2, hq]
    refine W_skip (W_seq (W_block (W_seq (W_rseqK [0, 1, 5, 18] (jh hX (by simp [w1, w2, w3, v1, u1, v2, u2, h2, hg, mkT, mks_len]; rfl)) ?_))))
    refine jd (fun h4 => ?_) (fun h4 => ?_)
    · try simp at h4
      all_goals
        refine W_rseqK [4] (jh hX (by simp [w1, w2, w3, v1, u1, v2, u2, h2, hg, mkT, mks_len]; rfl)) ?_
        refine W_ret (je (by simp [w1, w2, w3, v1, u1, v2, u2, h2, hg, mkT, mks_len]; rfl) ?_)
        simp; omega
    · try simp at h4
      all_goals
        refine W_skip (W_rseqK [0, 1, 5] (jh hX (by simp [w1, w2, w3, v1, u1, v2, u2, h2, hg, mkT, mks_len]; (try (simp (disch := omega) only [wrap_i64]; (try simp [w1, w2, w3, v1, u1, v2, u2, h2, hg, mkT, mks_len]))); rfl)) ?_)
        refine W_seq (jD [0, 1, 5, 28] (jS 6 (by simp [w1, w2, w3, v1, u1, v2, u2, h2, hg, mkT, mks_len]; rfl) (jC (c:=by apply ct_laws_markText <;> first | omega | assumption) (a:=cb_laws_markText) (k:=(jQ (by simp [w1, w2, w3, v1, u1, v2, u2, h2, hg, mkT, mks_len]; rfl))))) ?_)
        refine jd (fun h7 => ?_) (fun h7 => ?_)
        · try simp at h7
          all_goals
            refine W_rseqK [4] (jh hX (by simp [w1, w2, w3, v1, u1, v2, u2, h2, hg, mkT, mks_len]; rfl)) ?_
            refine W_ret (je (by simp [w1, w2, w3, v1, u1, v2, u2, h2, hg, mkT, mks_len]; rfl) ?_)
            simp; omega
        · try simp at h7
          all_goals
            refine W_skip (W_rseqK [0, 1, 5] (jh hX (by simp [w1, w2, w3, v1, u1, v2, u2, h2, hg, mkT, mks_len]; (try (simp (disch := omega) only [wrap_i64]; (try simp [w1, w2, w3, v1, u1, v2, u2, h2, hg, mkT, mks_len]))); rfl)) ?_)
            refine W_seq (W_rseqK [0, 1, 5, 37] (jh hX (by simp [w1, w2, w3, v1, u1, v2, u2, h2, hg, mkT, mks_len]; rfl)) ?_)
            refine jd (fun h10 => ?_) (fun h10 => ?_)
            · try simp at h10
              all_goals
                refine W_rseqK [4] (jh hX (by simp [w1, w2, w3, v1, u1, v2, u2, h2, hg, mkT, mks_len]; rfl)) ?_
                refine W_ret (je (by simp [w1, w2, w3, v1, u1, v2, u2, h2, hg, mkT, mks_len]; rfl) ?_)
                simp; omega
            · try simp at h10
              all_goals
                refine W_skip (W_reg (jh hX (by simp [w1, w2, w3, v1, u1, v2, u2, h2, hg, mkT, mks_len]; (try (simp (disch := omega) only [wrap_i64]; (try simp [w1, w2, w3, v1, u1, v2, u2, h2, hg, mkT, mks_len]))); rfl)) ?_)
                refine W_reg (jh hX (by simp [w1, w2, w3, v1, u1, v2, u2, h2, hg, mkT, mks_len]; (try (simp (disch := omega) only [wrap_i64]; (try simp [w1, w2, w3, v1, u1, v2, u2, h2, hg, mkT, mks_len]))); rfl)) ?_
                refine round_end ((i + 1, q3)) [0, 1, 5] (by simp [w1, w2, w3, v1, u1, v2, u2, h2, hg, mkT]; try (simp (disch := omega) only [wrap_i64])) ?_ ?_
                · exact ⟨by simp only; omega, by simp only; omega⟩
                · simp only; omega
  · try simp at h2
    refine W_exit (W_rseqK [4] (jh hX (by simp [w1, w2, w3, v1, u1, v2, u2, h2, mks_len]; rfl)) ?_)
    refine W_ret (je (by simp [w1, w2, w3, v1, u1, v2, u2, h2, mks_len]; rfl) ?_)
    simp; omega
end Go.Proofs
namespace Go.Proofs
open Go Go.Ev


theorem cb_laws_heldFrame : Callable Tryz.prog 102 := ⟨_, Tryz.func102, by kernel_rfl, by kernel_rfl⟩
theorem ct_laws_heldFrame {s t k : Nat} (hs : s ≤ 1048576) (ht : t ≤ 1048576) (hk : k ≤ 1073741824) : Ct Tryz.prog 102 [.agg [.lst false 3 ((mks mkT 3 k s).map eT), .lst false 3 ((mks mkT 3 (k + 3 * s) t).map eT)], .int .i64 (k : Nat)] [] (.int .i64 ((k + 3 * s + 3 * t : Nat) : Int)) [] := by
  refine Ct_bodyS tok Tryz.func102 rfl 18 (by kernel_rfl) (by kernel_rfl) fun X hX => ?_
  refine jq [1, 2] ?_
  refine W_rseqK [1, 2] (jt 3 (k:=(jc [] (c:=(by apply ct_laws_heldTypeS <;> first | omega | assumption)) (a:=cb_laws_heldTypeS) (k:=jr)))) ?_
  refine W_seq (jq [1, 2, 10] ?_)
  refine jd (fun h2 => ?_) (fun h2 => ?_)
  · try simp at h2
    refine jq [4] ?_
    refine W_ret (je (by simp [h2]; rfl) ?_)
    (try simp) <;> (try omega)
  · try simp at h2
    refine W_skip (W_rseqK [1] (js hX 3 (by simp [h2]; rfl) (jc [] (c:=(by apply ct_laws_heldTypeS <;> first | omega | assumption)) (a:=cb_laws_heldTypeS) (k:=jr))) ?_)
    refine W_seq (jq [1, 16] ?_)
    refine jd (fun h5 => ?_) (fun h5 => ?_)
    · try simp at h5
      refine jq [4] ?_
      refine W_ret (je (by simp [h2, h5]; rfl) ?_)
      (try simp) <;> (try omega)
    · try simp at h5
      refine W_skip (jq [4] ?_)
      refine W_ret (je (by simp [h2, h5]; rfl) ?_)
      (try simp) <;> (try omega)
end Go.Proofs
namespace Go.Proofs
open Go Go.Ev


theorem cb_laws_heldFrameOut : Callable Tryz.prog 54 := ⟨_, Tryz.func54, by kernel_rfl, by kernel_rfl⟩
theorem ct_laws_heldFrameOut {s t k : Nat} (hs : s ≤ 1048576) (ht : t ≤ 1048576) (hk : k ≤ 1073741824) {c : Int} : Ct Tryz.prog 54 [.agg [.lst false 3 ((mks mkT 3 k s).map eT), .lst false 3 ((mks mkT 3 (k + 3 * s) t).map eT), .int .i64 c], .int .i64 (k : Nat)] [] (.int .i64 ((k + 3 * s + 3 * t : Nat) : Int)) [] := by
  refine Ct_bodyS tok Tryz.func54 rfl 12 (by kernel_rfl) (by kernel_rfl) fun X hX => ?_
  refine jq [1, 2] ?_
  refine W_rseqK [1] (jt 3 (k:=(jc [] (c:=(by apply ct_laws_heldFrame <;> first | omega | assumption)) (a:=cb_laws_heldFrame) (k:=jr)))) ?_
  refine W_seq (jq [1, 10] ?_)
  refine jd (fun h2 => ?_) (fun h2 => ?_)
  · try simp at h2
    refine jq [4] ?_
    refine W_ret (je (by simp [h2]; rfl) ?_)
    (try simp) <;> (try omega)
  · try simp at h2
    refine W_skip (jq [4] ?_)
    refine W_ret (je (by simp [h2]; rfl) ?_)
    (try simp) <;> (try omega)
end Go.Proofs
