/- Part 12 of what the proofs lean on: what the functions of the program and of the reference compute. Conditions: none. -/
import Derived.Test.YtfdanoafhehjnaaGreatK10
set_option linter.all false
set_option linter.unusedVariables false
set_option linter.unusedSimpArgs false
set_option maxHeartbeats 2000000
set_option maxRecDepth 100000
namespace Go.Proofs
open Go Go.Ev


theorem cb_spec_FrameLub : Callable Tryz.prog 14 := ⟨_, Tryz.func14, by kernel_rfl, by kernel_rfl⟩
theorem ct_spec_FrameLub {l : List Cls} {a b : Frm} (hl : sizeL l ≤ 1099511627776) (ha : sizeFr a ≤ 1099511627776) (hb : sizeFr b ≤ 1099511627776) : Ct Tryz.prog 14 [.lst false 6 (l.map eC), eFr a, eFr b] [] (oFo (frmLubW l a b)) [] := by
  have hll : l.length ≤ 1099511627776 := by unfold sizeL at hl; omega
  simp only [sizeFr] at ha hb
  refine Ct_bodyS tok Tryz.func14 rfl 35 (by kernel_rfl) (by kernel_rfl) fun X hX => ?_
  refine jq [0, 4, 5, 6] ?_
  refine W_seq (jq [0, 4, 5, 6, 9] ?_)
  refine jd (fun h1 => ?_) (fun h1 => ?_)
  · try simp at h1
    refine W_rseqK [6] (jh hX (by simp [h1]; rfl)) ?_
    refine W_ret (W_retR (by simp [h1]; rfl) ?_ rfl)
    rw [frmLubW, if_pos (by omega)]
    exact Wk.agg (.cons (Wk.nilSlice _ _) (.cons (Wk.nilSlice _ _) (.cons (Wk.refl _) .nil)))
  · try simp at h1
    refine W_skip (W_seq (W_rseqK [0, 4, 5, 6, 29] (js hX 2 (by simp [h1]; rfl) (jc [] (c:=(by apply ct_spec_FrameRight <;> first | assumption | omega | (have h8 : frmRightW l a = true := h3.1.1; simp only [frmRightW, Bool.and_eq_true] at h8; have h9 := frmR_len h8.2; first | exact h8.1 | omega))) (a:=cb_spec_FrameRight) (k:=(jt 2 (k:=(jm 5 15 [0, 4, 5, 6, 20] (p:=fun b3_5 => by (try simp at b3_5); exact (jh hX (by simp [-atD_lt, -atL_lt]; rfl))) (q:=fun b3_5 => by (try simp at b3_5); exact (js hX 2 (by simp [-atD_lt, -atL_lt, h1]; rfl) (Runs.call [] rfl (by simp) rfl (by simp [-atD_lt, -atL_lt]; rfl) (by simp; rfl) (by apply ct_spec_l07Frame <;> first | assumption | omega | (have h8 : frmRightW l a = true := h3.1.1; simp only [frmRightW, Bool.and_eq_true] at h8; have h9 := frmR_len h8.2; first | exact h8.1 | omega)) cb_spec_l07Frame (by simp) (by simp) (by simp [-atD_lt, -atL_lt]; rfl) (jh hX (by simp [-atD_lt, -atL_lt]; rfl))))) (k:=(jt 1 (k:=(jm 8 21 [0, 4, 5, 6, 29] (p:=fun b3_11 => by (try simp at b3_11); exact (jh hX (by simp [-atD_lt, -atL_lt]; rfl))) (q:=fun b3_11 => by (try simp at b3_11); exact (jh hX (by simp [-atD_lt, -atL_lt, h1]; rfl))) (k:=jf))))))))))) ?_))
    refine jd (fun h3 => ?_) (fun h3 => ?_)
    · try simp at h3
      refine W_rseqK [6] (jh hX (by simp [h1]; rfl)) ?_
      refine W_ret (W_retR (by simp [h1]; rfl) ?_ rfl)
      rw [frmLubW, if_neg (by omega), if_neg (fun e9 => by simp only [frmRightW, Bool.and_eq_true, decide_eq_true_eq] at e9 h3; grind)]
      exact Wk.agg (.cons (Wk.nilSlice _ _) (.cons (Wk.nilSlice _ _) (.cons (Wk.refl _) .nil)))
    · try simp at h3
      refine W_skip (W_rseqK [6] (js hX 3 (by simp [h1]; rfl) (jc [] (c:=(by apply ct_spec_l07Lub <;> first | assumption | omega | (have h8 : frmRightW l a = true := h3.1.1; simp only [frmRightW, Bool.and_eq_true] at h8; have h9 := frmR_len h8.2; first | exact h8.1 | omega))) (a:=cb_spec_l07Lub) (k:=(jh hX (by simp [h1]; rfl))))) ?_)
      refine W_ret (W_retR (by simp [h1]; rfl) ?_ rfl)
      have hW : frmLubW l a b = if a.stack.length = b.stack.length then ⟨frmLubT l a b, 0⟩ else zFo 11 := by rw [frmLubW, if_neg (by omega), if_pos (by simp only [frmRightW, Bool.and_eq_true, decide_eq_true_eq] at h3 ⊢; grind)]
      rw [hW]
      exact Wk.refl _
end Go.Proofs
namespace Go.Proofs
open Go Go.Ev


theorem cb_impl_isList_impl_Class : Callable Tryz.prog 51 := ⟨_, Tryz.func51, by kernel_rfl, by kernel_rfl⟩
theorem ct_impl_isList_impl_Class {l : List Cls} : Ct Tryz.prog 51 [.lst false 6 (l.map eC)] [] (.bool (decide (l.length ≤ 400))) [] := by
  refine Ct_bodyS tok Tryz.func51 rfl 6 (by kernel_rfl) (by kernel_rfl) fun X hX => ?_
  refine jq [0] ?_
  refine jq [2] ?_
  refine W_ret (je0 ?_)
  simp
end Go.Proofs
namespace Go.Proofs
open Go Go.Ev


theorem cb_impl_world_frameRight_1 : Callable Tryz.prog 99 := ⟨_, Tryz.func99, by kernel_rfl, by kernel_rfl⟩
theorem ct_impl_world_frameRight_1 {l : List Cls} (hl : l.length ≤ 1099511627776) {t : Typ} : Ct Tryz.prog 99 [eT t, .fp [wv l]] [] (.bool (!knownT l t)) [] := by
  refine Ct_bodyS tok Tryz.func99 rfl 8 (by kernel_rfl) (by kernel_rfl) fun X hX => ?_
  refine jq [1, 2] ?_
  refine W_rseqK [3] (jt 2 (k:=(jc [] (c:=(by apply ct_impl_world_typeKnown <;> first | assumption | omega | (simp at *; omega) | simp_all)) (a:=cb_impl_world_typeKnown) (k:=jr)))) ?_
  refine W_ret (je0 ?_)
  simp
end Go.Proofs
namespace Go.Proofs
open Go Go.Ev


theorem cb_slices_IndexFunc_impl_Type_impl_Type : Callable Tryz.prog 160 := ⟨_, Tryz.func160, by kernel_rfl, by kernel_rfl⟩
theorem ct_slices_IndexFunc_impl_Type_impl_Type {cs : List Cls} (hc : cs.length ≤ 1099511627776) {l : List Typ} (hl : l.length ≤ 1099511627776) : Ct Tryz.prog 160 [.lst false 3 (l.map eT), .clo (.func 99) [] [.fp [wv cs]]] [] (.int .i64 (fix (fun t => !knownT cs t) l)) [] := by
  refine Ct_bodyS tok Tryz.func160 rfl 19 (by kernel_rfl) (by kernel_rfl) fun X hX => ?_
  refine jq [0, 1] ?_
  refine W_seq (jq [0, 1, 7, 8] ?_)
  refine W_block (W_loopU (α := Nat) [0, 1, 7, 8] (fun i => [(8, .int .i64 i)]) (fun i => []) (fun i => i ≤ l.length ∧ ∀ x ∈ l.take i, (fun t => !knownT cs t) x = false) (fun i => l.length - i) (0) (fun i => by simp; rfl) (by simp) ?_ ?_)
  · simp
  rintro i ⟨hi, hI⟩
  refine jq [0, 1, 7, 8, 9] ?_
  refine W_seq (jd (fun h2 => ?_) (fun h2 => ?_))
  · try simp at h2
    refine W_skip (W_seq (W_block (jq [0, 1, 5, 7, 8] ?_)))
    refine W_rseqK [0, 1, 5, 7, 8, 16] (js hX 5 (by simp [h2]; rfl) (jc [] (c:=(by apply ct_impl_world_frameRight_1 <;> first | assumption | exact hs _ (List.getElem_mem h2) | omega)) (a:=cb_impl_world_frameRight_1) (k:=jf))) ?_
    refine jd (fun h4 => ?_) (fun h4 => ?_)
    · try simp at h4
      refine jq [4] ?_
      refine W_ret (je (by simp [h2]; rfl) ?_)
      rw [fix_hit h2 hI (by simpa using h4)]
    · try simp at h4
      refine W_skip (W_reg (jh hX (by simp; (try (simp (disch := omega) only [wrap_i64]; (try simp))); rfl)) ?_)
      refine round_end (i + 1) [0, 1, 7, 8] (by simp [h2]; try (simp (disch := omega) only [wrap_i64])) ?_ ?_
      · exact ⟨by omega, take_not h2 hI (by simpa using h4)⟩
      · omega
  · try simp at h2
    refine W_exit (jq [4] ?_)
    refine W_ret (je (by simp [h2]; rfl) ?_)
    rw [fix_none (p := fun t => !knownT cs t) (fun x hx => hI x (by rw [List.take_of_length_le h2]; exact hx))]
end Go.Proofs
namespace Go.Proofs
open Go Go.Ev


theorem cb_slices_ContainsFunc_impl_Type_impl_Type : Callable Tryz.prog 100 := ⟨_, Tryz.func100, by kernel_rfl, by kernel_rfl⟩
theorem ct_slices_ContainsFunc_impl_Type_impl_Type {cs : List Cls} (hc : cs.length ≤ 1099511627776) {l : List Typ} (hl : l.length ≤ 1099511627776) : Ct Tryz.prog 100 [.lst false 3 (l.map eT), .clo (.func 99) [] [.fp [wv cs]]] [] (.bool (l.any (fun t => !knownT cs t))) [] := by
  refine Ct_bodyS tok Tryz.func100 rfl 9 (by kernel_rfl) (by kernel_rfl) fun X hX => ?_
  refine jq [0, 1] ?_
  refine W_rseqK [4] (jt 2 (k:=(jc [] (c:=(by apply ct_slices_IndexFunc_impl_Type_impl_Type <;> first | assumption | omega | (simp at *; omega) | simp_all)) (a:=cb_slices_IndexFunc_impl_Type_impl_Type) (k:=jr)))) ?_
  refine W_ret (je0 ?_)
  rw [← fix_ge]
end Go.Proofs
namespace Go.Proofs
open Go Go.Ev


theorem cb_impl_world_frameRight : Callable Tryz.prog 52 := ⟨_, Tryz.func52, by kernel_rfl, by kernel_rfl⟩
theorem ct_impl_world_frameRight {l : List Cls} (hl : l.length ≤ 1099511627776) {f : Frm} : Ct Tryz.prog 52 [wv l, eFr f] [] (.bool (frmR l f)) [] := by
  refine Ct_bodyS tok Tryz.func52 rfl 31 (by kernel_rfl) (by kernel_rfl) fun X hX => ?_
  refine jq [2, 3] ?_
  refine jq [3, 5] ?_
  refine W_rseqK [4] (jt 5 (k:=(jm 5 11 [3, 5, 16] (p:=fun b2_5 => by (try simp at b2_5); exact (jh hX (by simp [-atD_lt, -atL_lt, b2_5]; rfl))) (q:=fun b2_5 => by (try simp at b2_5); exact (jh hX (by simp [-atD_lt, -atL_lt]; rfl))) (k:=(jt 1 (k:=(jm 6 17 [3, 5, 23] (p:=fun b2_11 => by (try simp at b2_11); exact (js hX 3 (by simp [-atD_lt, -atL_lt, b2_11]; rfl) (Runs.callB2 rfl (by simp) rfl (by simp [-atD_lt, -atL_lt]; rfl) (by apply ct_slices_ContainsFunc_impl_Type_impl_Type <;> first | assumption | omega | (simp at *; omega) | simp_all) cb_slices_ContainsFunc_impl_Type_impl_Type (by simp) (by simp [-atD_lt, -atL_lt]; rfl) (jh hX (by simp [-atD_lt, -atL_lt]; rfl))))) (q:=fun b2_11 => by (try simp at b2_11); exact (jh hX (by simp [-atD_lt, -atL_lt]; rfl))) (k:=(jt 1 (k:=(jm 6 24 [30] (p:=fun b2_18 => by (try simp at b2_18); exact (js hX 3 (by simp [-atD_lt, -atL_lt, b2_18]; rfl) (Runs.callB2 rfl (by simp) rfl (by simp [-atD_lt, -atL_lt]; rfl) (by apply ct_slices_ContainsFunc_impl_Type_impl_Type <;> first | assumption | omega | (simp at *; omega) | simp_all) cb_slices_ContainsFunc_impl_Type_impl_Type (by simp) (by simp [-atD_lt, -atL_lt]; rfl) (jh hX (by simp [-atD_lt, -atL_lt]; rfl))))) (q:=fun b2_18 => by (try simp at b2_18); exact (jh hX (by simp [-atD_lt, -atL_lt]; rfl))) (k:=jr)))))))))))) ?_
  refine W_ret (je0 ?_)
  simp only [frmR, any_not, Bool.not_not, Bool.and_assoc]
end Go.Proofs
namespace Go.Proofs
open Go Go.Ev


theorem cb_impl_world_lubs : Callable Tryz.prog 101 := ⟨_, Tryz.func101, by kernel_rfl, by kernel_rfl⟩
theorem ct_impl_world_lubs {l : List Cls} (hl : l.length ≤ 1048576) {x y : List Typ} (hx : x.length ≤ 1048576) (e : x.length = y.length) : Ct Tryz.prog 101 [wv l, .lst false 3 (x.map eT), .lst false 3 (y.map eT)] [] (.lst true 3 ((lubLs (lubI l) x y).map eT)) [] := by
  refine Ct_bodyS tok Tryz.func101 rfl 30 (by kernel_rfl) (by kernel_rfl) fun X hX => ?_
  refine jq [0, 1, 2] ?_
  refine jq [0, 1, 2, 7] ?_
  refine W_seq (jq [0, 1, 2, 7, 11, 12] ?_)
  refine W_block (W_loopU (α := List Typ × Nat) [0, 1, 2, 7, 11, 12] (fun p => [(7, .arr 0 0 p.1.length), (12, .int .i64 p.2)]) (fun p => [(0, some (3, p.1.map eT))]) (fun p => p.2 ≤ x.length ∧ p.1.length = p.2 ∧ p.1 = lubLs (lubI l) (x.take p.2) (y.take p.2)) (fun p => x.length - p.2) (([], 0)) (fun p => by simp; rfl) (by simp) ?_ ?_)
  · simp [lubLs]
  rintro ⟨o, i⟩ ⟨hi, hn, hI⟩
  simp only at hi hn hI
  have w0 : o.length ≤ 1099511627776 := by omega
  have w1 : (o.length + 1) * 32 ≤ 140737488355328 := by omega
  have w2 : o.length ≤ 1099511627775 := by omega
  refine jq [0, 1, 2, 7, 11, 12, 13] ?_
  refine W_seq (jd (fun h3 => ?_) (fun h3 => ?_))
  · try simp at h3
    have h3b : i < y.length := by omega
    refine W_skip (W_seq (W_block (jq [0, 1, 2, 7, 8, 11, 12] ?_)))
    refine W_held (n := 12) (A := [0, 1, 2, 3, 4, 5, 6, 7, 8, 9]) (B := [10, 11]) (L := []) hmo (by kernel_rfl) tok hX (by simp [w0, w1, w2, h3, h3b]; rfl) (jH (p:=fun X hX => (jc [] (c:=(by apply ct_impl_world_typeLub <;> first | assumption | omega | (simp at *; omega) | simp_all)) (a:=cb_impl_world_typeLub) (k:=jf))) (k:=(jH (p:=fun X hX => jr) (k:=.nil)))) (jh hX (by simp [w0, w1, w2, h3, h3b]; rfl)) ?_
    refine W_reg (jh hX (by simp; (try (simp (disch := omega) only [wrap_i64]; (try simp))); rfl)) ?_
    refine round_endT ((o ++ [lubI l x[i] y[i]], i + 1)) [0, 1, 2, 7, 11, 12] 1 (by simp [hX]) (by simp) (by simp [w0, w1, w2, h3, h3b]; try (simp (disch := omega) only [wrap_i64])) ?_ ?_
    · exact ⟨by simp only; omega, by simp [hn], by simp only; rw [lubLs_snoc h3 e, hI]⟩
    · simp only; omega
  · try simp at h3
    refine W_exit (jq [6] ?_)
    refine W_ret (W_retR (by simp [w0, w1, w2, h3]; rfl) ?_ rfl)
    obtain rfl : i = x.length := by omega
    rw [List.take_of_length_le (Nat.le_refl _), List.take_of_length_le (by omega)] at hI
    rw [← hI]
    exact Wk.refl _
end Go.Proofs
namespace Go.Proofs
open Go Go.Ev


theorem cb_impl_world_frameLub : Callable Tryz.prog 53 := ⟨_, Tryz.func53, by kernel_rfl, by kernel_rfl⟩
theorem ct_impl_world_frameLub {l : List Cls} (hl : l.length ≤ 1048576) {a b : Frm} (ha : a.stack.length ≤ 1048576) (hb : a.locals.length ≤ 1048576) (e : a.stack.length = b.stack.length) (e2 : a.locals.length = b.locals.length) : Ct Tryz.prog 53 [wv l, eFr a, eFr b] [] (oFr (frmLubI l a b)) [] := by
  refine Ct_bodyS tok Tryz.func53 rfl 20 (by kernel_rfl) (by kernel_rfl) fun X hX => ?_
  refine jq [0, 4, 5, 6] ?_
  refine jL 11 [0, 1, 2, 3, 4, 6, 7, 8, 9, 10] [5] [6] ([0, 1]) hX (by simp; rfl) (jH (p:=fun X hX => (jc [] (c:=(by apply ct_impl_world_lubs <;> first | assumption | omega | (simp at *; omega) | simp_all)) (a:=cb_impl_world_lubs) (k:=jf))) (k:=.nil)) (jc [] (c:=(by apply ct_impl_world_lubs <;> first | assumption | omega | (simp at *; omega) | simp_all)) (a:=cb_impl_world_lubs) (k:=jr)) ?_
  refine W_ret (je0 ?_)
  rfl
end Go.Proofs
namespace Go.Proofs
open Go Go.Ev


theorem cb_impl_FrameLub : Callable Tryz.prog 15 := ⟨_, Tryz.func15, by kernel_rfl, by kernel_rfl⟩
theorem ct_impl_FrameLub {l : List Cls} (hl : l.length ≤ 1048576) (hs : sizeL l ≤ 1099511627776) {a b : Frm} (ha : sizeFr a ≤ 1099511627776) (hb : sizeFr b ≤ 1099511627776) : Ct Tryz.prog 15 [.lst false 6 (l.map eC), eFr a, eFr b] [] (oFo (frmLubW l a b)) [] := by
  simp only [sizeFr] at ha hb
  refine Ct_bodyS tok Tryz.func15 rfl 57 (by kernel_rfl) (by kernel_rfl) fun X hX => ?_
  refine jq [0, 4, 5, 6] ?_
  refine W_seq (W_rseqK [0, 4, 5, 6, 11] (jt 1 (k:=(jc [] (c:=(by apply ct_impl_isList_impl_Class <;> first | assumption | omega | (have h9 := frmR_len h4.1.1.2; omega))) (a:=cb_impl_isList_impl_Class) (k:=jr)))) ?_)
  refine jd (fun h1 => ?_) (fun h1 => ?_)
  · try simp at h1
    refine jq [6] ?_
    refine W_ret (W_retR (by simp; rfl) ?_ rfl)
    rw [frmLubW, if_pos (by omega)]
    exact Wk.agg (.cons (Wk.nilSlice _ _) (.cons (Wk.nilSlice _ _) (.cons (Wk.refl _) .nil)))
  · try simp at h1
    refine W_skip (W_rseqK [4, 5, 6, 7, 8] (jt 1 (k:=(jc [] (c:=(by apply ct_impl_rightWorld <;> first | assumption | omega | (have h9 := frmR_len h4.1.1.2; omega))) (a:=cb_impl_rightWorld) (k:=jr)))) ?_)
    refine W_seq (W_block (W_rseqK [4, 5, 6, 7, 18] (jt 3 (k:=(jm 5 21 [4, 5, 6, 7, 26] (p:=fun b4_3 => by (try simp at b4_3); exact (jh hX (by simp [-atD_lt, -atL_lt]; rfl))) (q:=fun b4_3 => by (try simp at b4_3); exact (js hX 2 (by simp [-atD_lt, -atL_lt]; rfl) (Runs.call [] rfl (by simp) rfl (by simp [-atD_lt, -atL_lt]; rfl) (by simp; rfl) (by apply ct_impl_world_frameRight <;> first | assumption | omega | (have h9 := frmR_len h4.1.1.2; omega)) cb_impl_world_frameRight (by simp) (by simp) (by simp [-atD_lt, -atL_lt]; rfl) (jh hX (by simp [-atD_lt, -atL_lt]; rfl))))) (k:=(jt 1 (k:=(jm 5 27 [4, 5, 6, 7, 32] (p:=fun b4_9 => by (try simp at b4_9); exact (jh hX (by simp [-atD_lt, -atL_lt]; rfl))) (q:=fun b4_9 => by (try simp at b4_9); exact (js hX 2 (by simp [-atD_lt, -atL_lt]; rfl) (Runs.call [] rfl (by simp) rfl (by simp [-atD_lt, -atL_lt]; rfl) (by simp; rfl) (by apply ct_impl_world_frameRight <;> first | assumption | omega | (have h9 := frmR_len h4.1.1.2; omega)) cb_impl_world_frameRight (by simp) (by simp) (by simp [-atD_lt, -atL_lt]; rfl) (jh hX (by simp [-atD_lt, -atL_lt]; rfl))))) (k:=(jt 1 (k:=(jm 8 33 [4, 5, 6, 7, 41] (p:=fun b4_15 => by (try simp at b4_15); exact (jh hX (by simp [-atD_lt, -atL_lt]; rfl))) (q:=fun b4_15 => by (try simp at b4_15); exact (jh hX (by simp [-atD_lt, -atL_lt]; rfl))) (k:=jr)))))))))))) ?_))
    refine jd (fun h4 => ?_) (fun h4 => ?_)
    · try simp at h4
      refine jq [6] ?_
      refine W_ret (W_retR (by simp; rfl) ?_ rfl)
      rw [frmLubW, if_neg (by omega), if_neg (fun e9 => by simp only [frmRightW, Bool.and_eq_true, decide_eq_true_eq] at e9 h4; grind)]
      exact Wk.agg (.cons (Wk.nilSlice _ _) (.cons (Wk.nilSlice _ _) (.cons (Wk.refl _) .nil)))
    · try simp at h4
      refine jq [4, 5, 6, 7, 43] ?_
      refine jd (fun h6 => ?_) (fun h6 => ?_)
      · try simp at h6
        refine jq [6] ?_
        refine W_ret (W_retR (by simp; rfl) ?_ rfl)
        rw [frmLubW, if_neg (by omega), if_pos (by simp only [frmRightW, Bool.and_eq_true, decide_eq_true_eq] at h4 ⊢; grind), if_neg h6]
        exact Wk.agg (.cons (Wk.nilSlice _ _) (.cons (Wk.nilSlice _ _) (.cons (Wk.refl _) .nil)))
      · try simp at h6
        refine W_skip (W_rseqK [6] (jt 3 (k:=(jc [] (c:=(by apply ct_impl_world_frameLub <;> first | assumption | omega | (have h9 := frmR_len h4.1.1.2; omega))) (a:=cb_impl_world_frameLub) (k:=jr)))) ?_)
        refine W_ret (W_retR (by simp; rfl) ?_ rfl)
        rw [frmLubW, if_neg (by omega), if_pos (by simp only [frmRightW, Bool.and_eq_true, decide_eq_true_eq] at h4 ⊢; grind), if_pos h6, ← frmLub_eq h4.1.1.2 h4.1.2]
        exact Wk.refl _
end Go.Proofs
namespace Go.Proofs
open Go Go.Ev


theorem cb_laws_lwFrame : Callable Tryz.prog 16 := ⟨_, Tryz.func16, by kernel_rfl, by kernel_rfl⟩
theorem ct_laws_lwFrame {x y : Frm} (hx1 : x.stack.length ≤ 1048576) (hx2 : x.locals.length ≤ 1048576) : Ct Tryz.prog 16 [eFr x, eFr y] [] (.bool (decide (x = y))) [] := by
  refine Ct_bodyS tok Tryz.func16 rfl 59 (by kernel_rfl) (by kernel_rfl) fun X hX => ?_
  refine jq [2, 3] ?_
  refine W_seq (W_rseqK [2, 3, 22] (jt 8 (k:=(jm 8 14 [2, 3, 22] (p:=fun b1_8 => by (try simp at b1_8); exact (jh hX (by simp [-atD_lt, -atL_lt]; rfl))) (q:=fun b1_8 => by (try simp at b1_8); exact (jh hX (by simp [-atD_lt, -atL_lt]; rfl))) (k:=jf)))) ?_)
  refine jd (fun h1 => ?_) (fun h1 => ?_)
  · try simp at h1
    refine jq [4] ?_
    refine W_ret (je0 ?_)
    rw [decide_eq_false (fun e => by rw [e] at h1; omega)]
  · try simp at h1
    have hl1 : x.stack.length = y.stack.length := by omega
    have hl2 : x.locals.length = y.locals.length := by omega
    refine W_skip (W_seq (jq [2, 3, 5] ?_))
    refine W_block (W_loopU (α := Nat) [2, 3, 5] (fun i => [(5, .int .i64 i)]) (fun i => []) (fun i => i ≤ x.stack.length ∧ (x.stack.drop i = y.stack.drop i ↔ x.stack = y.stack)) (fun i => x.stack.length - i) (0) (fun i => by simp; rfl) (by simp) ?_ ?_)
    · simp
    rintro i ⟨hi, hI⟩
    refine W_seq (jq [2, 3, 5, 27] ?_)
    refine jd (fun h4 => ?_) (fun h4 => ?_)
    · try simp at h4
      have h4b : i < y.stack.length := by omega
      rw [List.drop_eq_getElem_cons h4, List.drop_eq_getElem_cons h4b, List.cons.injEq] at hI
      refine W_skip (W_seq (W_block (jD [2, 3, 5, 40] (jQ (by simp [h4, h4b]; rfl)) ?_)))
      refine jd (fun h6 => ?_) (fun h6 => ?_)
      · try simp at h6
        refine W_rseqK [4] (jh hX (by simp [h4, h4b]; rfl)) ?_
        refine W_ret (je (by simp [h4, h4b]; rfl) ?_)
        rw [decide_eq_false (fun e => by subst e; simp_all)]
      · try simp at h6
        have he : x.stack[i] = y.stack[i] := by
          generalize x.stack[i] = u at h6 ⊢
          generalize y.stack[i] = v at h6 ⊢
          cases u; cases v; simp_all
        refine W_skip (W_reg (jh hX (by simp [h4, h4b]; (try (simp (disch := omega) only [wrap_i64]; (try simp [h4, h4b]))); rfl)) ?_)
        refine round_end (i + 1) [2, 3, 5] (by simp [h4, h4b]; try (simp (disch := omega) only [wrap_i64])) ?_ ?_
        · exact ⟨by omega, by rw [← hI]; exact ⟨fun h => ⟨he, h⟩, fun h => h.2⟩⟩
        · omega
    · try simp at h4
      have hst : x.stack = y.stack := hI.1 (by rw [List.drop_eq_nil_of_le (by omega), List.drop_eq_nil_of_le (by omega)])
      refine W_exit (W_seq (W_rseqK [2, 3, 6] (jh hX (by simp [h4]; rfl)) ?_))
      refine W_block (W_loopU (α := Nat) [2, 3, 6] (fun i => [(6, .int .i64 i)]) (fun i => []) (fun i => i ≤ x.locals.length ∧ (x.locals.drop i = y.locals.drop i ↔ x.locals = y.locals)) (fun i => x.locals.length - i) (0) (fun i => by simp; rfl) (by simp) ?_ ?_)
      · simp
      rintro i ⟨hi, hI⟩
      refine W_seq (W_rseqK [2, 3, 6, 45] (jh hX (by simp [h4]; rfl)) ?_)
      refine jd (fun h9 => ?_) (fun h9 => ?_)
      · try simp at h9
        have h9b : i < y.locals.length := by omega
        rw [List.drop_eq_getElem_cons h9, List.drop_eq_getElem_cons h9b, List.cons.injEq] at hI
        refine W_skip (W_seq (W_block (jD [2, 3, 6, 58] (jQ (by simp [h4, h9, h9b]; rfl)) ?_)))
        refine jd (fun h11 => ?_) (fun h11 => ?_)
        · try simp at h11
          refine W_rseqK [4] (jh hX (by simp [h4, h9, h9b]; rfl)) ?_
          refine W_ret (je (by simp [h4, h9, h9b]; rfl) ?_)
          rw [decide_eq_false (fun e => by subst e; simp_all)]
        · try simp at h11
          have he : x.locals[i] = y.locals[i] := by
            generalize x.locals[i] = u at h11 ⊢
            generalize y.locals[i] = v at h11 ⊢
            cases u; cases v; simp_all
          refine W_skip (W_reg (jh hX (by simp [h4, h9, h9b]; (try (simp (disch := omega) only [wrap_i64]; (try simp [h4, h9, h9b]))); rfl)) ?_)
          refine round_end (i + 1) [2, 3, 6] (by simp [h4, h9, h9b]; try (simp (disch := omega) only [wrap_i64])) ?_ ?_
          · exact ⟨by omega, by rw [← hI]; exact ⟨fun h => ⟨he, h⟩, fun h => h.2⟩⟩
          · omega
      · try simp at h9
        have hlo : x.locals = y.locals := hI.1 (by rw [List.drop_eq_nil_of_le (by omega), List.drop_eq_nil_of_le (by omega)])
        refine W_exit (W_rseqK [4] (jh hX (by simp [h4, h9]; rfl)) ?_)
        refine W_ret (je (by simp [h4, h9]; rfl) ?_)
        rw [decide_eq_true (by cases x; cases y; simp_all)]
end Go.Proofs
namespace Go.Proofs
open Go Go.Ev


theorem cb_slices_EqualFunc_impl_Type_impl_Type_impl_Type_impl_Type : Callable Tryz.prog 54 := ⟨_, Tryz.func54, by kernel_rfl, by kernel_rfl⟩
theorem ct_slices_EqualFunc_impl_Type_impl_Type_impl_Type_impl_Type {l : List Cls} (hl : l.length ≤ 1048576) {a b : List Typ} (ha : a.length ≤ 1099511627776) (hb : b.length ≤ 1099511627776) : Ct Tryz.prog 54 [.lst false 3 (a.map eT), .lst false 3 (b.map eT), .clo (.func 45) [wv l] []] [] (.bool (leLs (leI l) a b)) [] := by
  refine Ct_bodyS tok Tryz.func54 rfl 32 (by kernel_rfl) (by kernel_rfl) fun X hX => ?_
  refine jq [0, 1, 2] ?_
  refine W_seq (jq [0, 1, 2, 14] ?_)
  refine jd (fun h1 => ?_) (fun h1 => ?_)
  · try simp at h1
    refine jq [6] ?_
    refine W_ret (je0 ?_)
    rw [leLs_ne h1]
  · try simp at h1
    have h1b : a.length = b.length := by omega
    refine W_skip (W_seq (jq [1, 2, 15, 16, 17] ?_))
    refine W_block (W_loopU (α := Nat) [1, 2, 15, 16, 17] (fun i => [(17, .int .i64 i)]) (fun i => []) (fun i => i ≤ a.length ∧ leLs (leI l) (a.drop i) (b.drop i) = leLs (leI l) a b) (fun i => a.length - i) (0) (fun i => by simp; rfl) (by simp) ?_ ?_)
    · simp
    rintro i ⟨hi, hI⟩
    refine jq [1, 2, 15, 16, 17, 18] ?_
    refine W_seq (jd (fun h4 => ?_) (fun h4 => ?_))
    · try simp at h4
      have h4b : i < b.length := by omega
      rw [leLs_drop h4 h1b] at hI
      refine W_skip (W_seq (W_block (W_rseqK [1, 2, 7, 8, 15, 16, 17] (jh hX (by simp [h4, h4b]; rfl)) ?_)))
      refine W_rseqK [1, 2, 8, 9, 15, 16, 17] (jh hX (by simp [h4, h4b]; rfl)) ?_
      refine W_rseqK [1, 2, 15, 16, 17, 30] (js hX 3 (by simp [h4, h4b]; rfl) (jc [] (c:=(by apply ct_impl_world_typeLe <;> assumption)) (a:=cb_impl_world_typeLe) (k:=jr))) ?_
      refine jd (fun h7 => ?_) (fun h7 => ?_)
      · try simp at h7
        refine jq [6] ?_
        refine W_ret (je (by simp [h4, h4b]; rfl) ?_)
        rw [← hI, h7]; rfl
      · try simp at h7
        rw [h7, Bool.true_and] at hI
        refine W_skip (W_reg (jh hX (by simp; (try (simp (disch := omega) only [wrap_i64]; (try simp))); rfl)) ?_)
        refine round_endT (i + 1) [1, 2, 15, 16, 17] 0 (by simp [hX]) (by simp) (by simp [h4, h4b]; try (simp (disch := omega) only [wrap_i64])) ?_ ?_
        · exact ⟨by omega, hI⟩
        · omega
    · try simp at h4
      refine W_exit (jq [6] ?_)
      refine W_ret (je (by simp [h4]; rfl) ?_)
      rw [← hI, leLs_end h4 h1b]
end Go.Proofs
namespace Go.Proofs
open Go Go.Ev


theorem cb_impl_FrameLe : Callable Tryz.prog 17 := ⟨_, Tryz.func17, by kernel_rfl, by kernel_rfl⟩
theorem ct_impl_FrameLe {l : List Cls} (hl : l.length ≤ 1048576) (hs : sizeL l ≤ 1099511627776) {a b : Frm} (ha : sizeFr a ≤ 1099511627776) (hb : sizeFr b ≤ 1099511627776) : Ct Tryz.prog 17 [.lst false 6 (l.map eC), eFr a, eFr b] [] (.bool (frmLeW l a b)) [] := by
  simp only [sizeFr] at ha hb
  refine Ct_bodyS tok Tryz.func17 rfl 43 (by kernel_rfl) (by kernel_rfl) fun X hX => ?_
  refine jq [0, 4, 5] ?_
  refine W_rseqK [4, 5, 7, 8] (jt 1 (k:=(jc [] (c:=(by apply ct_impl_rightWorld <;> first | assumption | omega | (simp at *; omega) | simp_all)) (a:=cb_impl_rightWorld) (k:=jr)))) ?_
  refine W_rseqK [6] (jt 2 (k:=(jm 4 15 [4, 5, 7, 19] (p:=fun b2_2 => by (try simp at b2_2); exact (js hX 2 (by simp [-atD_lt, -atL_lt]; rfl) (Runs.call [] rfl (by simp) rfl (by simp [-atD_lt, -atL_lt]; rfl) (by simp; rfl) (by apply ct_impl_world_frameRight <;> first | assumption | omega | (simp at *; omega) | simp_all) cb_impl_world_frameRight (by simp) (by simp) (by simp [-atD_lt, -atL_lt]; rfl) (jh hX (by simp [-atD_lt, -atL_lt]; rfl))))) (q:=fun b2_2 => by (try simp at b2_2); exact (jh hX (by simp [-atD_lt, -atL_lt]; rfl))) (k:=(jt 1 (k:=(jm 4 20 [4, 5, 7, 24] (p:=fun b2_7 => by (try simp at b2_7); exact (js hX 2 (by simp [-atD_lt, -atL_lt]; rfl) (Runs.call [] rfl (by simp) rfl (by simp [-atD_lt, -atL_lt]; rfl) (by simp; rfl) (by apply ct_impl_world_frameRight <;> first | assumption | omega | (simp at *; omega) | simp_all) cb_impl_world_frameRight (by simp) (by simp) (by simp [-atD_lt, -atL_lt]; rfl) (jh hX (by simp [-atD_lt, -atL_lt]; rfl))))) (q:=fun b2_7 => by (try simp at b2_7); exact (jh hX (by simp [-atD_lt, -atL_lt]; rfl))) (k:=(jt 1 (k:=(jm 8 25 [4, 5, 7, 33] (p:=fun b2_12 => by (try simp at b2_12); exact (js hX 6 (by simp [-atD_lt, -atL_lt]; rfl) (Runs.call [] rfl (by simp) rfl (by simp [-atD_lt, -atL_lt]; rfl) (by simp; rfl) (by apply ct_slices_EqualFunc_impl_Type_impl_Type_impl_Type_impl_Type <;> first | assumption | omega | (simp at *; omega) | simp_all) cb_slices_EqualFunc_impl_Type_impl_Type_impl_Type_impl_Type (by simp) (by simp) (by simp [-atD_lt, -atL_lt]; rfl) (jh hX (by simp [-atD_lt, -atL_lt]; rfl))))) (q:=fun b2_12 => by (try simp at b2_12); exact (jh hX (by simp [-atD_lt, -atL_lt]; rfl))) (k:=(jt 1 (k:=(jm 8 34 [42] (p:=fun b2_21 => by (try simp at b2_21); exact (js hX 6 (by simp [-atD_lt, -atL_lt]; rfl) (Runs.call [] rfl (by simp) rfl (by simp [-atD_lt, -atL_lt]; rfl) (by simp; rfl) (by apply ct_slices_EqualFunc_impl_Type_impl_Type_impl_Type_impl_Type <;> first | assumption | omega | (simp at *; omega) | simp_all) cb_slices_EqualFunc_impl_Type_impl_Type_impl_Type_impl_Type (by simp) (by simp) (by simp [-atD_lt, -atL_lt]; rfl) (jh hX (by simp [-atD_lt, -atL_lt]; rfl))))) (q:=fun b2_21 => by (try simp at b2_21); exact (jh hX (by simp [-atD_lt, -atL_lt]; rfl))) (k:=jr)))))))))))))))) ?_
  refine W_ret (je0 ?_)
  rw [← frmLeW_of]
end Go.Proofs
namespace Go.Proofs
open Go Go.Ev


theorem cb_impl_FrameRight : Callable Tryz.prog 18 := ⟨_, Tryz.func18, by kernel_rfl, by kernel_rfl⟩
theorem ct_impl_FrameRight {l : List Cls} (hl : l.length ≤ 1048576) (hs : sizeL l ≤ 1099511627776) {f : Frm} : Ct Tryz.prog 18 [.lst false 6 (l.map eC), eFr f] [] (.bool (frmRightW l f)) [] := by
  refine Ct_bodyS tok Tryz.func18 rfl 18 (by kernel_rfl) (by kernel_rfl) fun X hX => ?_
  refine jq [0, 3] ?_
  refine W_rseqK [3, 5, 6] (jt 1 (k:=(jc [] (c:=(by apply ct_impl_rightWorld <;> first | assumption | omega | (simp at *; omega) | simp_all)) (a:=cb_impl_rightWorld) (k:=jr)))) ?_
  refine W_rseqK [4] (jt 2 (k:=(jm 4 13 [17] (p:=fun b2_2 => by (try simp at b2_2); exact (js hX 2 (by simp [-atD_lt, -atL_lt]; rfl) (Runs.call [] rfl (by simp) rfl (by simp [-atD_lt, -atL_lt]; rfl) (by simp; rfl) (by apply ct_impl_world_frameRight <;> first | assumption | omega | (simp at *; omega) | simp_all) cb_impl_world_frameRight (by simp) (by simp) (by simp [-atD_lt, -atL_lt]; rfl) (jh hX (by simp [-atD_lt, -atL_lt]; rfl))))) (q:=fun b2_2 => by (try simp at b2_2); exact (jh hX (by simp [-atD_lt, -atL_lt]; rfl))) (k:=jr)))) ?_
  refine W_ret (je0 ?_)
  simp only [frmRightW]
end Go.Proofs
namespace Go.Proofs
open Go Go.Ev

attribute [local irreducible] nS nV wordS wordV ltyS ltyV pickV l06T
theorem cb_laws_FnFrameLub : Callable Tryz.prog 4 := ⟨_, Tryz.func4, by kernel_rfl, by kernel_rfl⟩
theorem ct_laws_FnFrameLub {c0 : List Int} (hc0 : c0.length < 4611686018427387904) : Ct Tryz.prog 4 [.lst false 1 (c0.map bV)] [] (.bool true) [] := by
  refine Ct_bodyS tok Tryz.func4 rfl 94 (by kernel_rfl) (by kernel_rfl) fun X hX => ?_
  refine jq [0] ?_
  refine W_seq (jq [0, 11] ?_)
  refine jd (fun h1 => ?_) (fun h1 => ?_)
  · try simp at h1
    refine W_rseqK [2] (jh hX (by simp [h1]; rfl)) ?_
    refine W_ret (je (by simp [h1]; rfl) ?_)
    rfl
  · try simp at h1
    refine W_skip (W_rseqL [3, 4, 5] ?_)
    refine WL_go 1 ((jh hX (by simp [h1]; rfl))) ?_
    refine WL_cE [] rfl (by simp) rfl (by simp; rfl) (by simp; rfl) (by apply ct_spec_DrawFrameLub <;> first | omega | assumption | (simp only; omega)) cb_spec_DrawFrameLub (by simp) (by simp) ?_
    rintro _ _ ⟨l, a, b, rfl, rfl, hl, hli, ha1, ha2, hb1, hb2, ha3, ha4, hb3, hb4⟩
    refine WL_le' (Le.of_eq (by simp; rfl)) ?_
    obtain ⟨as1, al1⟩ := a
    obtain ⟨bs1, bl1⟩ := b
    simp only at ha1 ha2 hb1 hb2 ha3 ha4 hb3 hb4
    refine WL_fin ((jh hX (by simp [h1]; rfl))) ?_
    have hs := world_size hl hli
    have za := frm_size (f := ⟨as1, al1⟩) ha1 ha2 ha3 ha4
    have zb := frm_size (f := ⟨bs1, bl1⟩) hb1 hb2 hb3 hb4
    obtain ⟨x, hx⟩ : ∃ x, frmLubW l ⟨as1, al1⟩ ⟨bs1, bl1⟩ = x := ⟨_, rfl⟩
    have hx2 : frmLubW l ⟨bs1, bl1⟩ ⟨as1, al1⟩ = x := by rw [frmLubW_comm, hx]
    have hok := @frmLubW_ok l ⟨as1, al1⟩ ⟨bs1, bl1⟩
    have hok2 := @frmLubW_ok l ⟨bs1, bl1⟩ ⟨as1, al1⟩
    have hln := frmLubW_len l ⟨as1, al1⟩ ⟨bs1, bl1⟩
    rw [hx] at hok hln
    rw [hx2] at hok2
    obtain ⟨xf, xc⟩ := x
    obtain ⟨xs, xl⟩ := xf
    simp only at hok hok2 hln
    refine W_rseqK [3, 4, 5, 6] (js hX 3 (by simp [h1, hx, hx2]; rfl) (jB (c:=(by apply (ct_spec_FrameLub (l := l) (a := ⟨as1, al1⟩) (b := ⟨bs1, bl1⟩)) <;> first | omega | assumption | (simp only; omega))) (a:=cb_spec_FrameLub) (k:=(jh hX (by simp [h1, hx, hx2]; rfl))))) ?_
    refine W_rseqK [3, 4, 5, 6, 7] (js hX 3 (by simp [h1, hx, hx2]; rfl) (jB (c:=(by apply (ct_impl_FrameLub (l := l) (a := ⟨as1, al1⟩) (b := ⟨bs1, bl1⟩)) <;> first | omega | assumption | (simp only; omega))) (a:=cb_impl_FrameLub) (k:=(jh hX (by simp [h1, hx, hx2]; rfl))))) ?_
    refine W_rseqK [3, 4, 5, 6, 7, 8] (js hX 3 (by simp [h1, hx, hx2]; rfl) (jB (c:=(by apply (ct_impl_FrameLub (l := l) (a := ⟨bs1, bl1⟩) (b := ⟨as1, al1⟩)) <;> first | omega | assumption | (simp only; omega))) (a:=cb_impl_FrameLub) (k:=(jh hX (by simp [h1, hx, hx2]; rfl))))) ?_
    refine W_seq ?_
    first | (refine W_rseqK [3, 4, 5, 6, 7, 8, 41] (jh hX (by simp [h1, hx, hx2]; rfl)) ?_)
    refine jd (fun h7 => ?_) (fun h7 => ?_)
    · try simp at h7
      all_goals
        all_goals skip --done
    · try simp at h7
      all_goals
        refine W_skip (W_seq (W_rseqK [3, 4, 5, 7, 8, 44] (jh hX (by simp [h1, hx, hx2]; rfl)) ?_))
        refine jd (fun h9 => ?_) (fun h9 => ?_)
        · try simp at h9
          refine W_rseqK [2] (jh hX (by simp [h1, hx, hx2]; rfl)) ?_
          refine W_ret (je (by simp [h1, hx, hx2]; rfl) ?_)
          rfl
        · try simp at h9
          obtain ⟨f1, f2, f3, e1⟩ := hok h9
          obtain ⟨_, _, _, e2⟩ := hok2 h9
          have zx := frmR_size f3 hs
          refine W_skip (W_seq ?_)
          first | (refine W_rseqK [3, 4, 5, 7, 73] (js hX 4 (by simp [h1, hx, hx2, f1, f2, f3, e1, e2]; rfl) (jB (c:=(by apply (ct_laws_lwFrame (x := ⟨xs, xl⟩) (y := ⟨xs, xl⟩)) <;> first | omega | assumption | (simp only; omega))) (a:=cb_laws_lwFrame) (k:=(js hX 6 (by simp [h1, hx, hx2, f1, f2, f3, e1, e2]; rfl) (jB (c:=(by apply (ct_impl_FrameLe (l := l) (a := ⟨as1, al1⟩) (b := ⟨xs, xl⟩)) <;> first | omega | assumption | (simp only; omega))) (a:=cb_impl_FrameLe) (k:=(js hX 7 (by simp [h1, hx, hx2, f1, f2, f3, e1, e2]; rfl) (jB (c:=(by apply (ct_impl_FrameLe (l := l) (a := ⟨bs1, bl1⟩) (b := ⟨xs, xl⟩)) <;> first | omega | assumption | (simp only; omega))) (a:=cb_impl_FrameLe) (k:=(js hX 6 (by simp [h1, hx, hx2, f1, f2, f3, e1, e2]; rfl) (jB (c:=(by apply (ct_impl_FrameRight (l := l) (f := ⟨xs, xl⟩)) <;> first | omega | assumption | (simp only; omega))) (a:=cb_impl_FrameRight) (k:=(jh hX (by simp [h1, hx, hx2, f1, f2, f3, e1, e2]; rfl)))))))))))))) ?_)
          refine jd (fun h11 => ?_) (fun h11 => ?_)
          · try simp at h11
            all_goals
              all_goals skip --done
          · try simp at h11
            all_goals
              refine W_skip ?_
              first | (refine jD [2] (jS 3 (by simp [h1, hx, hx2, f1, f2, f3, e1, e2]; rfl) (jC (c:=by apply (ct_impl_FrameLe (l := l) (a := ⟨as1, al1⟩) (b := ⟨bs1, bl1⟩)) <;> first | omega | assumption | (simp only; omega)) (a:=cb_impl_FrameLe) (k:=(jS 3 (by simp [h1, hx, hx2, f1, f2, f3, e1, e2]; rfl) (jC (c:=by apply (ct_laws_lwFrame (x := ⟨xs, xl⟩) (y := ⟨bs1, bl1⟩)) <;> first | omega | assumption | (simp only; omega)) (a:=cb_laws_lwFrame) (k:=(jS 5 (by simp [h1, hx, hx2, f1, f2, f3, e1, e2]; rfl) (jC (c:=by apply (ct_impl_FrameLe (l := l) (a := ⟨bs1, bl1⟩) (b := ⟨as1, al1⟩)) <;> first | omega | assumption | (simp only; omega)) (a:=cb_impl_FrameLe) (k:=(jS 3 (by simp [h1, hx, hx2, f1, f2, f3, e1, e2]; rfl) (jC (c:=by apply (ct_laws_lwFrame (x := ⟨xs, xl⟩) (y := ⟨as1, al1⟩)) <;> first | omega | assumption | (simp only; omega)) (a:=cb_laws_lwFrame) (k:=(jQ (by simp [h1, hx, hx2, f1, f2, f3, e1, e2]; rfl)))))))))))))) ?_)
              refine W_ret (je (by simp [h1, hx, hx2, f1, f2, f3, e1, e2]; rfl) ?_)
              rfl
end Go.Proofs
