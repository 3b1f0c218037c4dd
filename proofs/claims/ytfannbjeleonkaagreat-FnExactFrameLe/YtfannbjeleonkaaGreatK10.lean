/- Part 11 of what the proofs lean on: what the functions of the program and of the reference compute. Conditions: none. -/
import Derived.Test.YtfannbjeleonkaaGreatK09
set_option linter.all false
set_option linter.unusedVariables false
set_option linter.unusedSimpArgs false
set_option maxHeartbeats 2000000
set_option maxRecDepth 100000
namespace Go.Proofs
open Go Go.Ev


theorem cb_laws_toTypeS : Callable Tryz.prog 79 := ⟨_, Tryz.func79, by kernel_rfl, by kernel_rfl⟩
theorem ct_laws_toTypeS {l : List Typ} (q1 : l.length ≤ 1099511627776) : Ct Tryz.prog 79 [.lst false 3 (l.map eT)] [] (.lst true 3 (l.map eT)) [] := by
  have w1 : 32 * (l.length : Int) ≤ 281474976710656 := by omega
  have w2 : (l.length : Int) ≤ 9223372036854775807 := by omega
  refine Ct_bodyS tok Tryz.func79 rfl 23 (by kernel_rfl) (by kernel_rfl) fun X hX => ?_
  refine W_rseqK [0] (jh hX (by simp [fillL_length, fillL_at, w1, w2]; rfl)) ?_
  refine W_rseqK [0, 3] (jh hX (by simp [fillL_length, fillL_at, w1, w2]; rfl)) ?_
  refine W_seq (W_rseqK [0, 3, 4] (jh hX (by simp [fillL_length, fillL_at, w1, w2]; rfl)) ?_)
  refine W_block (W_loopU (α := Nat) [0, 3, 4] (fun i => [(4, .int .i64 i)]) (fun i => [(0, some (3, fillL eT (.agg [.int .i64 0, .str [], .int .i64 0]) l i))]) (fun i => i ≤ l.length) (fun i => l.length - i) (0) (fun i => by simp; rfl) (by simp [fillL_zero]) ?_ ?_)
  · simp
  rintro i hi
  refine W_seq (W_rseqK [0, 3, 4, 11] (jh hX (by simp [fillL_length, fillL_at, w1, w2]; rfl)) ?_)
  refine jd (fun h3 => ?_) (fun h3 => ?_)
  · try simp at h3
    refine W_skip (W_seq (W_block (W_reg (js hX 6 (by simp [h3, fillL_length, fillL_at, w1, w2]; rfl) (Runs.call [] rfl (by simp) rfl (by simp [fillL_length, fillL_at, w1, w2]; rfl) (by simp; rfl) (by apply ct_laws_toType <;> first | assumption | omega | (simp at *; omega) | simp_all) cb_laws_toType (by simp) (by simp) (by simp [fillL_length, fillL_at, w1, w2]; rfl) (jh hX (by simp [h3, fillL_length, fillL_at, w1, w2]; rfl)))) ?_)))
    refine W_reg (jh hX (by simp [fillL_length, fillL_at, w1, w2]; (try (simp (disch := omega) only [wrap_i64]; (try simp [fillL_length, fillL_at, w1, w2]))); rfl)) ?_
    refine round_end (i + 1) [0, 3, 4] (by simp [h3, fillL_length, fillL_at]; first | exact fillL_set h3 | (constructor <;> first | omega | exact fillL_set h3)) ?_ ?_
    · omega
    · omega
  · try simp at h3
    have hil : i = l.length := by omega
    subst hil
    rw [fillL_full]
    refine W_exit (W_rseqK [2] (jh hX (by simp [fillL_length, fillL_at, w1, w2]; rfl)) ?_)
    refine W_ret (je (by simp [h3, fillL_length, fillL_at, w1, w2]; rfl) ?_)
    simp
end Go.Proofs
namespace Go.Proofs
open Go Go.Ev


theorem cb_laws_toFrame : Callable Tryz.prog 29 := ⟨_, Tryz.func29, by kernel_rfl, by kernel_rfl⟩
theorem ct_laws_toFrame {x : Frm} (h : sizeFr x ≤ 1099511627776) : Ct Tryz.prog 29 [eFr x] [] (oFr x) [] := by
  simp only [sizeFr] at h
  refine Ct_bodyS tok Tryz.func29 rfl 13 (by kernel_rfl) (by kernel_rfl) fun X hX => ?_
  refine jq [1, 2] ?_
  refine jq [1, 2, 3] ?_
  refine W_rseqK [1, 2, 3] (jt 2 (k:=(jc [] (c:=(by apply ct_laws_toTypeS <;> first | assumption | omega | exact fun y hy => Nat.le_trans (mem_sum hy) (by omega))) (a:=cb_laws_toTypeS) (k:=jr)))) ?_
  refine W_rseqK [2, 3] (jt 2 (k:=(jc [] (c:=(by apply ct_laws_toTypeS <;> first | assumption | omega | exact fun y hy => Nat.le_trans (mem_sum hy) (by omega))) (a:=cb_laws_toTypeS) (k:=jr)))) ?_
  refine jq [2] ?_
  refine W_ret (je0 ?_)
  simp [oFr]
end Go.Proofs
namespace Go.Proofs
open Go Go.Ev


theorem cb_impl_world_frameRight_1 : Callable Tryz.prog 131 := ⟨_, Tryz.func131, by kernel_rfl, by kernel_rfl⟩
theorem ct_impl_world_frameRight_1 {l : List Cls} (hl : l.length ≤ 1099511627776) {t : Typ} : Ct Tryz.prog 131 [eT t, .fp [wv l]] [] (.bool (!knownT l t)) [] := by
  refine Ct_bodyS tok Tryz.func131 rfl 8 (by kernel_rfl) (by kernel_rfl) fun X hX => ?_
  refine jq [1, 2] ?_
  refine W_rseqK [3] (jt 2 (k:=(jc [] (c:=(by apply ct_impl_world_typeKnown <;> first | assumption | omega | (simp at *; omega) | simp_all)) (a:=cb_impl_world_typeKnown) (k:=jr)))) ?_
  refine W_ret (je0 ?_)
  simp
end Go.Proofs
namespace Go.Proofs
open Go Go.Ev


theorem cb_slices_IndexFunc_impl_Type_impl_Type : Callable Tryz.prog 183 := ⟨_, Tryz.func183, by kernel_rfl, by kernel_rfl⟩
theorem ct_slices_IndexFunc_impl_Type_impl_Type {cs : List Cls} (hc : cs.length ≤ 1099511627776) {l : List Typ} (hl : l.length ≤ 1099511627776) : Ct Tryz.prog 183 [.lst false 3 (l.map eT), .clo (.func 131) [] [.fp [wv cs]]] [] (.int .i64 (fix (fun t => !knownT cs t) l)) [] := by
  refine Ct_bodyS tok Tryz.func183 rfl 19 (by kernel_rfl) (by kernel_rfl) fun X hX => ?_
  refine jq [0, 1] ?_
  refine W_seq (jq [0, 1, 7, 8] ?_)
  refine W_block (W_loopU (α := Nat) [0, 1, 7, 8] (fun i => [(8, .int .i64 i)]) (fun i => []) (fun i => i ≤ l.length ∧ ∀ x ∈ l.take i, (fun t => !knownT cs t) x = false) (fun i => l.length - i) (0) (fun i => by simp; rfl) (by simp) ?_ ?_)
  · simp
  rintro i ⟨hi, hI⟩
  refine jq [0, 1, 7, 8, 9] ?_
  refine W_seq (jd (fun h2 => ?_) (fun h2 => ?_))
  · try simp at h2
    refine W_skip (W_seq (W_block (jq [0, 1, 5, 7, 8] ?_)))
    refine W_rseqK [0, 1, 5, 7, 8, 16] (js hX 5 (by simp [h2]; rfl) (jc [] (c:=(by apply ct_impl_world_frameRight_1 <;> first | assumption | exact hs _ (List.getElem_mem h2) | omega)) (a:=cb_impl_world_frameRight_1) (k:=jf))) ?_
    refine jd (fun h4 => ?_) (fun h4 => ?_)
    · try simp at h4
      refine jq [4] ?_
      refine W_ret (je (by simp [h2]; rfl) ?_)
      rw [fix_hit h2 hI (by simpa using h4)]
    · try simp at h4
      refine W_skip (W_reg (jh hX (by simp; (try (simp (disch := omega) only [wrap_i64]; (try simp))); rfl)) ?_)
      refine round_end (i + 1) [0, 1, 7, 8] (by simp [h2]; try (simp (disch := omega) only [wrap_i64])) ?_ ?_
      · exact ⟨by omega, take_not h2 hI (by simpa using h4)⟩
      · omega
  · try simp at h2
    refine W_exit (jq [4] ?_)
    refine W_ret (je (by simp [h2]; rfl) ?_)
    rw [fix_none (p := fun t => !knownT cs t) (fun x hx => hI x (by rw [List.take_of_length_le h2]; exact hx))]
end Go.Proofs
namespace Go.Proofs
open Go Go.Ev


theorem cb_slices_ContainsFunc_impl_Type_impl_Type : Callable Tryz.prog 132 := ⟨_, Tryz.func132, by kernel_rfl, by kernel_rfl⟩
theorem ct_slices_ContainsFunc_impl_Type_impl_Type {cs : List Cls} (hc : cs.length ≤ 1099511627776) {l : List Typ} (hl : l.length ≤ 1099511627776) : Ct Tryz.prog 132 [.lst false 3 (l.map eT), .clo (.func 131) [] [.fp [wv cs]]] [] (.bool (l.any (fun t => !knownT cs t))) [] := by
  refine Ct_bodyS tok Tryz.func132 rfl 9 (by kernel_rfl) (by kernel_rfl) fun X hX => ?_
  refine jq [0, 1] ?_
  refine W_rseqK [4] (jt 2 (k:=(jc [] (c:=(by apply ct_slices_IndexFunc_impl_Type_impl_Type <;> first | assumption | omega | (simp at *; omega) | simp_all)) (a:=cb_slices_IndexFunc_impl_Type_impl_Type) (k:=jr)))) ?_
  refine W_ret (je0 ?_)
  rw [← fix_ge]
end Go.Proofs
namespace Go.Proofs
open Go Go.Ev


theorem cb_impl_world_frameRight : Callable Tryz.prog 80 := ⟨_, Tryz.func80, by kernel_rfl, by kernel_rfl⟩
theorem ct_impl_world_frameRight {l : List Cls} (hl : l.length ≤ 1099511627776) {f : Frm} : Ct Tryz.prog 80 [wv l, eFr f] [] (.bool (frmR l f)) [] := by
  refine Ct_bodyS tok Tryz.func80 rfl 31 (by kernel_rfl) (by kernel_rfl) fun X hX => ?_
  refine jq [2, 3] ?_
  refine jq [3, 5] ?_
  refine W_rseqK [4] (jt 5 (k:=(jm 5 11 [3, 5, 16] (p:=fun b2_5 => by (try simp at b2_5); exact (jh hX (by simp [-atD_lt, -atL_lt, b2_5]; rfl))) (q:=fun b2_5 => by (try simp at b2_5); exact (jh hX (by simp [-atD_lt, -atL_lt]; rfl))) (k:=(jt 1 (k:=(jm 6 17 [3, 5, 23] (p:=fun b2_11 => by (try simp at b2_11); exact (js hX 3 (by simp [-atD_lt, -atL_lt, b2_11]; rfl) (Runs.callB2 rfl (by simp) rfl (by simp [-atD_lt, -atL_lt]; rfl) (by apply ct_slices_ContainsFunc_impl_Type_impl_Type <;> first | assumption | omega | (simp at *; omega) | simp_all) cb_slices_ContainsFunc_impl_Type_impl_Type (by simp) (by simp [-atD_lt, -atL_lt]; rfl) (jh hX (by simp [-atD_lt, -atL_lt]; rfl))))) (q:=fun b2_11 => by (try simp at b2_11); exact (jh hX (by simp [-atD_lt, -atL_lt]; rfl))) (k:=(jt 1 (k:=(jm 6 24 [30] (p:=fun b2_18 => by (try simp at b2_18); exact (js hX 3 (by simp [-atD_lt, -atL_lt, b2_18]; rfl) (Runs.callB2 rfl (by simp) rfl (by simp [-atD_lt, -atL_lt]; rfl) (by apply ct_slices_ContainsFunc_impl_Type_impl_Type <;> first | assumption | omega | (simp at *; omega) | simp_all) cb_slices_ContainsFunc_impl_Type_impl_Type (by simp) (by simp [-atD_lt, -atL_lt]; rfl) (jh hX (by simp [-atD_lt, -atL_lt]; rfl))))) (q:=fun b2_18 => by (try simp at b2_18); exact (jh hX (by simp [-atD_lt, -atL_lt]; rfl))) (k:=jr)))))))))))) ?_
  refine W_ret (je0 ?_)
  simp only [frmR, any_not, Bool.not_not, Bool.and_assoc]
end Go.Proofs
namespace Go.Proofs
open Go Go.Ev


theorem cb_impl_FrameRight : Callable Tryz.prog 30 := ⟨_, Tryz.func30, by kernel_rfl, by kernel_rfl⟩
theorem ct_impl_FrameRight {l : List Cls} (hl : l.length ≤ 1048576) (hs : sizeL l ≤ 1099511627776) {f : Frm} : Ct Tryz.prog 30 [.lst false 6 (l.map eC), eFr f] [] (.bool (frmRightW l f)) [] := by
  refine Ct_bodyS tok Tryz.func30 rfl 18 (by kernel_rfl) (by kernel_rfl) fun X hX => ?_
  refine jq [0, 3] ?_
  refine W_rseqK [3, 5, 6] (jt 1 (k:=(jc [] (c:=(by apply ct_impl_rightWorld <;> first | assumption | omega | (simp at *; omega) | simp_all)) (a:=cb_impl_rightWorld) (k:=jr)))) ?_
  refine W_rseqK [4] (jt 2 (k:=(jm 4 13 [17] (p:=fun b2_2 => by (try simp at b2_2); exact (js hX 2 (by simp [-atD_lt, -atL_lt]; rfl) (Runs.call [] rfl (by simp) rfl (by simp [-atD_lt, -atL_lt]; rfl) (by simp; rfl) (by apply ct_impl_world_frameRight <;> first | assumption | omega | (simp at *; omega) | simp_all) cb_impl_world_frameRight (by simp) (by simp) (by simp [-atD_lt, -atL_lt]; rfl) (jh hX (by simp [-atD_lt, -atL_lt]; rfl))))) (q:=fun b2_2 => by (try simp at b2_2); exact (jh hX (by simp [-atD_lt, -atL_lt]; rfl))) (k:=jr)))) ?_
  refine W_ret (je0 ?_)
  simp only [frmRightW]
end Go.Proofs
namespace Go.Proofs
open Go Go.Ev


theorem cb_laws_eqTypeS : Callable Tryz.prog 81 := ⟨_, Tryz.func81, by kernel_rfl, by kernel_rfl⟩
theorem ct_laws_eqTypeS {l1 l2 : List Typ} (q1 : l1.length < 4611686018427387904) (q2 : l2.length < 4611686018427387904) : Ct Tryz.prog 81 [.lst false 3 (l1.map eT), .lst false 3 (l2.map eT)] [] (.bool (decide (l1 = l2))) [] := by
  refine Ct_bodyS tok Tryz.func81 rfl 27 (by kernel_rfl) (by kernel_rfl) fun X hX => ?_
  refine jq [0, 1] ?_
  refine W_seq (jq [0, 1, 10] ?_)
  refine jd (fun h1 => ?_) (fun h1 => ?_)
  · try simp at h1
    replace h1 : ¬ l1.length = l2.length := by omega
    refine jq [4] ?_
    refine W_ret (je0 ?_)
    have : ¬ l1 = l2 := fun e => h1 (by rw [e])
    simp [this]
  · try simp at h1
    replace h1 : l1.length = l2.length := by omega
    refine W_skip (W_seq (jq [0, 1, 5] ?_))
    refine W_block (W_loopU (α := Nat) [0, 1, 5] (fun i => [(5, .int .i64 i)]) (fun i => []) (fun i => i ≤ l1.length ∧ (l1.drop i = l2.drop i ↔ l1 = l2)) (fun i => l1.length - i) (0) (fun i => by simp; rfl) (by simp) ?_ ?_)
    · simp
    rintro i ⟨hi, hI⟩
    refine W_seq (jq [0, 1, 5, 14] ?_)
    refine jd (fun h4 => ?_) (fun h4 => ?_)
    · try simp at h4
      have h4b : i < l1.length := by omega
      have h4c : i < l2.length := by omega
      rw [List.drop_eq_getElem_cons h4b, List.drop_eq_getElem_cons h4c, List.cons.injEq] at hI
      refine W_skip (W_seq (W_block (jD [0, 1, 5, 26] (jS 8 (by simp [h4, h4b, h4c]; rfl) (jC (c:=by apply ct_laws_eqType <;> first | assumption | omega | exact hb1 _ (List.getElem_mem _) | exact hb2 _ (List.getElem_mem _)) (a:=cb_laws_eqType) (k:=(jQ (by simp; rfl))))) ?_)))
      refine jd (fun h6 => ?_) (fun h6 => ?_)
      · try simp at h6
        refine jq [4] ?_
        refine W_ret (je (by simp [h4, h4b, h4c]; rfl) ?_)
        simp_all
      · try simp at h6
        refine W_skip (W_reg (jh hX (by simp; (try (simp (disch := omega) only [wrap_i64]; (try simp))); rfl)) ?_)
        refine round_end (i + 1) [0, 1, 5] (by simp [h4, h4b, h4c]; try (simp (disch := omega) only [wrap_i64])) ?_ ?_
        · exact ⟨by omega, by simp_all⟩
        · omega
    · try simp at h4
      refine W_exit (jq [4] ?_)
      refine W_ret (je (by simp [h4]; rfl) ?_)
      have : l1.drop i = [] := List.drop_eq_nil_of_le (by omega)
      have e2 : l2.drop i = [] := List.drop_eq_nil_of_le (by omega)
      simp_all
end Go.Proofs
namespace Go.Proofs
open Go Go.Ev


theorem cb_laws_eqFrame : Callable Tryz.prog 31 := ⟨_, Tryz.func31, by kernel_rfl, by kernel_rfl⟩
theorem ct_laws_eqFrame {x y : Frm} (hx : bigFr x) (hy : bigFr y) : Ct Tryz.prog 31 [eFr x, eFr y] [] (.bool (decide (x = y))) [] := by
  simp only [bigFr] at hx hy
  obtain ⟨p0, p1, p2, p3⟩ := hx
  obtain ⟨q0, q1, q2, q3⟩ := hy
  refine Ct_bodyS tok Tryz.func31 rfl 17 (by kernel_rfl) (by kernel_rfl) fun X hX => ?_
  refine jq [2, 3] ?_
  refine W_seq (W_rseqK [2, 3, 10] (jt 4 (k:=(jc [] (c:=(by apply ct_laws_eqTypeS <;> first | assumption | omega)) (a:=cb_laws_eqTypeS) (k:=jr)))) ?_)
  refine jd (fun h1 => ?_) (fun h1 => ?_)
  · try simp at h1
    refine jq [4] ?_
    refine W_ret (je0 ?_)
    (try simp at *) <;> cases x <;> cases y <;> simp_all
  · try simp at h1
    refine W_skip (W_seq (W_rseqK [16] (jt 4 (k:=(jc [] (c:=(by apply ct_laws_eqTypeS <;> first | assumption | omega)) (a:=cb_laws_eqTypeS) (k:=jr)))) ?_))
    refine jd (fun h3 => ?_) (fun h3 => ?_)
    · try simp at h3
      refine jq [4] ?_
      refine W_ret (je0 ?_)
      (try simp at *) <;> cases x <;> cases y <;> simp_all
    · try simp at h3
      refine W_skip (jq [4] ?_)
      refine W_ret (je0 ?_)
      (try simp at *) <;> cases x <;> cases y <;> simp_all
end Go.Proofs
namespace Go.Proofs
open Go Go.Ev


theorem cb_laws_FnExactFrameRight : Callable Tryz.prog 6 := ⟨_, Tryz.func6, by kernel_rfl, by kernel_rfl⟩
theorem ct_laws_FnExactFrameRight {l : List Cls} {f1 : Frm} (hl : l.length < 4611686018427387904) (bl : ∀ y ∈ l, bigC y) (hf1 : bigFr f1) : Ct Tryz.prog 6 [.lst false 6 (l.map eC), eFr f1] [] (.bool true) [] := by
  refine Ct_bodyS tok Tryz.func6 rfl 45 (by kernel_rfl) (by kernel_rfl) fun X hX => ?_
  refine jq [0, 3] ?_
  refine jq [0, 3, 5] ?_
  refine W_rseqK [0, 3, 5] (jt 2 (k:=(jc [] (c:=(by apply ct_laws_szClassS <;> first | assumption | omega)) (a:=cb_laws_szClassS) (k:=jr)))) ?_
  refine W_seq (jq [0, 3, 5, 14] ?_)
  refine jd (fun h3 => ?_) (fun h3 => ?_)
  · try simp at h3
    refine jq [4] ?_
    refine W_ret (je (by simp [h3]; rfl) ?_)
    simp_all
  · try simp at h3
    have k3 := sub_ok h3
    have hsL : sizeL l ≤ 1048576 := by have := k3.1; unfold sizeL; omega
    refine W_skip (W_rseqK [0, 3, 5] (js hX 2 (by simp [h3]; rfl) (jc [] (c:=(by apply ct_laws_szFrame <;> first | assumption | omega)) (a:=cb_laws_szFrame) (k:=jr))) ?_)
    refine W_seq (jq [0, 3, 19] ?_)
    refine jd (fun h6 => ?_) (fun h6 => ?_)
    · try simp at h6
      refine jq [4] ?_
      refine W_ret (je (by simp [h3, h6]; rfl) ?_)
      simp_all
    · try simp at h6
      have k6 := sub_ok h6
      refine W_skip (jL 3 [0, 2] [1] [0, 3, 6] ([0]) hX (by simp [h3, h6]; rfl) (jH (p:=fun X hX => (jF (c:=(by apply ct_laws_toClassS <;> first | assumption | omega | exact fun y hy => Nat.le_trans (mem_sum hy) (by omega))) (a:=cb_laws_toClassS) (k:=jf))) (k:=.nil)) (jF (c:=(by apply ct_laws_toFrame <;> first | assumption | omega | exact fun y hy => Nat.le_trans (mem_sum hy) (by omega))) (a:=cb_laws_toFrame) (k:=(jc [] (c:=(by apply ct_spec_FrameRight <;> first | assumption | omega)) (a:=cb_spec_FrameRight) (k:=jr)))) ?_)
      refine W_rseqK [0, 3, 6, 7] (jt 1 (k:=(jF (c:=(by apply ct_laws_toClassS <;> first | assumption | omega | exact fun y hy => Nat.le_trans (mem_sum hy) (by omega))) (a:=cb_laws_toClassS) (k:=jr)))) ?_
      refine W_rseqK [0, 3, 6, 7, 8] (js hX 1 (by simp [h3, h6]; rfl) (jF (c:=(by apply ct_laws_toFrame <;> first | assumption | omega | exact fun y hy => Nat.le_trans (mem_sum hy) (by omega))) (a:=cb_laws_toFrame) (k:=(jh hX (by simp [h3, h6]; rfl))))) ?_
      refine W_rseqK [0, 3, 6, 7, 8, 9] (js hX 2 (by simp [h3, h6]; rfl) (jc [] (c:=(by apply ct_impl_FrameRight <;> first | assumption | omega)) (a:=cb_impl_FrameRight) (k:=jr))) ?_
      refine W_seq (jq [0, 3, 7, 8, 34] ?_)
      refine jd (fun h12 => ?_) (fun h12 => ?_)
      · try simp at h12
        all_goals
          refine jq [4] ?_
          refine W_ret (je (by simp [h3, h6]; rfl) ?_)
          simp_all
      · try simp at h12
        all_goals
          refine W_skip (W_seq (W_rseqK [3, 8, 39] (jt 2 (k:=(jF (c:=(by apply ct_laws_toClassS <;> first | assumption | omega | exact fun y hy => Nat.le_trans (mem_sum hy) (by omega))) (a:=cb_laws_toClassS) (k:=(jc [] (c:=(by apply ct_laws_eqClassS <;> first | assumption | omega)) (a:=cb_laws_eqClassS) (k:=jr)))))) ?_))
          refine jd (fun h14 => ?_) (fun h14 => ?_)
          · try simp at h14
            all_goals
              refine jq [4] ?_
              refine W_ret (je (by simp [h3, h6]; rfl) ?_)
              simp_all
          · try simp at h14
            all_goals
              refine W_skip (W_seq (jL 3 [0, 1] [2] [44] ([0, 1]) hX (by simp [h3, h6]; rfl) (jH (p:=fun X hX => (jF (c:=(by apply ct_laws_toFrame <;> first | assumption | omega | exact fun y hy => Nat.le_trans (mem_sum hy) (by omega))) (a:=cb_laws_toFrame) (k:=jf))) (k:=.nil)) (jc [] (c:=(by apply ct_laws_eqFrame <;> first | assumption | omega)) (a:=cb_laws_eqFrame) (k:=jr)) ?_))
              refine jd (fun h16 => ?_) (fun h16 => ?_)
              · try simp at h16
                all_goals
                  refine jq [4] ?_
                  refine W_ret (je (by simp [h3, h6]; rfl) ?_)
                  simp_all
              · try simp at h16
                all_goals
                  refine W_skip (jq [4] ?_)
                  refine W_ret (je (by simp [h3, h6]; rfl) ?_)
                  simp_all
end Go.Proofs
namespace Go.Proofs
open Go Go.Ev
abbrev tcFr : List Tc := [.lst false tcT, .lst false tcT]
theorem decFr {vs : List V} (h : okL tcFr vs) : ∃ x : Frm, V.agg vs = eFr x ∧ bigFr x := by
  obtain ⟨_, _, rfl, h0, h⟩ := okL_cons h
  obtain ⟨_, _, rfl, h1, h⟩ := okL_cons h
  obtain rfl := okL_nil h
  obtain ⟨i, rfl, hi, hi2⟩ := okC_lst h0 fun vs => decT
  obtain ⟨j, rfl, hj, hj2⟩ := okC_lst h1 fun vs => decT
  exact ⟨⟨i, j⟩, rfl, by simp only [bigFr]; exact ⟨by omega, hi2, by omega, hj2⟩⟩
abbrev aF : Bool × List Tc := (false, tcFr)
theorem okA_F {r : List (Bool × List Tc)} {vs : List V} (h : okA (aF :: r) vs) : ∃ (t : Frm) (ws : List V), vs = eFr t :: ws ∧ bigFr t ∧ okA r ws := by
  obtain ⟨v, ws, rfl, h1, h2⟩ := okA_cons h
  simp only [Bool.false_eq_true, if_false] at h1
  obtain ⟨us, rfl, h1⟩ := h1
  obtain ⟨t, e, hb⟩ := decFr h1
  exact ⟨t, ws, by rw [e], hb, h2⟩
abbrev aI : Bool × List Tc := (true, [.int .i64])
theorem okA_I {r : List (Bool × List Tc)} {vs : List V} (h : okA (aI :: r) vs) : ∃ (n : Int) (ws : List V), vs = .int .i64 n :: ws ∧ (-9223372036854775808 ≤ n ∧ n < 9223372036854775808) ∧ okA r ws := by
  obtain ⟨v, ws, rfl, h1, h2⟩ := okA_cons h
  simp only [if_true] at h1
  obtain ⟨n, rfl, hn⟩ := okC_int h1.1
  exact ⟨n, ws, rfl, hn, h2⟩
end Go.Proofs
namespace Go.Proofs
open Go Go.Ev


theorem cb_spec_l07Types : Callable Tryz.prog 91 := ⟨_, Tryz.func91, by kernel_rfl, by kernel_rfl⟩
theorem ct_spec_l07Types {l : List Cls} (hl : l.length ≤ 1099511627776) (hw : rightW l = true) {a b : List Typ} (ha : a.length ≤ 1099511627776) (hb : b.length ≤ 1099511627776) : Ct Tryz.prog 91 [.lst false 6 (l.map eC), .lst false 3 (a.map eT), .lst false 3 (b.map eT)] [] (.bool (leLs (leT l) a b)) [] := by
  refine Ct_bodyS tok Tryz.func91 rfl 30 (by kernel_rfl) (by kernel_rfl) fun X hX => ?_
  refine jq [0, 1, 2] ?_
  refine W_seq (jq [0, 1, 2, 12] ?_)
  refine jd (fun h1 => ?_) (fun h1 => ?_)
  · try simp at h1
    refine jq [6] ?_
    refine W_ret (je0 ?_)
    rw [leLs_ne h1]
  · try simp at h1
    have h1b : a.length = b.length := by omega
    refine W_skip (W_seq (jq [0, 1, 2, 7] ?_))
    refine W_block (W_loopU (α := Nat) [0, 1, 2, 7] (fun i => [(7, .int .i64 i)]) (fun i => []) (fun i => i ≤ a.length ∧ leLs (leT l) (a.drop i) (b.drop i) = leLs (leT l) a b) (fun i => a.length - i) (0) (fun i => by simp; rfl) (by simp) ?_ ?_)
    · simp
    rintro i ⟨hi, hI⟩
    refine W_seq (jq [0, 1, 2, 7, 16] ?_)
    refine jd (fun h4 => ?_) (fun h4 => ?_)
    · try simp at h4
      have h4b : i < b.length := by omega
      rw [leLs_drop h4 h1b] at hI
      refine W_skip (W_seq (W_block (jD [0, 1, 2, 7, 29] (jS 9 (by simp [h4, h4b]; rfl) (jC (c:=by apply ct_spec_l06Le <;> first | assumption | omega | (simp at *; omega) | simp_all) (a:=cb_spec_l06Le) (k:=(jQ (by simp; rfl))))) ?_)))
      refine jd (fun h6 => ?_) (fun h6 => ?_)
      · try simp at h6
        refine jq [6] ?_
        refine W_ret (je (by simp [h4, h4b]; rfl) ?_)
        rw [← hI, h6]; rfl
      · try simp at h6
        rw [h6, Bool.true_and] at hI
        refine W_skip (W_reg (jh hX (by simp; (try (simp (disch := omega) only [wrap_i64]; (try simp))); rfl)) ?_)
        refine round_end (i + 1) [0, 1, 2, 7] (by simp [h4, h4b]; try (simp (disch := omega) only [wrap_i64])) ?_ ?_
        · exact ⟨by omega, hI⟩
        · omega
    · try simp at h4
      refine W_exit (jq [6] ?_)
      refine W_ret (je (by simp [h4]; rfl) ?_)
      rw [← hI, leLs_end h4 h1b]
end Go.Proofs
namespace Go.Proofs
open Go Go.Ev


theorem cb_spec_FrameLe : Callable Tryz.prog 43 := ⟨_, Tryz.func43, by kernel_rfl, by kernel_rfl⟩
theorem ct_spec_FrameLe {l : List Cls} {a b : Frm} (hl : sizeL l ≤ 1099511627776) (ha : sizeFr a ≤ 1099511627776) (hb : sizeFr b ≤ 1099511627776) : Ct Tryz.prog 43 [.lst false 6 (l.map eC), eFr a, eFr b] [] (.bool (frmLeW l a b)) [] := by
  have hll : l.length ≤ 1099511627776 := by unfold sizeL at hl; omega
  simp only [sizeFr] at ha hb
  refine Ct_bodyS tok Tryz.func43 rfl 31 (by kernel_rfl) (by kernel_rfl) fun X hX => ?_
  refine jq [0, 4, 5] ?_
  refine W_rseqK [6] (jt 2 (k:=(jc [] (c:=(by apply ct_spec_FrameRight <;> first | assumption | omega | (simp_all [frmRightW]))) (a:=cb_spec_FrameRight) (k:=(jt 1 (k:=(jm 4 10 [0, 4, 5, 14] (p:=fun b1_4 => by (try simp at b1_4); exact (js hX 2 (by simp [-atD_lt, -atL_lt]; rfl) (Runs.call [] rfl (by simp) rfl (by simp [-atD_lt, -atL_lt]; rfl) (by simp; rfl) (by apply ct_spec_l07Frame <;> first | assumption | omega | (simp_all [frmRightW])) cb_spec_l07Frame (by simp) (by simp) (by simp [-atD_lt, -atL_lt]; rfl) (jh hX (by simp [-atD_lt, -atL_lt]; rfl))))) (q:=fun b1_4 => by (try simp at b1_4); exact (jh hX (by simp [-atD_lt, -atL_lt]; rfl))) (k:=(jt 1 (k:=(jm 7 15 [0, 4, 5, 22] (p:=fun b1_9 => by (try simp at b1_9); exact (js hX 5 (by simp [-atD_lt, -atL_lt]; rfl) (Runs.call [] rfl (by simp) rfl (by simp [-atD_lt, -atL_lt]; rfl) (by simp; rfl) (by apply ct_spec_l07Types <;> first | assumption | omega | (simp_all [frmRightW])) cb_spec_l07Types (by simp) (by simp) (by simp [-atD_lt, -atL_lt]; rfl) (jh hX (by simp [-atD_lt, -atL_lt]; rfl))))) (q:=fun b1_9 => by (try simp at b1_9); exact (jh hX (by simp [-atD_lt, -atL_lt]; rfl))) (k:=(jt 1 (k:=(jm 7 23 [30] (p:=fun b1_17 => by (try simp at b1_17); exact (js hX 5 (by simp [-atD_lt, -atL_lt]; rfl) (Runs.call [] rfl (by simp) rfl (by simp [-atD_lt, -atL_lt]; rfl) (by simp; rfl) (by apply ct_spec_l07Types <;> first | assumption | omega | (simp_all [frmRightW])) cb_spec_l07Types (by simp) (by simp) (by simp [-atD_lt, -atL_lt]; rfl) (jh hX (by simp [-atD_lt, -atL_lt]; rfl))))) (q:=fun b1_17 => by (try simp at b1_17); exact (jh hX (by simp [-atD_lt, -atL_lt]; rfl))) (k:=jr)))))))))))))))) ?_
  refine W_ret (je0 ?_)
  simp only [frmLeW, Bool.and_assoc]
end Go.Proofs
namespace Go.Proofs
open Go Go.Ev


theorem cb_slices_EqualFunc_impl_Type_impl_Type_impl_Type_impl_Type : Callable Tryz.prog 92 := ⟨_, Tryz.func92, by kernel_rfl, by kernel_rfl⟩
theorem ct_slices_EqualFunc_impl_Type_impl_Type_impl_Type_impl_Type {l : List Cls} (hl : l.length ≤ 1048576) {a b : List Typ} (ha : a.length ≤ 1099511627776) (hb : b.length ≤ 1099511627776) : Ct Tryz.prog 92 [.lst false 3 (a.map eT), .lst false 3 (b.map eT), .clo (.func 76) [wv l] []] [] (.bool (leLs (leI l) a b)) [] := by
  refine Ct_bodyS tok Tryz.func92 rfl 32 (by kernel_rfl) (by kernel_rfl) fun X hX => ?_
  refine jq [0, 1, 2] ?_
  refine W_seq (jq [0, 1, 2, 14] ?_)
  refine jd (fun h1 => ?_) (fun h1 => ?_)
  · try simp at h1
    refine jq [6] ?_
    refine W_ret (je0 ?_)
    rw [leLs_ne h1]
  · try simp at h1
    have h1b : a.length = b.length := by omega
    refine W_skip (W_seq (jq [1, 2, 15, 16, 17] ?_))
    refine W_block (W_loopU (α := Nat) [1, 2, 15, 16, 17] (fun i => [(17, .int .i64 i)]) (fun i => []) (fun i => i ≤ a.length ∧ leLs (leI l) (a.drop i) (b.drop i) = leLs (leI l) a b) (fun i => a.length - i) (0) (fun i => by simp; rfl) (by simp) ?_ ?_)
    · simp
    rintro i ⟨hi, hI⟩
    refine jq [1, 2, 15, 16, 17, 18] ?_
    refine W_seq (jd (fun h4 => ?_) (fun h4 => ?_))
    · try simp at h4
      have h4b : i < b.length := by omega
      rw [leLs_drop h4 h1b] at hI
      refine W_skip (W_seq (W_block (W_rseqK [1, 2, 7, 8, 15, 16, 17] (jh hX (by simp [h4, h4b]; rfl)) ?_)))
      refine W_rseqK [1, 2, 8, 9, 15, 16, 17] (jh hX (by simp [h4, h4b]; rfl)) ?_
      refine W_rseqK [1, 2, 15, 16, 17, 30] (js hX 3 (by simp [h4, h4b]; rfl) (jc [] (c:=(by apply ct_impl_world_typeLe <;> assumption)) (a:=cb_impl_world_typeLe) (k:=jr))) ?_
      refine jd (fun h7 => ?_) (fun h7 => ?_)
      · try simp at h7
        refine jq [6] ?_
        refine W_ret (je (by simp [h4, h4b]; rfl) ?_)
        rw [← hI, h7]; rfl
      · try simp at h7
        rw [h7, Bool.true_and] at hI
        refine W_skip (W_reg (jh hX (by simp; (try (simp (disch := omega) only [wrap_i64]; (try simp))); rfl)) ?_)
        refine round_endT (i + 1) [1, 2, 15, 16, 17] 0 (by simp [hX]) (by simp) (by simp [h4, h4b]; try (simp (disch := omega) only [wrap_i64])) ?_ ?_
        · exact ⟨by omega, hI⟩
        · omega
    · try simp at h4
      refine W_exit (jq [6] ?_)
      refine W_ret (je (by simp [h4]; rfl) ?_)
      rw [← hI, leLs_end h4 h1b]
end Go.Proofs
namespace Go.Proofs
open Go Go.Ev


theorem cb_impl_FrameLe : Callable Tryz.prog 44 := ⟨_, Tryz.func44, by kernel_rfl, by kernel_rfl⟩
theorem ct_impl_FrameLe {l : List Cls} (hl : l.length ≤ 1048576) (hs : sizeL l ≤ 1099511627776) {a b : Frm} (ha : sizeFr a ≤ 1099511627776) (hb : sizeFr b ≤ 1099511627776) : Ct Tryz.prog 44 [.lst false 6 (l.map eC), eFr a, eFr b] [] (.bool (frmLeW l a b)) [] := by
  simp only [sizeFr] at ha hb
  refine Ct_bodyS tok Tryz.func44 rfl 43 (by kernel_rfl) (by kernel_rfl) fun X hX => ?_
  refine jq [0, 4, 5] ?_
  refine W_rseqK [4, 5, 7, 8] (jt 1 (k:=(jc [] (c:=(by apply ct_impl_rightWorld <;> first | assumption | omega | (simp at *; omega) | simp_all)) (a:=cb_impl_rightWorld) (k:=jr)))) ?_
  refine W_rseqK [6] (jt 2 (k:=(jm 4 15 [4, 5, 7, 19] (p:=fun b2_2 => by (try simp at b2_2); exact (js hX 2 (by simp [-atD_lt, -atL_lt]; rfl) (Runs.call [] rfl (by simp) rfl (by simp [-atD_lt, -atL_lt]; rfl) (by simp; rfl) (by apply ct_impl_world_frameRight <;> first | assumption | omega | (simp at *; omega) | simp_all) cb_impl_world_frameRight (by simp) (by simp) (by simp [-atD_lt, -atL_lt]; rfl) (jh hX (by simp [-atD_lt, -atL_lt]; rfl))))) (q:=fun b2_2 => by (try simp at b2_2); exact (jh hX (by simp [-atD_lt, -atL_lt]; rfl))) (k:=(jt 1 (k:=(jm 4 20 [4, 5, 7, 24] (p:=fun b2_7 => by (try simp at b2_7); exact (js hX 2 (by simp [-atD_lt, -atL_lt]; rfl) (Runs.call [] rfl (by simp) rfl (by simp [-atD_lt, -atL_lt]; rfl) (by simp; rfl) (by apply ct_impl_world_frameRight <;> first | assumption | omega | (simp at *; omega) | simp_all) cb_impl_world_frameRight (by simp) (by simp) (by simp [-atD_lt, -atL_lt]; rfl) (jh hX (by simp [-atD_lt, -atL_lt]; rfl))))) (q:=fun b2_7 => by (try simp at b2_7); exact (jh hX (by simp [-atD_lt, -atL_lt]; rfl))) (k:=(jt 1 (k:=(jm 8 25 [4, 5, 7, 33] (p:=fun b2_12 => by (try simp at b2_12); exact (js hX 6 (by simp [-atD_lt, -atL_lt]; rfl) (Runs.call [] rfl (by simp) rfl (by simp [-atD_lt, -atL_lt]; rfl) (by simp; rfl) (by apply ct_slices_EqualFunc_impl_Type_impl_Type_impl_Type_impl_Type <;> first | assumption | omega | (simp at *; omega) | simp_all) cb_slices_EqualFunc_impl_Type_impl_Type_impl_Type_impl_Type (by simp) (by simp) (by simp [-atD_lt, -atL_lt]; rfl) (jh hX (by simp [-atD_lt, -atL_lt]; rfl))))) (q:=fun b2_12 => by (try simp at b2_12); exact (jh hX (by simp [-atD_lt, -atL_lt]; rfl))) (k:=(jt 1 (k:=(jm 8 34 [42] (p:=fun b2_21 => by (try simp at b2_21); exact (js hX 6 (by simp [-atD_lt, -atL_lt]; rfl) (Runs.call [] rfl (by simp) rfl (by simp [-atD_lt, -atL_lt]; rfl) (by simp; rfl) (by apply ct_slices_EqualFunc_impl_Type_impl_Type_impl_Type_impl_Type <;> first | assumption | omega | (simp at *; omega) | simp_all) cb_slices_EqualFunc_impl_Type_impl_Type_impl_Type_impl_Type (by simp) (by simp) (by simp [-atD_lt, -atL_lt]; rfl) (jh hX (by simp [-atD_lt, -atL_lt]; rfl))))) (q:=fun b2_21 => by (try simp at b2_21); exact (jh hX (by simp [-atD_lt, -atL_lt]; rfl))) (k:=jr)))))))))))))))) ?_
  refine W_ret (je0 ?_)
  rw [← frmLeW_of]
end Go.Proofs
namespace Go.Proofs
open Go Go.Ev


theorem cb_laws_FnExactFrameLe : Callable Tryz.prog 10 := ⟨_, Tryz.func10, by kernel_rfl, by kernel_rfl⟩
theorem ct_laws_FnExactFrameLe {l : List Cls} {f1 : Frm} {f2 : Frm} (hl : l.length < 4611686018427387904) (bl : ∀ y ∈ l, bigC y) (hf1 : bigFr f1) (hf2 : bigFr f2) : Ct Tryz.prog 10 [.lst false 6 (l.map eC), eFr f1, eFr f2] [] (.bool true) [] := by
  refine Ct_bodyS tok Tryz.func10 rfl 63 (by kernel_rfl) (by kernel_rfl) fun X hX => ?_
  refine jq [0, 4, 5] ?_
  refine jq [0, 4, 5, 7] ?_
  refine W_rseqK [0, 4, 5, 7] (jt 2 (k:=(jc [] (c:=(by apply ct_laws_szClassS <;> first | assumption | omega)) (a:=cb_laws_szClassS) (k:=jr)))) ?_
  refine W_seq (jq [0, 4, 5, 7, 17] ?_)
  refine jd (fun h3 => ?_) (fun h3 => ?_)
  · try simp at h3
    refine jq [6] ?_
    refine W_ret (je (by simp [h3]; rfl) ?_)
    simp_all
  · try simp at h3
    have k3 := sub_ok h3
    have hsL : sizeL l ≤ 1048576 := by have := k3.1; unfold sizeL; omega
    refine W_skip (W_rseqK [0, 4, 5, 7] (js hX 2 (by simp [h3]; rfl) (jc [] (c:=(by apply ct_laws_szFrame <;> first | assumption | omega)) (a:=cb_laws_szFrame) (k:=jr))) ?_)
    refine W_seq (jq [0, 4, 5, 7, 22] ?_)
    refine jd (fun h6 => ?_) (fun h6 => ?_)
    · try simp at h6
      refine jq [6] ?_
      refine W_ret (je (by simp [h3, h6]; rfl) ?_)
      simp_all
    · try simp at h6
      have k6 := sub_ok h6
      refine W_skip (W_rseqK [0, 4, 5, 7] (js hX 2 (by simp [h3, h6]; rfl) (jc [] (c:=(by apply ct_laws_szFrame <;> first | assumption | omega)) (a:=cb_laws_szFrame) (k:=jr))) ?_)
      refine W_seq (jq [0, 4, 5, 27] ?_)
      refine jd (fun h9 => ?_) (fun h9 => ?_)
      · try simp at h9
        refine jq [6] ?_
        refine W_ret (je (by simp [h3, h6, h9]; rfl) ?_)
        simp_all
      · try simp at h9
        have k9 := sub_ok h9
        refine W_skip (jL 5 [0, 2, 4] [1, 3] [0, 4, 5, 8] ([0, 1]) hX (by simp [h3, h6, h9]; rfl) (jH (p:=fun X hX => (jF (c:=(by apply ct_laws_toClassS <;> first | assumption | omega | exact fun y hy => Nat.le_trans (mem_sum hy) (by omega))) (a:=cb_laws_toClassS) (k:=jf))) (k:=(jH (p:=fun X hX => (jF (c:=(by apply ct_laws_toFrame <;> first | assumption | omega | exact fun y hy => Nat.le_trans (mem_sum hy) (by omega))) (a:=cb_laws_toFrame) (k:=jf))) (k:=.nil)))) (jF (c:=(by apply ct_laws_toFrame <;> first | assumption | omega | exact fun y hy => Nat.le_trans (mem_sum hy) (by omega))) (a:=cb_laws_toFrame) (k:=(jc [] (c:=(by apply ct_spec_FrameLe <;> first | assumption | omega)) (a:=cb_spec_FrameLe) (k:=jr)))) ?_)
        refine W_rseqK [0, 4, 5, 8, 9] (jt 1 (k:=(jF (c:=(by apply ct_laws_toClassS <;> first | assumption | omega | exact fun y hy => Nat.le_trans (mem_sum hy) (by omega))) (a:=cb_laws_toClassS) (k:=jr)))) ?_
        refine W_rseqK [0, 4, 5, 8, 9, 10] (js hX 1 (by simp [h3, h6, h9]; rfl) (jF (c:=(by apply ct_laws_toFrame <;> first | assumption | omega | exact fun y hy => Nat.le_trans (mem_sum hy) (by omega))) (a:=cb_laws_toFrame) (k:=(jh hX (by simp [h3, h6, h9]; rfl))))) ?_
        refine W_rseqK [0, 4, 5, 8, 9, 10, 11] (js hX 1 (by simp [h3, h6, h9]; rfl) (jF (c:=(by apply ct_laws_toFrame <;> first | assumption | omega | exact fun y hy => Nat.le_trans (mem_sum hy) (by omega))) (a:=cb_laws_toFrame) (k:=(jh hX (by simp [h3, h6, h9]; rfl))))) ?_
        refine W_rseqK [0, 4, 5, 8, 9, 10, 11, 12] (js hX 3 (by simp [h3, h6, h9]; rfl) (jc [] (c:=(by apply ct_impl_FrameLe <;> first | assumption | omega)) (a:=cb_impl_FrameLe) (k:=jr))) ?_
        refine W_seq (jq [0, 4, 5, 9, 10, 11, 47] ?_)
        refine jd (fun h16 => ?_) (fun h16 => ?_)
        · try simp at h16
          all_goals
            refine jq [6] ?_
            refine W_ret (je (by simp [h3, h6, h9]; rfl) ?_)
            simp_all
        · try simp at h16
          all_goals
            refine W_skip (W_seq (W_rseqK [4, 5, 10, 11, 52] (jt 2 (k:=(jF (c:=(by apply ct_laws_toClassS <;> first | assumption | omega | exact fun y hy => Nat.le_trans (mem_sum hy) (by omega))) (a:=cb_laws_toClassS) (k:=(jc [] (c:=(by apply ct_laws_eqClassS <;> first | assumption | omega)) (a:=cb_laws_eqClassS) (k:=jr)))))) ?_))
            refine jd (fun h18 => ?_) (fun h18 => ?_)
            · try simp at h18
              all_goals
                refine jq [6] ?_
                refine W_ret (je (by simp [h3, h6, h9]; rfl) ?_)
                simp_all
            · try simp at h18
              all_goals
                refine W_skip (W_seq (jL 3 [0, 1] [2] [5, 11, 57] ([0, 2]) hX (by simp [h3, h6, h9]; rfl) (jH (p:=fun X hX => (jF (c:=(by apply ct_laws_toFrame <;> first | assumption | omega | exact fun y hy => Nat.le_trans (mem_sum hy) (by omega))) (a:=cb_laws_toFrame) (k:=jf))) (k:=.nil)) (jc [] (c:=(by apply ct_laws_eqFrame <;> first | assumption | omega)) (a:=cb_laws_eqFrame) (k:=jr)) ?_))
                refine jd (fun h20 => ?_) (fun h20 => ?_)
                · try simp at h20
                  all_goals
                    refine jq [6] ?_
                    refine W_ret (je (by simp [h3, h6, h9]; rfl) ?_)
                    simp_all
                · try simp at h20
                  all_goals
                    refine W_skip (W_seq (jL 3 [0, 1] [2] [62] ([1, 3]) hX (by simp [h3, h6, h9]; rfl) (jH (p:=fun X hX => (jF (c:=(by apply ct_laws_toFrame <;> first | assumption | omega | exact fun y hy => Nat.le_trans (mem_sum hy) (by omega))) (a:=cb_laws_toFrame) (k:=jf))) (k:=.nil)) (jc [] (c:=(by apply ct_laws_eqFrame <;> first | assumption | omega)) (a:=cb_laws_eqFrame) (k:=jr)) ?_))
                    refine jd (fun h22 => ?_) (fun h22 => ?_)
                    · try simp at h22
                      all_goals
                        refine jq [6] ?_
                        refine W_ret (je (by simp [h3, h6, h9]; rfl) ?_)
                        simp_all
                    · try simp at h22
                      all_goals
                        refine W_skip (jq [6] ?_)
                        refine W_ret (je (by simp [h3, h6, h9]; rfl) ?_)
                        simp_all
end Go.Proofs
