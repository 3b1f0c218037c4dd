/- Part 8 of what the proofs lean on: what the functions of the program and of the reference compute. Conditions: none. -/
import Derived.Test.YtebbhmbngfpkaaaGreatK06
set_option linter.all false
set_option linter.unusedVariables false
set_option linter.unusedSimpArgs false
set_option maxHeartbeats 2000000
set_option maxRecDepth 100000
namespace Go.Proofs
open Go Go.Ev


theorem cb_laws_toObj : Callable Tryz.prog 77 := ⟨_, Tryz.func77, by kernel_rfl, by kernel_rfl⟩
theorem ct_laws_toObj {x : HOb} (h : sizeOb x ≤ 1099511627776) : Ct Tryz.prog 77 [eOb x] [] (oOb x) [] := by
  simp only [sizeOb] at h
  refine Ct_bodyS tok Tryz.func77 rfl 18 (by kernel_rfl) (by kernel_rfl) fun X hX => ?_
  refine jq [1, 2] ?_
  refine jq [1, 2, 3] ?_
  refine jq [1, 2, 3] ?_
  refine jq [1, 2, 3] ?_
  refine jq [1, 2, 3] ?_
  refine W_rseqK [2, 3] (jt 2 (k:=(jc [] (c:=(by apply ct_laws_toValS <;> first | assumption | omega | exact fun y hy => Nat.le_trans (mem_sum hy) (by omega))) (a:=cb_laws_toValS) (k:=jr)))) ?_
  refine jq [2] ?_
  refine W_ret (je0 ?_)
  simp [oOb]
end Go.Proofs
namespace Go.Proofs
open Go Go.Ev


theorem cb_laws_toObjS : Callable Tryz.prog 39 := ⟨_, Tryz.func39, by kernel_rfl, by kernel_rfl⟩
theorem ct_laws_toObjS {l : List HOb} (q1 : l.length ≤ 1099511627776) (hb : ∀ y ∈ l, sizeOb y ≤ 1099511627776) : Ct Tryz.prog 39 [.lst false 4 (l.map eOb)] [] (.lst true 4 (l.map oOb)) [] := by
  have w1 : 56 * (l.length : Int) ≤ 281474976710656 := by omega
  have w2 : (l.length : Int) ≤ 9223372036854775807 := by omega
  refine Ct_bodyS tok Tryz.func39 rfl 23 (by kernel_rfl) (by kernel_rfl) fun X hX => ?_
  refine W_rseqK [0] (jh hX (by simp [fillL_length, fillL_at, w1, w2]; rfl)) ?_
  refine W_rseqK [0, 3] (jh hX (by simp [fillL_length, fillL_at, w1, w2]; rfl)) ?_
  refine W_seq (W_rseqK [0, 3, 4] (jh hX (by simp [fillL_length, fillL_at, w1, w2]; rfl)) ?_)
  refine W_block (W_loopU (α := Nat) [0, 3, 4] (fun i => [(4, .int .i64 i)]) (fun i => [(0, some (4, fillL oOb (.agg [.int .i64 0, .str [], .bool false, .raw (.slice none 0 0)]) l i))]) (fun i => i ≤ l.length) (fun i => l.length - i) (0) (fun i => by simp; rfl) (by simp [fillL_zero]) ?_ ?_)
  · simp
  rintro i hi
  refine W_seq (W_rseqK [0, 3, 4, 11] (jh hX (by simp [fillL_length, fillL_at, w1, w2]; rfl)) ?_)
  refine jd (fun h3 => ?_) (fun h3 => ?_)
  · try simp at h3
    refine W_skip (W_seq (W_block (W_reg (js hX 6 (by simp [h3, fillL_length, fillL_at, w1, w2]; rfl) (Runs.call [] rfl (by simp) rfl (by simp [fillL_length, fillL_at, w1, w2]; rfl) (by simp; rfl) (by apply ct_laws_toObj <;> first | assumption | omega | exact hb _ (List.getElem_mem _)) cb_laws_toObj (by simp) (by simp) (by simp [fillL_length, fillL_at, w1, w2]; rfl) (jh hX (by simp [h3, fillL_length, fillL_at, w1, w2]; rfl)))) ?_)))
    refine W_reg (jh hX (by simp [fillL_length, fillL_at, w1, w2]; (try (simp (disch := omega) only [wrap_i64]; (try simp [fillL_length, fillL_at, w1, w2]))); rfl)) ?_
    refine ⟨i + 1, Le.trans (Le.keep [0, 3, 4] _) (Le.trans (Le.absorb 0 i 3 (by simp [h3, fillL_length]; rfl)) (Le.trans (Le.trim 1 (by simp [hX]) _ (by simp)) (Le.of_eq (by simp [h3]; exact (congrArg (jkL _) (fillL_set h3)).trans (jkL_pure _ _ (pureL_fillL (fun x => by simp [V.pure, pureL]) (by simp [V.pure, pureL]))))))), ?_, ?_⟩
    · omega
    · omega
  · try simp at h3
    have hil : i = l.length := by omega
    subst hil
    rw [fillL_full]
    refine W_exit (W_rseqK [2] (jh hX (by simp [fillL_length, fillL_at, w1, w2]; rfl)) ?_)
    refine W_ret (je (by simp [h3, fillL_length, fillL_at, w1, w2]; rfl) ?_)
    simp
end Go.Proofs
namespace Go.Proofs
open Go Go.Ev


theorem cb_laws_toHeap : Callable Tryz.prog 12 := ⟨_, Tryz.func12, by kernel_rfl, by kernel_rfl⟩
theorem ct_laws_toHeap {x : Hep} (h : sizeHp x ≤ 1099511627776) : Ct Tryz.prog 12 [eHp x] [] (oHp x) [] := by
  simp only [sizeHp] at h
  refine Ct_bodyS tok Tryz.func12 rfl 12 (by kernel_rfl) (by kernel_rfl) fun X hX => ?_
  refine jq [1, 2] ?_
  refine jq [1, 2, 3] ?_
  refine W_rseqK [1, 2, 3] (jt 2 (k:=(jc [] (c:=(by apply ct_laws_toObjS <;> first | assumption | omega | exact fun y hy => Nat.le_trans (mem_sum hy) (by omega))) (a:=cb_laws_toObjS) (k:=jr)))) ?_
  refine jq [2, 3] ?_
  refine jq [2] ?_
  refine W_ret (je0 ?_)
  simp [oHp]
end Go.Proofs
namespace Go.Proofs
open Go Go.Ev


theorem cb_laws_eqVal : Callable Tryz.prog 42 := ⟨_, Tryz.func42, by kernel_rfl, by kernel_rfl⟩
theorem ct_laws_eqVal {x y : Vl} : Ct Tryz.prog 42 [eVl x, eVl y] [] (.bool (decide (x = y))) [] := by
  refine Ct_bodyS tok Tryz.func42 rfl 15 (by kernel_rfl) (by kernel_rfl) fun X hX => ?_
  refine jq [2, 3] ?_
  refine W_seq (jq [2, 3, 9] ?_)
  refine jd (fun h1 => ?_) (fun h1 => ?_)
  · try simp at h1
    refine jq [4] ?_
    refine W_ret (je0 ?_)
    (try simp at *) <;> cases x <;> cases y <;> simp_all
  · try simp at h1
    refine W_skip (W_seq (jq [14] ?_))
    refine jd (fun h3 => ?_) (fun h3 => ?_)
    · try simp at h3
      refine jq [4] ?_
      refine W_ret (je0 ?_)
      (try simp at *) <;> cases x <;> cases y <;> simp_all
    · try simp at h3
      refine W_skip (jq [4] ?_)
      refine W_ret (je0 ?_)
      (try simp at *) <;> cases x <;> cases y <;> simp_all
end Go.Proofs
namespace Go.Proofs
open Go Go.Ev


theorem cb_laws_eqValS : Callable Tryz.prog 135 := ⟨_, Tryz.func135, by kernel_rfl, by kernel_rfl⟩
theorem ct_laws_eqValS {l1 l2 : List Vl} (q1 : l1.length < 4611686018427387904) (q2 : l2.length < 4611686018427387904) : Ct Tryz.prog 135 [.lst false 2 (l1.map eVl), .lst false 2 (l2.map eVl)] [] (.bool (decide (l1 = l2))) [] := by
  refine Ct_bodyS tok Tryz.func135 rfl 27 (by kernel_rfl) (by kernel_rfl) fun X hX => ?_
  refine jq [0, 1] ?_
  refine W_seq (jq [0, 1, 10] ?_)
  refine jd (fun h1 => ?_) (fun h1 => ?_)
  · try simp at h1
    replace h1 : ¬ l1.length = l2.length := by omega
    refine jq [4] ?_
    refine W_ret (je0 ?_)
    have : ¬ l1 = l2 := fun e => h1 (by rw [e])
    simp [this]
  · try simp at h1
    replace h1 : l1.length = l2.length := by omega
    refine W_skip (W_seq (jq [0, 1, 5] ?_))
    refine W_block (W_loopU (α := Nat) [0, 1, 5] (fun i => [(5, .int .i64 i)]) (fun i => []) (fun i => i ≤ l1.length ∧ (l1.drop i = l2.drop i ↔ l1 = l2)) (fun i => l1.length - i) (0) (fun i => by simp; rfl) (by simp) ?_ ?_)
    · simp
    rintro i ⟨hi, hI⟩
    refine W_seq (jq [0, 1, 5, 14] ?_)
    refine jd (fun h4 => ?_) (fun h4 => ?_)
    · try simp at h4
      have h4b : i < l1.length := by omega
      have h4c : i < l2.length := by omega
      rw [List.drop_eq_getElem_cons h4b, List.drop_eq_getElem_cons h4c, List.cons.injEq] at hI
      refine W_skip (W_seq (W_block (jD [0, 1, 5, 26] (jS 8 (by simp [h4, h4b, h4c]; rfl) (jC (c:=by apply ct_laws_eqVal <;> first | assumption | omega | exact hb1 _ (List.getElem_mem _) | exact hb2 _ (List.getElem_mem _)) (a:=cb_laws_eqVal) (k:=(jQ (by simp; rfl))))) ?_)))
      refine jd (fun h6 => ?_) (fun h6 => ?_)
      · try simp at h6
        refine jq [4] ?_
        refine W_ret (je (by simp [h4, h4b, h4c]; rfl) ?_)
        simp_all
      · try simp at h6
        refine W_skip (W_reg (jh hX (by simp; (try (simp (disch := omega) only [wrap_i64]; (try simp))); rfl)) ?_)
        refine round_end (i + 1) [0, 1, 5] (by simp [h4, h4b, h4c]; try (simp (disch := omega) only [wrap_i64])) ?_ ?_
        · exact ⟨by omega, by simp_all⟩
        · omega
    · try simp at h4
      refine W_exit (jq [4] ?_)
      refine W_ret (je (by simp [h4]; rfl) ?_)
      have : l1.drop i = [] := List.drop_eq_nil_of_le (by omega)
      have e2 : l2.drop i = [] := List.drop_eq_nil_of_le (by omega)
      simp_all
end Go.Proofs
namespace Go.Proofs
open Go Go.Ev


theorem cb_laws_eqObj : Callable Tryz.prog 86 := ⟨_, Tryz.func86, by kernel_rfl, by kernel_rfl⟩
theorem ct_laws_eqObj {x y : HOb} (hx : bigOb x) (hy : bigOb y) : Ct Tryz.prog 86 [eOb x, eOb y] [] (.bool (decide (x = y))) [] := by
  simp only [bigOb] at hx hy
  obtain ⟨p0, p1⟩ := hx
  obtain ⟨q0, q1⟩ := hy
  refine Ct_bodyS tok Tryz.func86 rfl 26 (by kernel_rfl) (by kernel_rfl) fun X hX => ?_
  refine jq [2, 3] ?_
  refine W_seq (jq [2, 3, 9] ?_)
  refine jd (fun h1 => ?_) (fun h1 => ?_)
  · try simp at h1
    refine jq [4] ?_
    refine W_ret (je0 ?_)
    (try simp at *) <;> cases x <;> cases y <;> simp_all
  · try simp at h1
    refine W_skip (W_seq (jq [2, 3, 14] ?_))
    refine jd (fun h3 => ?_) (fun h3 => ?_)
    · try simp at h3
      refine jq [4] ?_
      refine W_ret (je0 ?_)
      (try simp at *) <;> cases x <;> cases y <;> simp_all
    · try simp at h3
      refine W_skip (W_seq (jq [2, 3, 19] ?_))
      refine jd (fun h5 => ?_) (fun h5 => ?_)
      · try simp at h5
        refine jq [4] ?_
        refine W_ret (je0 ?_)
        (try simp at *) <;> cases x <;> cases y <;> simp_all
      · try simp at h5
        refine W_skip (W_seq (W_rseqK [25] (jt 4 (k:=(jc [] (c:=(by apply ct_laws_eqValS <;> first | assumption | omega)) (a:=cb_laws_eqValS) (k:=jr)))) ?_))
        refine jd (fun h7 => ?_) (fun h7 => ?_)
        · try simp at h7
          refine jq [4] ?_
          refine W_ret (je0 ?_)
          (try simp at *) <;> cases x <;> cases y <;> simp_all
        · try simp at h7
          refine W_skip (jq [4] ?_)
          refine W_ret (je0 ?_)
          (try simp at *) <;> cases x <;> cases y <;> simp_all
end Go.Proofs
namespace Go.Proofs
open Go Go.Ev


theorem cb_laws_eqObjS : Callable Tryz.prog 44 := ⟨_, Tryz.func44, by kernel_rfl, by kernel_rfl⟩
theorem ct_laws_eqObjS {l1 l2 : List HOb} (q1 : l1.length < 4611686018427387904) (q2 : l2.length < 4611686018427387904) (hb1 : ∀ y ∈ l1, bigOb y) (hb2 : ∀ y ∈ l2, bigOb y) : Ct Tryz.prog 44 [.lst false 4 (l1.map eOb), .lst false 4 (l2.map eOb)] [] (.bool (decide (l1 = l2))) [] := by
  refine Ct_bodyS tok Tryz.func44 rfl 27 (by kernel_rfl) (by kernel_rfl) fun X hX => ?_
  refine jq [0, 1] ?_
  refine W_seq (jq [0, 1, 10] ?_)
  refine jd (fun h1 => ?_) (fun h1 => ?_)
  · try simp at h1
    replace h1 : ¬ l1.length = l2.length := by omega
    refine jq [4] ?_
    refine W_ret (je0 ?_)
    have : ¬ l1 = l2 := fun e => h1 (by rw [e])
    simp [this]
  · try simp at h1
    replace h1 : l1.length = l2.length := by omega
    refine W_skip (W_seq (jq [0, 1, 5] ?_))
    refine W_block (W_loopU (α := Nat) [0, 1, 5] (fun i => [(5, .int .i64 i)]) (fun i => []) (fun i => i ≤ l1.length ∧ (l1.drop i = l2.drop i ↔ l1 = l2)) (fun i => l1.length - i) (0) (fun i => by simp; rfl) (by simp) ?_ ?_)
    · simp
    rintro i ⟨hi, hI⟩
    refine W_seq (jq [0, 1, 5, 14] ?_)
    refine jd (fun h4 => ?_) (fun h4 => ?_)
    · try simp at h4
      have h4b : i < l1.length := by omega
      have h4c : i < l2.length := by omega
      rw [List.drop_eq_getElem_cons h4b, List.drop_eq_getElem_cons h4c, List.cons.injEq] at hI
      refine W_skip (W_seq (W_block (jD [0, 1, 5, 26] (jS 8 (by simp [h4, h4b, h4c]; rfl) (jC (c:=by apply ct_laws_eqObj <;> first | assumption | omega | exact hb1 _ (List.getElem_mem _) | exact hb2 _ (List.getElem_mem _)) (a:=cb_laws_eqObj) (k:=(jQ (by simp; rfl))))) ?_)))
      refine jd (fun h6 => ?_) (fun h6 => ?_)
      · try simp at h6
        refine jq [4] ?_
        refine W_ret (je (by simp [h4, h4b, h4c]; rfl) ?_)
        simp_all
      · try simp at h6
        refine W_skip (W_reg (jh hX (by simp; (try (simp (disch := omega) only [wrap_i64]; (try simp))); rfl)) ?_)
        refine round_end (i + 1) [0, 1, 5] (by simp [h4, h4b, h4c]; try (simp (disch := omega) only [wrap_i64])) ?_ ?_
        · exact ⟨by omega, by simp_all⟩
        · omega
    · try simp at h4
      refine W_exit (jq [4] ?_)
      refine W_ret (je (by simp [h4]; rfl) ?_)
      have : l1.drop i = [] := List.drop_eq_nil_of_le (by omega)
      have e2 : l2.drop i = [] := List.drop_eq_nil_of_le (by omega)
      simp_all
end Go.Proofs
namespace Go.Proofs
open Go Go.Ev


theorem cb_laws_eqHeap : Callable Tryz.prog 16 := ⟨_, Tryz.func16, by kernel_rfl, by kernel_rfl⟩
theorem ct_laws_eqHeap {x y : Hep} (hx : bigHp x) (hy : bigHp y) : Ct Tryz.prog 16 [eHp x, eHp y] [] (.bool (decide (x = y))) [] := by
  simp only [bigHp] at hx hy
  obtain ⟨p0, p1⟩ := hx
  obtain ⟨q0, q1⟩ := hy
  refine Ct_bodyS tok Tryz.func16 rfl 16 (by kernel_rfl) (by kernel_rfl) fun X hX => ?_
  refine jq [2, 3] ?_
  refine W_seq (W_rseqK [2, 3, 10] (jt 4 (k:=(jc [] (c:=(by apply ct_laws_eqObjS <;> first | assumption | omega)) (a:=cb_laws_eqObjS) (k:=jr)))) ?_)
  refine jd (fun h1 => ?_) (fun h1 => ?_)
  · try simp at h1
    refine jq [4] ?_
    refine W_ret (je0 ?_)
    (try simp at *) <;> cases x <;> cases y <;> simp_all
  · try simp at h1
    refine W_skip (W_seq (jq [15] ?_))
    refine jd (fun h3 => ?_) (fun h3 => ?_)
    · try simp at h3
      refine jq [4] ?_
      refine W_ret (je0 ?_)
      (try simp at *) <;> cases x <;> cases y <;> simp_all
    · try simp at h3
      refine W_skip (jq [4] ?_)
      refine W_ret (je0 ?_)
      (try simp at *) <;> cases x <;> cases y <;> simp_all
end Go.Proofs
namespace Go.Proofs
open Go Go.Ev


theorem cb_laws_eqHeapOut : Callable Tryz.prog 14 := ⟨_, Tryz.func14, by kernel_rfl, by kernel_rfl⟩
theorem ct_laws_eqHeapOut {x y : HpO} (hx : bigHp x.h) (hy : bigHp y.h) : Ct Tryz.prog 14 [eHo x, eHo y] [] (.bool (decide (x = y))) [] := by
  refine Ct_bodyS tok Tryz.func14 rfl 22 (by kernel_rfl) (by kernel_rfl) fun X hX => ?_
  refine jq [2, 3] ?_
  refine W_seq (W_rseqK [2, 3, 10] (jt 4 (k:=(jc [] (c:=(by apply (ct_laws_eqHeap (x := x.h) (y := y.h)) <;> first | assumption | omega)) (a:=cb_laws_eqHeap) (k:=jr)))) ?_)
  refine jd (fun h1 => ?_) (fun h1 => ?_)
  · try simp at h1
    refine jq [4] ?_
    refine W_ret (je0 ?_)
    (try simp at *) <;> cases x <;> cases y <;> simp_all
  · try simp at h1
    refine W_skip (W_seq (W_rseqK [2, 3, 16] (jt 4 (k:=(jc [] (c:=(by apply ct_laws_eqVal <;> first | assumption | omega)) (a:=cb_laws_eqVal) (k:=jr)))) ?_))
    refine jd (fun h3 => ?_) (fun h3 => ?_)
    · try simp at h3
      refine jq [4] ?_
      refine W_ret (je0 ?_)
      (try simp at *) <;> cases x <;> cases y <;> simp_all
    · try simp at h3
      refine W_skip (W_seq (jq [21] ?_))
      refine jd (fun h5 => ?_) (fun h5 => ?_)
      · try simp at h5
        refine jq [4] ?_
        refine W_ret (je0 ?_)
        (try simp at *) <;> cases x <;> cases y <;> simp_all
      · try simp at h5
        refine W_skip (jq [4] ?_)
        refine W_ret (je0 ?_)
        (try simp at *) <;> cases x <;> cases y <;> simp_all
end Go.Proofs
namespace Go.Proofs
open Go Go.Ev


theorem cb_laws_eqField : Callable Tryz.prog 133 := ⟨_, Tryz.func133, by kernel_rfl, by kernel_rfl⟩
theorem ct_laws_eqField {x y : Fld} : Ct Tryz.prog 133 [eF x, eF y] [] (.bool (decide (x = y))) [] := by
  refine Ct_bodyS tok Tryz.func133 rfl 20 (by kernel_rfl) (by kernel_rfl) fun X hX => ?_
  refine jq [2, 3] ?_
  refine W_seq (jq [2, 3, 9] ?_)
  refine jd (fun h1 => ?_) (fun h1 => ?_)
  · try simp at h1
    refine jq [4] ?_
    refine W_ret (je0 ?_)
    (try simp at *) <;> cases x <;> cases y <;> simp_all
  · try simp at h1
    refine W_skip (W_seq (jq [2, 3, 14] ?_))
    refine jd (fun h3 => ?_) (fun h3 => ?_)
    · try simp at h3
      refine jq [4] ?_
      refine W_ret (je0 ?_)
      (try simp at *) <;> cases x <;> cases y <;> simp_all
    · try simp at h3
      refine W_skip (W_seq (jq [19] ?_))
      refine jd (fun h5 => ?_) (fun h5 => ?_)
      · try simp at h5
        refine jq [4] ?_
        refine W_ret (je0 ?_)
        (try simp at *) <;> cases x <;> cases y <;> simp_all
      · try simp at h5
        refine W_skip (jq [4] ?_)
        refine W_ret (je0 ?_)
        (try simp at *) <;> cases x <;> cases y <;> simp_all
end Go.Proofs
namespace Go.Proofs
open Go Go.Ev


theorem cb_laws_eqFieldS : Callable Tryz.prog 84 := ⟨_, Tryz.func84, by kernel_rfl, by kernel_rfl⟩
theorem ct_laws_eqFieldS {l1 l2 : List Fld} (q1 : l1.length < 4611686018427387904) (q2 : l2.length < 4611686018427387904) : Ct Tryz.prog 84 [.lst false 3 (l1.map eF), .lst false 3 (l2.map eF)] [] (.bool (decide (l1 = l2))) [] := by
  refine Ct_bodyS tok Tryz.func84 rfl 27 (by kernel_rfl) (by kernel_rfl) fun X hX => ?_
  refine jq [0, 1] ?_
  refine W_seq (jq [0, 1, 10] ?_)
  refine jd (fun h1 => ?_) (fun h1 => ?_)
  · try simp at h1
    replace h1 : ¬ l1.length = l2.length := by omega
    refine jq [4] ?_
    refine W_ret (je0 ?_)
    have : ¬ l1 = l2 := fun e => h1 (by rw [e])
    simp [this]
  · try simp at h1
    replace h1 : l1.length = l2.length := by omega
    refine W_skip (W_seq (jq [0, 1, 5] ?_))
    refine W_block (W_loopU (α := Nat) [0, 1, 5] (fun i => [(5, .int .i64 i)]) (fun i => []) (fun i => i ≤ l1.length ∧ (l1.drop i = l2.drop i ↔ l1 = l2)) (fun i => l1.length - i) (0) (fun i => by simp; rfl) (by simp) ?_ ?_)
    · simp
    rintro i ⟨hi, hI⟩
    refine W_seq (jq [0, 1, 5, 14] ?_)
    refine jd (fun h4 => ?_) (fun h4 => ?_)
    · try simp at h4
      have h4b : i < l1.length := by omega
      have h4c : i < l2.length := by omega
      rw [List.drop_eq_getElem_cons h4b, List.drop_eq_getElem_cons h4c, List.cons.injEq] at hI
      refine W_skip (W_seq (W_block (jD [0, 1, 5, 26] (jS 8 (by simp [h4, h4b, h4c]; rfl) (jC (c:=by apply ct_laws_eqField <;> first | assumption | omega | exact hb1 _ (List.getElem_mem _) | exact hb2 _ (List.getElem_mem _)) (a:=cb_laws_eqField) (k:=(jQ (by simp; rfl))))) ?_)))
      refine jd (fun h6 => ?_) (fun h6 => ?_)
      · try simp at h6
        refine jq [4] ?_
        refine W_ret (je (by simp [h4, h4b, h4c]; rfl) ?_)
        simp_all
      · try simp at h6
        refine W_skip (W_reg (jh hX (by simp; (try (simp (disch := omega) only [wrap_i64]; (try simp))); rfl)) ?_)
        refine round_end (i + 1) [0, 1, 5] (by simp [h4, h4b, h4c]; try (simp (disch := omega) only [wrap_i64])) ?_ ?_
        · exact ⟨by omega, by simp_all⟩
        · omega
    · try simp at h4
      refine W_exit (jq [4] ?_)
      refine W_ret (je (by simp [h4]; rfl) ?_)
      have : l1.drop i = [] := List.drop_eq_nil_of_le (by omega)
      have e2 : l2.drop i = [] := List.drop_eq_nil_of_le (by omega)
      simp_all
end Go.Proofs
namespace Go.Proofs
open Go Go.Ev


theorem cb_laws_eqIns : Callable Tryz.prog 217 := ⟨_, Tryz.func217, by kernel_rfl, by kernel_rfl⟩
theorem ct_laws_eqIns {x y : Ins} : Ct Tryz.prog 217 [eI x, eI y] [] (.bool (decide (x = y))) [] := by
  refine Ct_bodyS tok Tryz.func217 rfl 30 (by kernel_rfl) (by kernel_rfl) fun X hX => ?_
  refine jq [2, 3] ?_
  refine W_seq (jq [2, 3, 9] ?_)
  refine jd (fun h1 => ?_) (fun h1 => ?_)
  · try simp at h1
    refine jq [4] ?_
    refine W_ret (je0 ?_)
    (try simp at *) <;> cases x <;> cases y <;> simp_all
  · try simp at h1
    refine W_skip (W_seq (jq [2, 3, 14] ?_))
    refine jd (fun h3 => ?_) (fun h3 => ?_)
    · try simp at h3
      refine jq [4] ?_
      refine W_ret (je0 ?_)
      (try simp at *) <;> cases x <;> cases y <;> simp_all
    · try simp at h3
      refine W_skip (W_seq (jq [2, 3, 19] ?_))
      refine jd (fun h5 => ?_) (fun h5 => ?_)
      · try simp at h5
        refine jq [4] ?_
        refine W_ret (je0 ?_)
        (try simp at *) <;> cases x <;> cases y <;> simp_all
      · try simp at h5
        refine W_skip (W_seq (jq [2, 3, 24] ?_))
        refine jd (fun h7 => ?_) (fun h7 => ?_)
        · try simp at h7
          refine jq [4] ?_
          refine W_ret (je0 ?_)
          (try simp at *) <;> cases x <;> cases y <;> simp_all
        · try simp at h7
          refine W_skip (W_seq (jq [29] ?_))
          refine jd (fun h9 => ?_) (fun h9 => ?_)
          · try simp at h9
            refine jq [4] ?_
            refine W_ret (je0 ?_)
            (try simp at *) <;> cases x <;> cases y <;> simp_all
          · try simp at h9
            refine W_skip (jq [4] ?_)
            refine W_ret (je0 ?_)
            (try simp at *) <;> cases x <;> cases y <;> simp_all
end Go.Proofs
namespace Go.Proofs
open Go Go.Ev


theorem cb_laws_eqInsS : Callable Tryz.prog 182 := ⟨_, Tryz.func182, by kernel_rfl, by kernel_rfl⟩
theorem ct_laws_eqInsS {l1 l2 : List Ins} (q1 : l1.length < 4611686018427387904) (q2 : l2.length < 4611686018427387904) : Ct Tryz.prog 182 [.lst false 5 (l1.map eI), .lst false 5 (l2.map eI)] [] (.bool (decide (l1 = l2))) [] := by
  refine Ct_bodyS tok Tryz.func182 rfl 27 (by kernel_rfl) (by kernel_rfl) fun X hX => ?_
  refine jq [0, 1] ?_
  refine W_seq (jq [0, 1, 10] ?_)
  refine jd (fun h1 => ?_) (fun h1 => ?_)
  · try simp at h1
    replace h1 : ¬ l1.length = l2.length := by omega
    refine jq [4] ?_
    refine W_ret (je0 ?_)
    have : ¬ l1 = l2 := fun e => h1 (by rw [e])
    simp [this]
  · try simp at h1
    replace h1 : l1.length = l2.length := by omega
    refine W_skip (W_seq (jq [0, 1, 5] ?_))
    refine W_block (W_loopU (α := Nat) [0, 1, 5] (fun i => [(5, .int .i64 i)]) (fun i => []) (fun i => i ≤ l1.length ∧ (l1.drop i = l2.drop i ↔ l1 = l2)) (fun i => l1.length - i) (0) (fun i => by simp; rfl) (by simp) ?_ ?_)
    · simp
    rintro i ⟨hi, hI⟩
    refine W_seq (jq [0, 1, 5, 14] ?_)
    refine jd (fun h4 => ?_) (fun h4 => ?_)
    · try simp at h4
      have h4b : i < l1.length := by omega
      have h4c : i < l2.length := by omega
      rw [List.drop_eq_getElem_cons h4b, List.drop_eq_getElem_cons h4c, List.cons.injEq] at hI
      refine W_skip (W_seq (W_block (jD [0, 1, 5, 26] (jS 8 (by simp [h4, h4b, h4c]; rfl) (jC (c:=by apply ct_laws_eqIns <;> first | assumption | omega | exact hb1 _ (List.getElem_mem _) | exact hb2 _ (List.getElem_mem _)) (a:=cb_laws_eqIns) (k:=(jQ (by simp; rfl))))) ?_)))
      refine jd (fun h6 => ?_) (fun h6 => ?_)
      · try simp at h6
        refine jq [4] ?_
        refine W_ret (je (by simp [h4, h4b, h4c]; rfl) ?_)
        simp_all
      · try simp at h6
        refine W_skip (W_reg (jh hX (by simp; (try (simp (disch := omega) only [wrap_i64]; (try simp))); rfl)) ?_)
        refine round_end (i + 1) [0, 1, 5] (by simp [h4, h4b, h4c]; try (simp (disch := omega) only [wrap_i64])) ?_ ?_
        · exact ⟨by omega, by simp_all⟩
        · omega
    · try simp at h4
      refine W_exit (jq [4] ?_)
      refine W_ret (je (by simp [h4]; rfl) ?_)
      have : l1.drop i = [] := List.drop_eq_nil_of_le (by omega)
      have e2 : l2.drop i = [] := List.drop_eq_nil_of_le (by omega)
      simp_all
end Go.Proofs
namespace Go.Proofs
open Go Go.Ev


theorem cb_laws_eqHandler : Callable Tryz.prog 218 := ⟨_, Tryz.func218, by kernel_rfl, by kernel_rfl⟩
theorem ct_laws_eqHandler {x y : Hdl} : Ct Tryz.prog 218 [eH x, eH y] [] (.bool (decide (x = y))) [] := by
  refine Ct_bodyS tok Tryz.func218 rfl 25 (by kernel_rfl) (by kernel_rfl) fun X hX => ?_
  refine jq [2, 3] ?_
  refine W_seq (jq [2, 3, 9] ?_)
  refine jd (fun h1 => ?_) (fun h1 => ?_)
  · try simp at h1
    refine jq [4] ?_
    refine W_ret (je0 ?_)
    (try simp at *) <;> cases x <;> cases y <;> simp_all
  · try simp at h1
    refine W_skip (W_seq (jq [2, 3, 14] ?_))
    refine jd (fun h3 => ?_) (fun h3 => ?_)
    · try simp at h3
      refine jq [4] ?_
      refine W_ret (je0 ?_)
      (try simp at *) <;> cases x <;> cases y <;> simp_all
    · try simp at h3
      refine W_skip (W_seq (jq [2, 3, 19] ?_))
      refine jd (fun h5 => ?_) (fun h5 => ?_)
      · try simp at h5
        refine jq [4] ?_
        refine W_ret (je0 ?_)
        (try simp at *) <;> cases x <;> cases y <;> simp_all
      · try simp at h5
        refine W_skip (W_seq (jq [24] ?_))
        refine jd (fun h7 => ?_) (fun h7 => ?_)
        · try simp at h7
          refine jq [4] ?_
          refine W_ret (je0 ?_)
          (try simp at *) <;> cases x <;> cases y <;> simp_all
        · try simp at h7
          refine W_skip (jq [4] ?_)
          refine W_ret (je0 ?_)
          (try simp at *) <;> cases x <;> cases y <;> simp_all
end Go.Proofs
namespace Go.Proofs
open Go Go.Ev


theorem cb_laws_eqHandlerS : Callable Tryz.prog 183 := ⟨_, Tryz.func183, by kernel_rfl, by kernel_rfl⟩
theorem ct_laws_eqHandlerS {l1 l2 : List Hdl} (q1 : l1.length < 4611686018427387904) (q2 : l2.length < 4611686018427387904) : Ct Tryz.prog 183 [.lst false 4 (l1.map eH), .lst false 4 (l2.map eH)] [] (.bool (decide (l1 = l2))) [] := by
  refine Ct_bodyS tok Tryz.func183 rfl 27 (by kernel_rfl) (by kernel_rfl) fun X hX => ?_
  refine jq [0, 1] ?_
  refine W_seq (jq [0, 1, 10] ?_)
  refine jd (fun h1 => ?_) (fun h1 => ?_)
  · try simp at h1
    replace h1 : ¬ l1.length = l2.length := by omega
    refine jq [4] ?_
    refine W_ret (je0 ?_)
    have : ¬ l1 = l2 := fun e => h1 (by rw [e])
    simp [this]
  · try simp at h1
    replace h1 : l1.length = l2.length := by omega
    refine W_skip (W_seq (jq [0, 1, 5] ?_))
    refine W_block (W_loopU (α := Nat) [0, 1, 5] (fun i => [(5, .int .i64 i)]) (fun i => []) (fun i => i ≤ l1.length ∧ (l1.drop i = l2.drop i ↔ l1 = l2)) (fun i => l1.length - i) (0) (fun i => by simp; rfl) (by simp) ?_ ?_)
    · simp
    rintro i ⟨hi, hI⟩
    refine W_seq (jq [0, 1, 5, 14] ?_)
    refine jd (fun h4 => ?_) (fun h4 => ?_)
    · try simp at h4
      have h4b : i < l1.length := by omega
      have h4c : i < l2.length := by omega
      rw [List.drop_eq_getElem_cons h4b, List.drop_eq_getElem_cons h4c, List.cons.injEq] at hI
      refine W_skip (W_seq (W_block (jD [0, 1, 5, 26] (jS 8 (by simp [h4, h4b, h4c]; rfl) (jC (c:=by apply ct_laws_eqHandler <;> first | assumption | omega | exact hb1 _ (List.getElem_mem _) | exact hb2 _ (List.getElem_mem _)) (a:=cb_laws_eqHandler) (k:=(jQ (by simp; rfl))))) ?_)))
      refine jd (fun h6 => ?_) (fun h6 => ?_)
      · try simp at h6
        refine jq [4] ?_
        refine W_ret (je (by simp [h4, h4b, h4c]; rfl) ?_)
        simp_all
      · try simp at h6
        refine W_skip (W_reg (jh hX (by simp; (try (simp (disch := omega) only [wrap_i64]; (try simp))); rfl)) ?_)
        refine round_end (i + 1) [0, 1, 5] (by simp [h4, h4b, h4c]; try (simp (disch := omega) only [wrap_i64])) ?_ ?_
        · exact ⟨by omega, by simp_all⟩
        · omega
    · try simp at h4
      refine W_exit (jq [4] ?_)
      refine W_ret (je (by simp [h4]; rfl) ?_)
      have : l1.drop i = [] := List.drop_eq_nil_of_le (by omega)
      have e2 : l2.drop i = [] := List.drop_eq_nil_of_le (by omega)
      simp_all
end Go.Proofs
namespace Go.Proofs
open Go Go.Ev


theorem cb_laws_eqMethod : Callable Tryz.prog 134 := ⟨_, Tryz.func134, by kernel_rfl, by kernel_rfl⟩
theorem ct_laws_eqMethod {x y : Mth} (hx : bigM x) (hy : bigM y) : Ct Tryz.prog 134 [eM x, eM y] [] (.bool (decide (x = y))) [] := by
  simp only [bigM] at hx hy
  obtain ⟨p0, p1, p2, p3, p4, p5⟩ := hx
  obtain ⟨q0, q1, q2, q3, q4, q5⟩ := hy
  refine Ct_bodyS tok Tryz.func134 rfl 52 (by kernel_rfl) (by kernel_rfl) fun X hX => ?_
  refine jq [2, 3] ?_
  refine W_seq (jq [2, 3, 9] ?_)
  refine jd (fun h1 => ?_) (fun h1 => ?_)
  · try simp at h1
    refine jq [4] ?_
    refine W_ret (je0 ?_)
    (try simp at *) <;> cases x <;> cases y <;> simp_all
  · try simp at h1
    refine W_skip (W_seq (jq [2, 3, 14] ?_))
    refine jd (fun h3 => ?_) (fun h3 => ?_)
    · try simp at h3
      refine jq [4] ?_
      refine W_ret (je0 ?_)
      (try simp at *) <;> cases x <;> cases y <;> simp_all
    · try simp at h3
      refine W_skip (W_seq (jq [2, 3, 19] ?_))
      refine jd (fun h5 => ?_) (fun h5 => ?_)
      · try simp at h5
        refine jq [4] ?_
        refine W_ret (je0 ?_)
        (try simp at *) <;> cases x <;> cases y <;> simp_all
      · try simp at h5
        refine W_skip (W_seq (jq [2, 3, 24] ?_))
        refine jd (fun h7 => ?_) (fun h7 => ?_)
        · try simp at h7
          refine jq [4] ?_
          refine W_ret (je0 ?_)
          (try simp at *) <;> cases x <;> cases y <;> simp_all
        · try simp at h7
          refine W_skip (W_seq (jq [2, 3, 29] ?_))
          refine jd (fun h9 => ?_) (fun h9 => ?_)
          · try simp at h9
            refine jq [4] ?_
            refine W_ret (je0 ?_)
            (try simp at *) <;> cases x <;> cases y <;> simp_all
          · try simp at h9
            refine W_skip (W_seq (jq [2, 3, 34] ?_))
            refine jd (fun h11 => ?_) (fun h11 => ?_)
            · try simp at h11
              refine jq [4] ?_
              refine W_ret (je0 ?_)
              (try simp at *) <;> cases x <;> cases y <;> simp_all
            · try simp at h11
              refine W_skip (W_seq (jq [2, 3, 39] ?_))
              refine jd (fun h13 => ?_) (fun h13 => ?_)
              · try simp at h13
                refine jq [4] ?_
                refine W_ret (je0 ?_)
                (try simp at *) <;> cases x <;> cases y <;> simp_all
              · try simp at h13
                refine W_skip (W_seq (W_rseqK [2, 3, 45] (jt 4 (k:=(jc [] (c:=(by apply ct_laws_eqInsS <;> first | assumption | omega)) (a:=cb_laws_eqInsS) (k:=jr)))) ?_))
                refine jd (fun h15 => ?_) (fun h15 => ?_)
                · try simp at h15
                  refine jq [4] ?_
                  refine W_ret (je0 ?_)
                  (try simp at *) <;> cases x <;> cases y <;> simp_all
                · try simp at h15
                  refine W_skip (W_seq (W_rseqK [51] (jt 4 (k:=(jc [] (c:=(by apply ct_laws_eqHandlerS <;> first | assumption | omega)) (a:=cb_laws_eqHandlerS) (k:=jr)))) ?_))
                  refine jd (fun h17 => ?_) (fun h17 => ?_)
                  · try simp at h17
                    refine jq [4] ?_
                    refine W_ret (je0 ?_)
                    (try simp at *) <;> cases x <;> cases y <;> simp_all
                  · try simp at h17
                    refine W_skip (jq [4] ?_)
                    refine W_ret (je0 ?_)
                    (try simp at *) <;> cases x <;> cases y <;> simp_all
end Go.Proofs
namespace Go.Proofs
open Go Go.Ev


theorem cb_laws_eqMethodS : Callable Tryz.prog 85 := ⟨_, Tryz.func85, by kernel_rfl, by kernel_rfl⟩
theorem ct_laws_eqMethodS {l1 l2 : List Mth} (q1 : l1.length < 4611686018427387904) (q2 : l2.length < 4611686018427387904) (hb1 : ∀ y ∈ l1, bigM y) (hb2 : ∀ y ∈ l2, bigM y) : Ct Tryz.prog 85 [.lst false 9 (l1.map eM), .lst false 9 (l2.map eM)] [] (.bool (decide (l1 = l2))) [] := by
  refine Ct_bodyS tok Tryz.func85 rfl 27 (by kernel_rfl) (by kernel_rfl) fun X hX => ?_
  refine jq [0, 1] ?_
  refine W_seq (jq [0, 1, 10] ?_)
  refine jd (fun h1 => ?_) (fun h1 => ?_)
  · try simp at h1
    replace h1 : ¬ l1.length = l2.length := by omega
    refine jq [4] ?_
    refine W_ret (je0 ?_)
    have : ¬ l1 = l2 := fun e => h1 (by rw [e])
    simp [this]
  · try simp at h1
    replace h1 : l1.length = l2.length := by omega
    refine W_skip (W_seq (jq [0, 1, 5] ?_))
    refine W_block (W_loopU (α := Nat) [0, 1, 5] (fun i => [(5, .int .i64 i)]) (fun i => []) (fun i => i ≤ l1.length ∧ (l1.drop i = l2.drop i ↔ l1 = l2)) (fun i => l1.length - i) (0) (fun i => by simp; rfl) (by simp) ?_ ?_)
    · simp
    rintro i ⟨hi, hI⟩
    refine W_seq (jq [0, 1, 5, 14] ?_)
    refine jd (fun h4 => ?_) (fun h4 => ?_)
    · try simp at h4
      have h4b : i < l1.length := by omega
      have h4c : i < l2.length := by omega
      rw [List.drop_eq_getElem_cons h4b, List.drop_eq_getElem_cons h4c, List.cons.injEq] at hI
      refine W_skip (W_seq (W_block (jD [0, 1, 5, 26] (jS 8 (by simp [h4, h4b, h4c]; rfl) (jC (c:=by apply ct_laws_eqMethod <;> first | assumption | omega | exact hb1 _ (List.getElem_mem _) | exact hb2 _ (List.getElem_mem _)) (a:=cb_laws_eqMethod) (k:=(jQ (by simp; rfl))))) ?_)))
      refine jd (fun h6 => ?_) (fun h6 => ?_)
      · try simp at h6
        refine jq [4] ?_
        refine W_ret (je (by simp [h4, h4b, h4c]; rfl) ?_)
        simp_all
      · try simp at h6
        refine W_skip (W_reg (jh hX (by simp; (try (simp (disch := omega) only [wrap_i64]; (try simp))); rfl)) ?_)
        refine round_end (i + 1) [0, 1, 5] (by simp [h4, h4b, h4c]; try (simp (disch := omega) only [wrap_i64])) ?_ ?_
        · exact ⟨by omega, by simp_all⟩
        · omega
    · try simp at h4
      refine W_exit (jq [4] ?_)
      refine W_ret (je (by simp [h4]; rfl) ?_)
      have : l1.drop i = [] := List.drop_eq_nil_of_le (by omega)
      have e2 : l2.drop i = [] := List.drop_eq_nil_of_le (by omega)
      simp_all
end Go.Proofs
namespace Go.Proofs
open Go Go.Ev


theorem cb_laws_eqClass : Callable Tryz.prog 43 := ⟨_, Tryz.func43, by kernel_rfl, by kernel_rfl⟩
theorem ct_laws_eqClass {x y : Cls} (hx : bigC x) (hy : bigC y) : Ct Tryz.prog 43 [eC x, eC y] [] (.bool (decide (x = y))) [] := by
  simp only [bigC] at hx hy
  obtain ⟨p0, p1, p2, p3, p4, p5⟩ := hx
  obtain ⟨q0, q1, q2, q3, q4, q5⟩ := hy
  refine Ct_bodyS tok Tryz.func43 rfl 37 (by kernel_rfl) (by kernel_rfl) fun X hX => ?_
  refine jq [2, 3] ?_
  refine W_seq (jq [2, 3, 9] ?_)
  refine jd (fun h1 => ?_) (fun h1 => ?_)
  · try simp at h1
    refine jq [4] ?_
    refine W_ret (je0 ?_)
    (try simp at *) <;> cases x <;> cases y <;> simp_all
  · try simp at h1
    refine W_skip (W_seq (jq [2, 3, 14] ?_))
    refine jd (fun h3 => ?_) (fun h3 => ?_)
    · try simp at h3
      refine jq [4] ?_
      refine W_ret (je0 ?_)
      (try simp at *) <;> cases x <;> cases y <;> simp_all
    · try simp at h3
      refine W_skip (W_seq (jq [2, 3, 19] ?_))
      refine jd (fun h5 => ?_) (fun h5 => ?_)
      · try simp at h5
        refine jq [4] ?_
        refine W_ret (je0 ?_)
        (try simp at *) <;> cases x <;> cases y <;> simp_all
      · try simp at h5
        refine W_skip (W_seq (jq [2, 3, 24] ?_))
        refine jd (fun h7 => ?_) (fun h7 => ?_)
        · try simp at h7
          refine jq [4] ?_
          refine W_ret (je0 ?_)
          (try simp at *) <;> cases x <;> cases y <;> simp_all
        · try simp at h7
          refine W_skip (W_seq (W_rseqK [2, 3, 30] (jt 4 (k:=(jc [] (c:=(by apply ct_laws_eqFieldS <;> first | assumption | omega)) (a:=cb_laws_eqFieldS) (k:=jr)))) ?_))
          refine jd (fun h9 => ?_) (fun h9 => ?_)
          · try simp at h9
            refine jq [4] ?_
            refine W_ret (je0 ?_)
            (try simp at *) <;> cases x <;> cases y <;> simp_all
          · try simp at h9
            refine W_skip (W_seq (W_rseqK [36] (jt 4 (k:=(jc [] (c:=(by apply ct_laws_eqMethodS <;> first | assumption | omega)) (a:=cb_laws_eqMethodS) (k:=jr)))) ?_))
            refine jd (fun h11 => ?_) (fun h11 => ?_)
            · try simp at h11
              refine jq [4] ?_
              refine W_ret (je0 ?_)
              (try simp at *) <;> cases x <;> cases y <;> simp_all
            · try simp at h11
              refine W_skip (jq [4] ?_)
              refine W_ret (je0 ?_)
              (try simp at *) <;> cases x <;> cases y <;> simp_all
end Go.Proofs
namespace Go.Proofs
open Go Go.Ev


theorem cb_laws_eqClassS : Callable Tryz.prog 15 := ⟨_, Tryz.func15, by kernel_rfl, by kernel_rfl⟩
theorem ct_laws_eqClassS {l1 l2 : List Cls} (q1 : l1.length < 4611686018427387904) (q2 : l2.length < 4611686018427387904) (hb1 : ∀ y ∈ l1, bigC y) (hb2 : ∀ y ∈ l2, bigC y) : Ct Tryz.prog 15 [.lst false 6 (l1.map eC), .lst false 6 (l2.map eC)] [] (.bool (decide (l1 = l2))) [] := by
  refine Ct_bodyS tok Tryz.func15 rfl 27 (by kernel_rfl) (by kernel_rfl) fun X hX => ?_
  refine jq [0, 1] ?_
  refine W_seq (jq [0, 1, 10] ?_)
  refine jd (fun h1 => ?_) (fun h1 => ?_)
  · try simp at h1
    replace h1 : ¬ l1.length = l2.length := by omega
    refine jq [4] ?_
    refine W_ret (je0 ?_)
    have : ¬ l1 = l2 := fun e => h1 (by rw [e])
    simp [this]
  · try simp at h1
    replace h1 : l1.length = l2.length := by omega
    refine W_skip (W_seq (jq [0, 1, 5] ?_))
    refine W_block (W_loopU (α := Nat) [0, 1, 5] (fun i => [(5, .int .i64 i)]) (fun i => []) (fun i => i ≤ l1.length ∧ (l1.drop i = l2.drop i ↔ l1 = l2)) (fun i => l1.length - i) (0) (fun i => by simp; rfl) (by simp) ?_ ?_)
    · simp
    rintro i ⟨hi, hI⟩
    refine W_seq (jq [0, 1, 5, 14] ?_)
    refine jd (fun h4 => ?_) (fun h4 => ?_)
    · try simp at h4
      have h4b : i < l1.length := by omega
      have h4c : i < l2.length := by omega
      rw [List.drop_eq_getElem_cons h4b, List.drop_eq_getElem_cons h4c, List.cons.injEq] at hI
      refine W_skip (W_seq (W_block (jD [0, 1, 5, 26] (jS 8 (by simp [h4, h4b, h4c]; rfl) (jC (c:=by apply ct_laws_eqClass <;> first | assumption | omega | exact hb1 _ (List.getElem_mem _) | exact hb2 _ (List.getElem_mem _)) (a:=cb_laws_eqClass) (k:=(jQ (by simp; rfl))))) ?_)))
      refine jd (fun h6 => ?_) (fun h6 => ?_)
      · try simp at h6
        refine jq [4] ?_
        refine W_ret (je (by simp [h4, h4b, h4c]; rfl) ?_)
        simp_all
      · try simp at h6
        refine W_skip (W_reg (jh hX (by simp; (try (simp (disch := omega) only [wrap_i64]; (try simp))); rfl)) ?_)
        refine round_end (i + 1) [0, 1, 5] (by simp [h4, h4b, h4c]; try (simp (disch := omega) only [wrap_i64])) ?_ ?_
        · exact ⟨by omega, by simp_all⟩
        · omega
    · try simp at h4
      refine W_exit (jq [4] ?_)
      refine W_ret (je (by simp [h4]; rfl) ?_)
      have : l1.drop i = [] := List.drop_eq_nil_of_le (by omega)
      have e2 : l2.drop i = [] := List.drop_eq_nil_of_le (by omega)
      simp_all
end Go.Proofs
namespace Go.Proofs
open Go Go.Ev


theorem cb_laws_markText : Callable Tryz.prog 45 := ⟨_, Tryz.func45, by kernel_rfl, by kernel_rfl⟩
theorem ct_laws_markText {k : Nat} (hk : k < 4611686018427387904) : Ct Tryz.prog 45 [.int .i64 k] [] (.str (mText k)) [] := by
  refine Ct_bodyS tok Tryz.func45 rfl 20 (by kernel_rfl) (by kernel_rfl) fun X hX => ?_
  refine jq [0] ?_
  refine W_seq (jq [0, 5] ?_)
  refine jd (fun h1 => ?_) (fun h1 => ?_)
  · try simp at h1
    refine W_rseqK [2] (jh hX (by simp [h1]; rfl)) ?_
    refine W_ret (je (by simp [h1]; rfl) ?_)
    simp [mText]; omega
  · try simp at h1
    refine W_skip (W_rseqK [0, 3] (jh hX (by simp [h1]; rfl)) ?_)
    refine W_seq (W_block (W_loopU (α := Nat × Str) [0, 3] (fun p => [(0, .int .i64 p.1), (3, .str p.2)]) (fun p => []) (fun p => p.1 ≤ k ∧ mDig p.1 p.2 = mDig k [] ∧ p.2.length + p.1 ≤ k) (fun p => p.1) ((k, [])) (fun p => by simp; rfl) (by simp) ?_ ?_))
    · simp
    rintro ⟨j, o⟩ ⟨hj, hI, hl⟩
    simp only at hj hI hl
    have hb0 : o.length < 9223372036854775806 := by omega
    have hb1 : 1 + o.length < 9223372036854775807 := by omega
    have hb2 := dig_wrap j
    refine W_seq (W_rseqK [0, 3, 7] (jh hX (by simp [h1, hb1, hb2, hb0]; rfl)) ?_)
    refine jd (fun h4 => ?_) (fun h4 => ?_)
    · try simp at h4
      refine W_skip (W_block (W_rseqK [0, 3] (jh hX (by simp [h1, hb1, hb2, hb0, h4]; (try (simp (disch := omega) only [wrap_i64]; (try simp [h1, hb1, hb2, hb0, h4]))); rfl)) ?_))
      refine W_reg (jh hX (by simp [h1, hb1, hb2, hb0, h4]; rfl)) ?_
      refine round_endT ((j / 10, UInt8.ofNat (48 + j % 10) :: o)) [0, 3] 0 (by simp [hX]) (by simp) (by simp [h1, hb1, hb2, hb0, h4]; try (simp (disch := omega) only [wrap_i64])) ?_ ?_
      · exact ⟨by simp only; omega, by rw [← hI, mDig_go h4], by simp only [List.length_cons]; omega⟩
      · simp only; omega
    · try simp at h4
      refine W_exit (W_rseqK [2] (jh hX (by simp [h1, hb1, hb2, hb0, h4]; (try (simp (disch := omega) only [wrap_i64]; (try simp [h1, hb1, hb2, hb0, h4]))); rfl)) ?_)
      refine W_ret (je (by simp [h1, hb1, hb2, hb0, h4]; rfl) ?_)
      obtain rfl : j = 0 := by omega
      rw [mDig_zero] at hI
      simp [mText, h1, ← hI]
end Go.Proofs
namespace Go.Proofs
open Go Go.Ev


theorem cb_laws_markFieldS : Callable Tryz.prog 46 := ⟨_, Tryz.func46, by kernel_rfl, by kernel_rfl⟩
theorem ct_laws_markFieldS {l : List Fld} {k : Nat} (hl : l.length ≤ 1099511627776) (hk : k ≤ 1099511627776) : Ct Tryz.prog 46 [.arr 0 0 l.length, .int .i64 k] [some (3, l.map eF)] (.int .i64 ((k + 3 * l.length : Nat) : Int)) [some (3, (mks mkF 3 k l.length).map eF)] := by
  refine Ct_bodyS tok Tryz.func46 rfl 38 (by kernel_rfl) (by kernel_rfl) fun X hX => ?_
  refine jq [0, 1] ?_
  refine W_seq (jq [0, 1, 5] ?_)
  refine W_block (W_loopU (α := Nat × Nat) [0, 1, 5] (fun p => [(1, .int .i64 (p.2 : Nat)), (5, .int .i64 (p.1 : Nat))]) (fun p => [(0, some (3, (mks mkF 3 k p.1).map eF ++ (l.map eF).drop p.1))]) (fun p => p.1 ≤ l.length ∧ p.2 = k + 3 * p.1) (fun p => l.length - p.1) ((0, k)) (fun p => by simp; rfl) (by simp [mks]) ?_ ?_)
  · simp
  rintro ⟨i, q⟩ ⟨hi, hq⟩
  simp only at hi hq
  obtain ⟨q1, e1⟩ : ∃ x, x = q + 1 := ⟨_, rfl⟩
  have w1 : IntKind.i64.wrap ((q : Int) + 1) = (q1 : Int) := by rw [wrap_i64 (by omega) (by omega)]; omega
  obtain ⟨q2, e2⟩ : ∃ x, x = q1 + 1 := ⟨_, rfl⟩
  have w2 : IntKind.i64.wrap ((q1 : Int) + 1) = (q2 : Int) := by rw [wrap_i64 (by omega) (by omega)]; omega
  obtain ⟨q3, e3⟩ : ∃ x, x = q2 + 1 := ⟨_, rfl⟩
  have w3 : IntKind.i64.wrap ((q2 : Int) + 1) = (q3 : Int) := by rw [wrap_i64 (by omega) (by omega)]; omega
  have v2 := mod3 q2
  refine W_seq (W_rseqK [0, 1, 5, 9] (jh hX (by simp [w1, w2, w3, v2]; rfl)) ?_)
  refine jd (fun h2 => ?_) (fun h2 => ?_)
  · try simp at h2
    rw [List.drop_eq_getElem_cons (show i < (l.map eF).length by simpa using h2), List.getElem_map]
    generalize hZ : (l.map eF).drop (i + 1) = Z
    obtain ⟨Y, hY⟩ : ∃ Y, Y = (mks mkF 3 k i).map eF := ⟨_, rfl⟩
    rw [← hY]
    have hYl : Y.length = i := by simp [hY, mks_len]
    have m1 := fun x => midG hYl x Z
    have m2 := fun x y => midS hYl x y Z
    have hnext : (mks mkF 3 k (i + 1)).map eF ++ (l.map eF).drop (i + 1) = Y ++ .agg [.str (mText q), .str (mText q1), .bool (decide (q2 % 3 = 0))] :: Z := by
      rw [mks_succ, ← hq, hZ, hY]
      simp [mkF, e1, e2, e3]
      try omega
    refine W_skip (W_seq (W_block (W_rseqK [0, 1, 5] (js hX 3 (by simp [w1, w2, w3, v2, h2, m1, m2, hYl]; rfl) (jc [] (c:=(by apply ct_laws_markText <;> first | omega | assumption)) (a:=cb_laws_markText) (k:=(jh hX (by simp [w1, w2, w3, v2, h2, m1, m2, hYl]; rfl))))) ?_)))
    refine W_rseqK [0, 1, 5] (jh hX (by simp [w1, w2, w3, v2, h2, m1, m2, hYl]; (try (simp (disch := omega) only [wrap_i64]; (try simp [w1, w2, w3, v2, h2, m1, m2, hYl]))); rfl)) ?_
    refine W_rseqK [0, 1, 5] (js hX 3 (by simp [w1, w2, w3, v2, h2, m1, m2, hYl]; rfl) (jc [] (c:=(by apply ct_laws_markText <;> first | omega | assumption)) (a:=cb_laws_markText) (k:=(jh hX (by simp [w1, w2, w3, v2, h2, m1, m2, hYl]; rfl))))) ?_
    refine W_rseqK [0, 1, 5] (jh hX (by simp [w1, w2, w3, v2, h2, m1, m2, hYl]; (try (simp (disch := omega) only [wrap_i64]; (try simp [w1, w2, w3, v2, h2, m1, m2, hYl]))); rfl)) ?_
    refine W_rseqK [0, 1, 5] (jh hX (by simp [w1, w2, w3, v2, h2, m1, m2, hYl]; rfl)) ?_
    refine W_reg (jh hX (by simp [w1, w2, w3, v2, h2, m1, m2, hYl]; (try (simp (disch := omega) only [wrap_i64]; (try simp [w1, w2, w3, v2, h2, m1, m2, hYl]))); rfl)) ?_
    refine W_reg (jh hX (by simp [w1, w2, w3, v2, h2, m1, m2, hYl]; (try (simp (disch := omega) only [wrap_i64]; (try simp [w1, w2, w3, v2, h2, m1, m2, hYl]))); rfl)) ?_
    refine round_end ((i + 1, q3)) [0, 1, 5] (by simp [hnext, w1, w2, w3]; try (simp (disch := omega) only [wrap_i64]); try omega) ?_ ?_
    · exact ⟨by simp only; omega, by simp only; omega⟩
    · simp only; omega
  · try simp at h2
    have hil : i = l.length := by omega
    subst hil
    rw [List.drop_eq_nil_of_le (by simp), List.append_nil]
    refine W_exit (W_rseqK [4] (jh hX (by simp [w1, w2, w3, v2, h2]; rfl)) ?_)
    refine W_ret (W_retR2 (by simp [w1, w2, w3, v2, h2]; rfl) (by rfl) (.of_eq ?_) ?_)
    all_goals clear hX
    · skip
      simp; omega
    · skip
      simp
end Go.Proofs
namespace Go.Proofs
open Go Go.Ev


theorem cb_laws_markInsS : Callable Tryz.prog 87 := ⟨_, Tryz.func87, by kernel_rfl, by kernel_rfl⟩
theorem ct_laws_markInsS {l : List Ins} {k : Nat} (hl : l.length ≤ 1099511627776) (hk : k ≤ 1099511627776) : Ct Tryz.prog 87 [.arr 0 0 l.length, .int .i64 k] [some (5, l.map eI)] (.int .i64 ((k + 5 * l.length : Nat) : Int)) [some (5, (mks mkI 5 k l.length).map eI)] := by
  refine Ct_bodyS tok Tryz.func87 rfl 51 (by kernel_rfl) (by kernel_rfl) fun X hX => ?_
  refine jq [0, 1] ?_
  refine W_seq (jq [0, 1, 5] ?_)
  refine W_block (W_loopU (α := Nat × Nat) [0, 1, 5] (fun p => [(1, .int .i64 (p.2 : Nat)), (5, .int .i64 (p.1 : Nat))]) (fun p => [(0, some (5, (mks mkI 5 k p.1).map eI ++ (l.map eI).drop p.1))]) (fun p => p.1 ≤ l.length ∧ p.2 = k + 5 * p.1) (fun p => l.length - p.1) ((0, k)) (fun p => by simp; rfl) (by simp [mks]) ?_ ?_)
  · simp
  rintro ⟨i, q⟩ ⟨hi, hq⟩
  simp only at hi hq
  obtain ⟨q1, e1⟩ : ∃ x, x = q + 1 := ⟨_, rfl⟩
  have w1 : IntKind.i64.wrap ((q : Int) + 1) = (q1 : Int) := by rw [wrap_i64 (by omega) (by omega)]; omega
  obtain ⟨q2, e2⟩ : ∃ x, x = q1 + 1 := ⟨_, rfl⟩
  have w2 : IntKind.i64.wrap ((q1 : Int) + 1) = (q2 : Int) := by rw [wrap_i64 (by omega) (by omega)]; omega
  obtain ⟨q3, e3⟩ : ∃ x, x = q2 + 1 := ⟨_, rfl⟩
  have w3 : IntKind.i64.wrap ((q2 : Int) + 1) = (q3 : Int) := by rw [wrap_i64 (by omega) (by omega)]; omega
  obtain ⟨q4, e4⟩ : ∃ x, x = q3 + 1 := ⟨_, rfl⟩
  have w4 : IntKind.i64.wrap ((q3 : Int) + 1) = (q4 : Int) := by rw [wrap_i64 (by omega) (by omega)]; omega
  obtain ⟨q5, e5⟩ : ∃ x, x = q4 + 1 := ⟨_, rfl⟩
  have w5 : IntKind.i64.wrap ((q4 : Int) + 1) = (q5 : Int) := by rw [wrap_i64 (by omega) (by omega)]; omega
  refine W_seq (W_rseqK [0, 1, 5, 9] (jh hX (by simp [w1, w2, w3, w4, w5]; rfl)) ?_)
  refine jd (fun h2 => ?_) (fun h2 => ?_)
  · try simp at h2
    rw [List.drop_eq_getElem_cons (show i < (l.map eI).length by simpa using h2), List.getElem_map]
    generalize hZ : (l.map eI).drop (i + 1) = Z
    obtain ⟨Y, hY⟩ : ∃ Y, Y = (mks mkI 5 k i).map eI := ⟨_, rfl⟩
    rw [← hY]
    have hYl : Y.length = i := by simp [hY, mks_len]
    have m1 := fun x => midG hYl x Z
    have m2 := fun x y => midS hYl x y Z
    have hnext : (mks mkI 5 k (i + 1)).map eI ++ (l.map eI).drop (i + 1) = Y ++ .agg [.int .i64 (q : Nat), .int .i64 (q1 : Nat), .str (mText q2), .str (mText q3), .str (mText q4)] :: Z := by
      rw [mks_succ, ← hq, hZ, hY]
      simp [mkI, e1, e2, e3, e4, e5]
      try omega
    refine W_skip (W_seq (W_block (W_rseqK [0, 1, 5] (jh hX (by simp [w1, w2, w3, w4, w5, h2, m1, m2, hYl]; rfl)) ?_)))
    refine W_rseqK [0, 1, 5] (jh hX (by simp [w1, w2, w3, w4, w5, h2, m1, m2, hYl]; (try (simp (disch := omega) only [wrap_i64]; (try simp [w1, w2, w3, w4, w5, h2, m1, m2, hYl]))); rfl)) ?_
    refine W_rseqK [0, 1, 5] (jh hX (by simp [w1, w2, w3, w4, w5, h2, m1, m2, hYl]; rfl)) ?_
    refine W_rseqK [0, 1, 5] (jh hX (by simp [w1, w2, w3, w4, w5, h2, m1, m2, hYl]; (try (simp (disch := omega) only [wrap_i64]; (try simp [w1, w2, w3, w4, w5, h2, m1, m2, hYl]))); rfl)) ?_
    refine W_rseqK [0, 1, 5] (js hX 3 (by simp [w1, w2, w3, w4, w5, h2, m1, m2, hYl]; rfl) (jc [] (c:=(by apply ct_laws_markText <;> first | omega | assumption)) (a:=cb_laws_markText) (k:=(jh hX (by simp [w1, w2, w3, w4, w5, h2, m1, m2, hYl]; rfl))))) ?_
    refine W_rseqK [0, 1, 5] (jh hX (by simp [w1, w2, w3, w4, w5, h2, m1, m2, hYl]; (try (simp (disch := omega) only [wrap_i64]; (try simp [w1, w2, w3, w4, w5, h2, m1, m2, hYl]))); rfl)) ?_
    refine W_rseqK [0, 1, 5] (js hX 3 (by simp [w1, w2, w3, w4, w5, h2, m1, m2, hYl]; rfl) (jc [] (c:=(by apply ct_laws_markText <;> first | omega | assumption)) (a:=cb_laws_markText) (k:=(jh hX (by simp [w1, w2, w3, w4, w5, h2, m1, m2, hYl]; rfl))))) ?_
    refine W_rseqK [0, 1, 5] (jh hX (by simp [w1, w2, w3, w4, w5, h2, m1, m2, hYl]; (try (simp (disch := omega) only [wrap_i64]; (try simp [w1, w2, w3, w4, w5, h2, m1, m2, hYl]))); rfl)) ?_
    refine W_rseqK [0, 1, 5] (js hX 3 (by simp [w1, w2, w3, w4, w5, h2, m1, m2, hYl]; rfl) (jc [] (c:=(by apply ct_laws_markText <;> first | omega | assumption)) (a:=cb_laws_markText) (k:=(jh hX (by simp [w1, w2, w3, w4, w5, h2, m1, m2, hYl]; rfl))))) ?_
    refine W_reg (jh hX (by simp [w1, w2, w3, w4, w5, h2, m1, m2, hYl]; (try (simp (disch := omega) only [wrap_i64]; (try simp [w1, w2, w3, w4, w5, h2, m1, m2, hYl]))); rfl)) ?_
    refine W_reg (jh hX (by simp [w1, w2, w3, w4, w5, h2, m1, m2, hYl]; (try (simp (disch := omega) only [wrap_i64]; (try simp [w1, w2, w3, w4, w5, h2, m1, m2, hYl]))); rfl)) ?_
    refine round_end ((i + 1, q5)) [0, 1, 5] (by simp [hnext, w1, w2, w3, w4, w5]; try (simp (disch := omega) only [wrap_i64]); try omega) ?_ ?_
    · exact ⟨by simp only; omega, by simp only; omega⟩
    · simp only; omega
  · try simp at h2
    have hil : i = l.length := by omega
    subst hil
    rw [List.drop_eq_nil_of_le (by simp), List.append_nil]
    refine W_exit (W_rseqK [4] (jh hX (by simp [w1, w2, w3, w4, w5, h2]; rfl)) ?_)
    refine W_ret (W_retR2 (by simp [w1, w2, w3, w4, w5, h2]; rfl) (by rfl) (.of_eq ?_) ?_)
    all_goals clear hX
    · skip
      simp; omega
    · skip
      simp
end Go.Proofs
namespace Go.Proofs
open Go Go.Ev


theorem cb_laws_markHandlerS : Callable Tryz.prog 88 := ⟨_, Tryz.func88, by kernel_rfl, by kernel_rfl⟩
theorem ct_laws_markHandlerS {l : List Hdl} {k : Nat} (hl : l.length ≤ 1099511627776) (hk : k ≤ 1099511627776) : Ct Tryz.prog 88 [.arr 0 0 l.length, .int .i64 k] [some (4, l.map eH)] (.int .i64 ((k + 4 * l.length : Nat) : Int)) [some (4, (mks mkH 4 k l.length).map eH)] := by
  refine Ct_bodyS tok Tryz.func88 rfl 42 (by kernel_rfl) (by kernel_rfl) fun X hX => ?_
  refine jq [0, 1] ?_
  refine W_seq (jq [0, 1, 5] ?_)
  refine W_block (W_loopU (α := Nat × Nat) [0, 1, 5] (fun p => [(1, .int .i64 (p.2 : Nat)), (5, .int .i64 (p.1 : Nat))]) (fun p => [(0, some (4, (mks mkH 4 k p.1).map eH ++ (l.map eH).drop p.1))]) (fun p => p.1 ≤ l.length ∧ p.2 = k + 4 * p.1) (fun p => l.length - p.1) ((0, k)) (fun p => by simp; rfl) (by simp [mks]) ?_ ?_)
  · simp
  rintro ⟨i, q⟩ ⟨hi, hq⟩
  simp only at hi hq
  obtain ⟨q1, e1⟩ : ∃ x, x = q + 1 := ⟨_, rfl⟩
  have w1 : IntKind.i64.wrap ((q : Int) + 1) = (q1 : Int) := by rw [wrap_i64 (by omega) (by omega)]; omega
  obtain ⟨q2, e2⟩ : ∃ x, x = q1 + 1 := ⟨_, rfl⟩
  have w2 : IntKind.i64.wrap ((q1 : Int) + 1) = (q2 : Int) := by rw [wrap_i64 (by omega) (by omega)]; omega
  obtain ⟨q3, e3⟩ : ∃ x, x = q2 + 1 := ⟨_, rfl⟩
  have w3 : IntKind.i64.wrap ((q2 : Int) + 1) = (q3 : Int) := by rw [wrap_i64 (by omega) (by omega)]; omega
  obtain ⟨q4, e4⟩ : ∃ x, x = q3 + 1 := ⟨_, rfl⟩
  have w4 : IntKind.i64.wrap ((q3 : Int) + 1) = (q4 : Int) := by rw [wrap_i64 (by omega) (by omega)]; omega
  refine W_seq (W_rseqK [0, 1, 5, 9] (jh hX (by simp [w1, w2, w3, w4]; rfl)) ?_)
  refine jd (fun h2 => ?_) (fun h2 => ?_)
  · try simp at h2
    rw [List.drop_eq_getElem_cons (show i < (l.map eH).length by simpa using h2), List.getElem_map]
    generalize hZ : (l.map eH).drop (i + 1) = Z
    obtain ⟨Y, hY⟩ : ∃ Y, Y = (mks mkH 4 k i).map eH := ⟨_, rfl⟩
    rw [← hY]
    have hYl : Y.length = i := by simp [hY, mks_len]
    have m1 := fun x => midG hYl x Z
    have m2 := fun x y => midS hYl x y Z
    have hnext : (mks mkH 4 k (i + 1)).map eH ++ (l.map eH).drop (i + 1) = Y ++ .agg [.int .i64 (q : Nat), .int .i64 (q1 : Nat), .int .i64 (q2 : Nat), .str (mText q3)] :: Z := by
      rw [mks_succ, ← hq, hZ, hY]
      simp [mkH, e1, e2, e3, e4]
      try omega
    refine W_skip (W_seq (W_block (W_rseqK [0, 1, 5] (jh hX (by simp [w1, w2, w3, w4, h2, m1, m2, hYl]; rfl)) ?_)))
    refine W_rseqK [0, 1, 5] (jh hX (by simp [w1, w2, w3, w4, h2, m1, m2, hYl]; (try (simp (disch := omega) only [wrap_i64]; (try simp [w1, w2, w3, w4, h2, m1, m2, hYl]))); rfl)) ?_
    refine W_rseqK [0, 1, 5] (jh hX (by simp [w1, w2, w3, w4, h2, m1, m2, hYl]; rfl)) ?_
    refine W_rseqK [0, 1, 5] (jh hX (by simp [w1, w2, w3, w4, h2, m1, m2, hYl]; (try (simp (disch := omega) only [wrap_i64]; (try simp [w1, w2, w3, w4, h2, m1, m2, hYl]))); rfl)) ?_
    refine W_rseqK [0, 1, 5] (jh hX (by simp [w1, w2, w3, w4, h2, m1, m2, hYl]; rfl)) ?_
    refine W_rseqK [0, 1, 5] (jh hX (by simp [w1, w2, w3, w4, h2, m1, m2, hYl]; (try (simp (disch := omega) only [wrap_i64]; (try simp [w1, w2, w3, w4, h2, m1, m2, hYl]))); rfl)) ?_
    refine W_rseqK [0, 1, 5] (js hX 3 (by simp [w1, w2, w3, w4, h2, m1, m2, hYl]; rfl) (jc [] (c:=(by apply ct_laws_markText <;> first | omega | assumption)) (a:=cb_laws_markText) (k:=(jh hX (by simp [w1, w2, w3, w4, h2, m1, m2, hYl]; rfl))))) ?_
    refine W_reg (jh hX (by simp [w1, w2, w3, w4, h2, m1, m2, hYl]; (try (simp (disch := omega) only [wrap_i64]; (try simp [w1, w2, w3, w4, h2, m1, m2, hYl]))); rfl)) ?_
    refine W_reg (jh hX (by simp [w1, w2, w3, w4, h2, m1, m2, hYl]; (try (simp (disch := omega) only [wrap_i64]; (try simp [w1, w2, w3, w4, h2, m1, m2, hYl]))); rfl)) ?_
    refine round_end ((i + 1, q4)) [0, 1, 5] (by simp [hnext, w1, w2, w3, w4]; try (simp (disch := omega) only [wrap_i64]); try omega) ?_ ?_
    · exact ⟨by simp only; omega, by simp only; omega⟩
    · simp only; omega
  · try simp at h2
    have hil : i = l.length := by omega
    subst hil
    rw [List.drop_eq_nil_of_le (by simp), List.append_nil]
    refine W_exit (W_rseqK [4] (jh hX (by simp [w1, w2, w3, w4, h2]; rfl)) ?_)
    refine W_ret (W_retR2 (by simp [w1, w2, w3, w4, h2]; rfl) (by rfl) (.of_eq ?_) ?_)
    all_goals clear hX
    · skip
      simp; omega
    · skip
      simp
end Go.Proofs
namespace Go.Proofs
open Go Go.Ev


theorem cb_laws_markMethodS : Callable Tryz.prog 47 := ⟨_, Tryz.func47, by kernel_rfl, by kernel_rfl⟩
theorem ct_laws_markMethodS {l : List Mth} {k : Nat} (hk : k + cntMs l ≤ 1073741824) : Ct Tryz.prog 47 [.arr 0 0 l.length, .int .i64 k] [some (9, l.map oM)] (.int .i64 ((k + cntMs l : Nat) : Int)) [some (9, (mkMs k l).map oM)] := by
  have hl : l.length ≤ 1073741824 := by have := cntMs_len l; omega
  refine Ct_bodyS tok Tryz.func47 rfl 84 (by kernel_rfl) (by kernel_rfl) fun X hX => ?_
  refine jq [0, 1] ?_
  refine W_seq (jq [0, 1, 5] ?_)
  refine W_block (W_loopU (α := Nat × Nat) [0, 1, 5] (fun p => [(1, .int .i64 (p.2 : Nat)), (5, .int .i64 (p.1 : Nat))]) (fun p => [(0, some (9, (mkMs k (l.take p.1)).map oM ++ (l.map oM).drop p.1))]) (fun p => p.1 ≤ l.length ∧ p.2 = k + cntMs (l.take p.1)) (fun p => l.length - p.1) ((0, k)) (fun p => by simp; rfl) (by simp [mkMs]) ?_ ?_)
  · simp [cntMs]
  rintro ⟨i, q⟩ ⟨hi, hq⟩
  simp only at hi hq
  have hqB : q ≤ 1073741824 := by have := cntMs_take l i; omega
  obtain ⟨q1, e1⟩ : ∃ x, x = q + 1 := ⟨_, rfl⟩
  have w1 : IntKind.i64.wrap ((q : Int) + 1) = (q1 : Int) := by rw [wrap_i64 (by omega) (by omega)]; omega
  obtain ⟨q2, e2⟩ : ∃ x, x = q1 + 1 := ⟨_, rfl⟩
  have w2 : IntKind.i64.wrap ((q1 : Int) + 1) = (q2 : Int) := by rw [wrap_i64 (by omega) (by omega)]; omega
  obtain ⟨q3, e3⟩ : ∃ x, x = q2 + 1 := ⟨_, rfl⟩
  have w3 : IntKind.i64.wrap ((q2 : Int) + 1) = (q3 : Int) := by rw [wrap_i64 (by omega) (by omega)]; omega
  obtain ⟨q4, e4⟩ : ∃ x, x = q3 + 1 := ⟨_, rfl⟩
  have w4 : IntKind.i64.wrap ((q3 : Int) + 1) = (q4 : Int) := by rw [wrap_i64 (by omega) (by omega)]; omega
  obtain ⟨q5, e5⟩ : ∃ x, x = q4 + 1 := ⟨_, rfl⟩
  have w5 : IntKind.i64.wrap ((q4 : Int) + 1) = (q5 : Int) := by rw [wrap_i64 (by omega) (by omega)]; omega
  obtain ⟨q6, e6⟩ : ∃ x, x = q5 + 1 := ⟨_, rfl⟩
  have w6 : IntKind.i64.wrap ((q5 : Int) + 1) = (q6 : Int) := by rw [wrap_i64 (by omega) (by omega)]; omega
  obtain ⟨q7, e7⟩ : ∃ x, x = q6 + 1 := ⟨_, rfl⟩
  have w7 : IntKind.i64.wrap ((q6 : Int) + 1) = (q7 : Int) := by rw [wrap_i64 (by omega) (by omega)]; omega
  have v2 := mod3 q2
  have v3 := mod3 q3
  have v4 := mod3 q4
  refine W_seq (W_rseqK [0, 1, 5, 9] (jh hX (by simp [w1, w2, w3, w4, w5, w6, w7, v2, v3, v4]; rfl)) ?_)
  refine jd (fun h2 => ?_) (fun h2 => ?_)
  · try simp at h2
    have hB := cntMs_at l i h2
    simp only [cntM] at hB
    rw [List.drop_eq_getElem_cons (show i < (l.map oM).length by simpa using h2), List.getElem_map]
    obtain ⟨Z, hZ⟩ : ∃ Z, Z = (l.map oM).drop (i + 1) := ⟨_, rfl⟩
    rw [← hZ]
    obtain ⟨Y, hY⟩ : ∃ Y, Y = (mkMs k (l.take i)).map oM := ⟨_, rfl⟩
    rw [← hY]
    have hYl : Y.length = i := by rw [hY, List.length_map, mkMs_len, List.length_take]; omega
    have hYZ : ∀ x, i < (Y ++ x :: Z).length := fun x => by simp [hYl]
    have m1 := fun x => midG hYl x Z
    have m2 := fun x y => midS hYl x y Z
    have m3 := fun p x => mid_jk (p := p) (x := x) (Y := Y) (Z := Z) (by rw [hY]; simp) (by rw [hZ, ← List.map_drop]; exact jk_oM p _)
    have hnext : (mkMs k (l.take (i + 1))).map oM ++ (l.map oM).drop (i + 1) = Y ++ .agg [.str (mText q), .str (mText q1), .bool (decide (q2 % 3 = 0)), .bool (decide (q3 % 3 = 0)), .bool (decide (q4 % 3 = 0)), .int .i64 (q5 : Nat), .int .i64 (q6 : Nat), .lst true 5 ((mks mkI 5 q7 l[i].code.length).map eI), .lst true 4 ((mks mkH 4 (q7 + 5 * l[i].code.length) l[i].hdls.length).map eH)] :: Z := by
      rw [mkMs_snoc h2, ← hq, ← hZ, hY]
      simp only [List.map_append, List.map_cons, List.map_nil, List.append_assoc, List.singleton_append, oM, mkM]
      simp [e1, e2, e3, e4, e5, e6, e7]
      try omega
    refine W_le (Le.expose 0 i 7 (by simp [St.expose, m1, m2, hYl]; rfl)) ?_
    refine W_le (Le.expose 0 i 8 (by simp [St.expose, m1, m2, hYl]; rfl)) ?_
    refine W_skip (W_seq (W_block (W_rseqK [0, 1, 5] (js hX 3 (by simp [w1, w2, w3, w4, w5, w6, w7, v2, v3, v4, h2, m1, m2, hYl, hYZ]; rfl) (jc [] (c:=(by apply ct_laws_markText <;> first | omega | assumption | (simp; omega))) (a:=cb_laws_markText) (k:=(jh hX (by simp [w1, w2, w3, w4, w5, w6, w7, v2, v3, v4, h2, m1, m2, hYl, hYZ]; rfl))))) ?_)))
    refine W_rseqK [0, 1, 5] (jh hX (by simp [w1, w2, w3, w4, w5, w6, w7, v2, v3, v4, h2, m1, m2, hYl, hYZ]; (try (simp (disch := omega) only [wrap_i64]; (try simp [w1, w2, w3, w4, w5, w6, w7, v2, v3, v4, h2, m1, m2, hYl, hYZ]))); rfl)) ?_
    refine W_rseqK [0, 1, 5] (js hX 3 (by simp [w1, w2, w3, w4, w5, w6, w7, v2, v3, v4, h2, m1, m2, hYl, hYZ]; rfl) (jc [] (c:=(by apply ct_laws_markText <;> first | omega | assumption | (simp; omega))) (a:=cb_laws_markText) (k:=(jh hX (by simp [w1, w2, w3, w4, w5, w6, w7, v2, v3, v4, h2, m1, m2, hYl, hYZ]; rfl))))) ?_
    refine W_rseqK [0, 1, 5] (jh hX (by simp [w1, w2, w3, w4, w5, w6, w7, v2, v3, v4, h2, m1, m2, hYl, hYZ]; (try (simp (disch := omega) only [wrap_i64]; (try simp [w1, w2, w3, w4, w5, w6, w7, v2, v3, v4, h2, m1, m2, hYl, hYZ]))); rfl)) ?_
    refine W_rseqK [0, 1, 5] (jh hX (by simp [w1, w2, w3, w4, w5, w6, w7, v2, v3, v4, h2, m1, m2, hYl, hYZ]; rfl)) ?_
    refine W_rseqK [0, 1, 5] (jh hX (by simp [w1, w2, w3, w4, w5, w6, w7, v2, v3, v4, h2, m1, m2, hYl, hYZ]; (try (simp (disch := omega) only [wrap_i64]; (try simp [w1, w2, w3, w4, w5, w6, w7, v2, v3, v4, h2, m1, m2, hYl, hYZ]))); rfl)) ?_
    refine W_rseqK [0, 1, 5] (jh hX (by simp [w1, w2, w3, w4, w5, w6, w7, v2, v3, v4, h2, m1, m2, hYl, hYZ]; rfl)) ?_
    refine W_rseqK [0, 1, 5] (jh hX (by simp [w1, w2, w3, w4, w5, w6, w7, v2, v3, v4, h2, m1, m2, hYl, hYZ]; (try (simp (disch := omega) only [wrap_i64]; (try simp [w1, w2, w3, w4, w5, w6, w7, v2, v3, v4, h2, m1, m2, hYl, hYZ]))); rfl)) ?_
    refine W_rseqK [0, 1, 5] (jh hX (by simp [w1, w2, w3, w4, w5, w6, w7, v2, v3, v4, h2, m1, m2, hYl, hYZ]; rfl)) ?_
    refine W_rseqK [0, 1, 5] (jh hX (by simp [w1, w2, w3, w4, w5, w6, w7, v2, v3, v4, h2, m1, m2, hYl, hYZ]; (try (simp (disch := omega) only [wrap_i64]; (try simp [w1, w2, w3, w4, w5, w6, w7, v2, v3, v4, h2, m1, m2, hYl, hYZ]))); rfl)) ?_
    refine W_rseqK [0, 1, 5] (jh hX (by simp [w1, w2, w3, w4, w5, w6, w7, v2, v3, v4, h2, m1, m2, hYl, hYZ]; rfl)) ?_
    refine W_rseqK [0, 1, 5] (jh hX (by simp [w1, w2, w3, w4, w5, w6, w7, v2, v3, v4, h2, m1, m2, hYl, hYZ]; (try (simp (disch := omega) only [wrap_i64]; (try simp [w1, w2, w3, w4, w5, w6, w7, v2, v3, v4, h2, m1, m2, hYl, hYZ]))); rfl)) ?_
    refine W_rseqK [0, 1, 5] (jh hX (by simp [w1, w2, w3, w4, w5, w6, w7, v2, v3, v4, h2, m1, m2, hYl, hYZ]; rfl)) ?_
    refine W_rseqK [0, 1, 5] (jh hX (by simp [w1, w2, w3, w4, w5, w6, w7, v2, v3, v4, h2, m1, m2, hYl, hYZ]; (try (simp (disch := omega) only [wrap_i64]; (try simp [w1, w2, w3, w4, w5, w6, w7, v2, v3, v4, h2, m1, m2, hYl, hYZ]))); rfl)) ?_
    refine W_rseqK [0, 1, 5] (js hX 6 (by simp [w1, w2, w3, w4, w5, w6, w7, v2, v3, v4, h2, m1, m2, hYl, hYZ]; rfl) (jc [1] (c:=(by (try simp only [mapL_T, mapL_F, mapL_I, mapL_H, mapL_M, mapL_C]); apply ct_laws_markInsS <;> first | omega | assumption | (simp; omega))) (a:=cb_laws_markInsS) (k:=(jh hX (by simp [w1, w2, w3, w4, w5, w6, w7, v2, v3, v4, h2, m1, m2, hYl, hYZ]; rfl))))) ?_
    refine W_reg (js hX 6 (by simp [w1, w2, w3, w4, w5, w6, w7, v2, v3, v4, h2, m1, m2, hYl, hYZ]; rfl) (jc [2] (c:=(by (try simp only [mapL_T, mapL_F, mapL_I, mapL_H, mapL_M, mapL_C]); apply ct_laws_markHandlerS <;> first | omega | assumption | (simp; omega))) (a:=cb_laws_markHandlerS) (k:=(jh hX (by simp [w1, w2, w3, w4, w5, w6, w7, v2, v3, v4, h2, m1, m2, hYl, hYZ]; rfl))))) ?_
    refine W_reg (jh hX (by simp [w1, w2, w3, w4, w5, w6, w7, v2, v3, v4, h2, m1, m2, hYl, hYZ]; (try (simp (disch := omega) only [wrap_i64]; (try simp [w1, w2, w3, w4, w5, w6, w7, v2, v3, v4, h2, m1, m2, hYl, hYZ]))); rfl)) ?_
    refine ⟨(i + 1, (q7 + 5 * l[i].code.length) + 4 * l[i].hdls.length), Le.trans (Le.keep [0, 1, 5] _) (Le.trans (Le.absorb 0 i 7 (by simp [m1, m2, m3, hYl, hYZ, mks_len, mkMs_len, take_mks, take_mkMs]; rfl)) (Le.trans (Le.absorb 0 i 8 (by simp [m1, m2, m3, hYl, hYZ, mks_len, mkMs_len, take_mks, take_mkMs]; rfl)) (Le.trans (Le.trim 1 (by simp [hX]) _ (by simp)) (Le.of_eq (by simp [hnext, m1, m2, m3, hYl, hYZ, mks_len, mkMs_len, take_mks, take_mkMs, V.jk, jkL, w1, w2, w3, w4, w5, w6, w7]; try omega))))), ?_, ?_⟩
    · exact ⟨by simp only; omega, by simp only; rw [cntMs_snoc h2]; simp only [cntM]; omega⟩
    · simp only; omega
  · try simp at h2
    have hil : i = l.length := by omega
    subst hil
    rw [List.drop_eq_nil_of_le (by simp), List.append_nil, List.take_of_length_le (Nat.le_refl _)]
    rw [List.take_of_length_le (Nat.le_refl _)] at hq
    refine W_exit (W_rseqK [4] (jh hX (by simp [w1, w2, w3, w4, w5, w6, w7, v2, v3, v4, h2]; rfl)) ?_)
    refine W_ret (W_retR2 (by simp [w1, w2, w3, w4, w5, w6, w7, v2, v3, v4, h2]; rfl) (by rfl) (.of_eq ?_) ?_)
    all_goals clear hX
    · skip
      simp; omega
    · skip
      simp
end Go.Proofs
namespace Go.Proofs
open Go Go.Ev


theorem cb_laws_markClassS : Callable Tryz.prog 17 := ⟨_, Tryz.func17, by kernel_rfl, by kernel_rfl⟩
theorem ct_laws_markClassS {l : List Cls} {k : Nat} (hk : k + cntCs l ≤ 1073741824) : Ct Tryz.prog 17 [.arr 0 0 l.length, .int .i64 k] [some (6, l.map oC)] (.int .i64 ((k + cntCs l : Nat) : Int)) [some (6, (mkCs k l).map oC)] := by
  have hl : l.length ≤ 1073741824 := by have := cntCs_len l; omega
  refine Ct_bodyS tok Tryz.func17 rfl 61 (by kernel_rfl) (by kernel_rfl) fun X hX => ?_
  refine jq [0, 1] ?_
  refine W_seq (jq [0, 1, 5] ?_)
  refine W_block (W_loopU (α := Nat × Nat) [0, 1, 5] (fun p => [(1, .int .i64 (p.2 : Nat)), (5, .int .i64 (p.1 : Nat))]) (fun p => [(0, some (6, (mkCs k (l.take p.1)).map oC ++ (l.map oC).drop p.1))]) (fun p => p.1 ≤ l.length ∧ p.2 = k + cntCs (l.take p.1)) (fun p => l.length - p.1) ((0, k)) (fun p => by simp; rfl) (by simp [mkCs]) ?_ ?_)
  · simp [cntCs]
  rintro ⟨i, q⟩ ⟨hi, hq⟩
  simp only at hi hq
  have hqB : q ≤ 1073741824 := by have := cntCs_take l i; omega
  obtain ⟨q1, e1⟩ : ∃ x, x = q + 1 := ⟨_, rfl⟩
  have w1 : IntKind.i64.wrap ((q : Int) + 1) = (q1 : Int) := by rw [wrap_i64 (by omega) (by omega)]; omega
  obtain ⟨q2, e2⟩ : ∃ x, x = q1 + 1 := ⟨_, rfl⟩
  have w2 : IntKind.i64.wrap ((q1 : Int) + 1) = (q2 : Int) := by rw [wrap_i64 (by omega) (by omega)]; omega
  obtain ⟨q3, e3⟩ : ∃ x, x = q2 + 1 := ⟨_, rfl⟩
  have w3 : IntKind.i64.wrap ((q2 : Int) + 1) = (q3 : Int) := by rw [wrap_i64 (by omega) (by omega)]; omega
  obtain ⟨q4, e4⟩ : ∃ x, x = q3 + 1 := ⟨_, rfl⟩
  have w4 : IntKind.i64.wrap ((q3 : Int) + 1) = (q4 : Int) := by rw [wrap_i64 (by omega) (by omega)]; omega
  have v2 := mod3 q2
  have v3 := mod3 q3
  refine W_seq (W_rseqK [0, 1, 5, 9] (jh hX (by simp [w1, w2, w3, w4, v2, v3]; rfl)) ?_)
  refine jd (fun h2 => ?_) (fun h2 => ?_)
  · try simp at h2
    have hB := cntCs_at l i h2
    simp only [cntC] at hB
    rw [List.drop_eq_getElem_cons (show i < (l.map oC).length by simpa using h2), List.getElem_map]
    obtain ⟨Z, hZ⟩ : ∃ Z, Z = (l.map oC).drop (i + 1) := ⟨_, rfl⟩
    rw [← hZ]
    obtain ⟨Y, hY⟩ : ∃ Y, Y = (mkCs k (l.take i)).map oC := ⟨_, rfl⟩
    rw [← hY]
    have hYl : Y.length = i := by rw [hY, List.length_map, mkCs_len, List.length_take]; omega
    have hYZ : ∀ x, i < (Y ++ x :: Z).length := fun x => by simp [hYl]
    have m1 := fun x => midG hYl x Z
    have m2 := fun x y => midS hYl x y Z
    have m3 := fun p x => mid_jk (p := p) (x := x) (Y := Y) (Z := Z) (by rw [hY]; simp) (by rw [hZ, ← List.map_drop]; exact jk_oC p _)
    have hnext : (mkCs k (l.take (i + 1))).map oC ++ (l.map oC).drop (i + 1) = Y ++ .agg [.str (mText q), .str (mText q1), .bool (decide (q2 % 3 = 0)), .bool (decide (q3 % 3 = 0)), .lst true 3 ((mks mkF 3 q4 l[i].fields.length).map eF), .lst true 9 ((mkMs (q4 + 3 * l[i].fields.length) l[i].methods).map oM)] :: Z := by
      rw [mkCs_snoc h2, ← hq, ← hZ, hY]
      simp only [List.map_append, List.map_cons, List.map_nil, List.append_assoc, List.singleton_append, oC, mkC]
      simp [e1, e2, e3, e4]
      try omega
    refine W_le (Le.expose 0 i 4 (by simp [St.expose, m1, m2, hYl]; rfl)) ?_
    refine W_le (Le.expose 0 i 5 (by simp [St.expose, m1, m2, hYl]; rfl)) ?_
    refine W_skip (W_seq (W_block (W_rseqK [0, 1, 5] (js hX 3 (by simp [w1, w2, w3, w4, v2, v3, h2, m1, m2, hYl, hYZ]; rfl) (jc [] (c:=(by apply ct_laws_markText <;> first | omega | assumption | (simp; omega))) (a:=cb_laws_markText) (k:=(jh hX (by simp [w1, w2, w3, w4, v2, v3, h2, m1, m2, hYl, hYZ]; rfl))))) ?_)))
    refine W_rseqK [0, 1, 5] (jh hX (by simp [w1, w2, w3, w4, v2, v3, h2, m1, m2, hYl, hYZ]; (try (simp (disch := omega) only [wrap_i64]; (try simp [w1, w2, w3, w4, v2, v3, h2, m1, m2, hYl, hYZ]))); rfl)) ?_
    refine W_rseqK [0, 1, 5] (js hX 3 (by simp [w1, w2, w3, w4, v2, v3, h2, m1, m2, hYl, hYZ]; rfl) (jc [] (c:=(by apply ct_laws_markText <;> first | omega | assumption | (simp; omega))) (a:=cb_laws_markText) (k:=(jh hX (by simp [w1, w2, w3, w4, v2, v3, h2, m1, m2, hYl, hYZ]; rfl))))) ?_
    refine W_rseqK [0, 1, 5] (jh hX (by simp [w1, w2, w3, w4, v2, v3, h2, m1, m2, hYl, hYZ]; (try (simp (disch := omega) only [wrap_i64]; (try simp [w1, w2, w3, w4, v2, v3, h2, m1, m2, hYl, hYZ]))); rfl)) ?_
    refine W_rseqK [0, 1, 5] (jh hX (by simp [w1, w2, w3, w4, v2, v3, h2, m1, m2, hYl, hYZ]; rfl)) ?_
    refine W_rseqK [0, 1, 5] (jh hX (by simp [w1, w2, w3, w4, v2, v3, h2, m1, m2, hYl, hYZ]; (try (simp (disch := omega) only [wrap_i64]; (try simp [w1, w2, w3, w4, v2, v3, h2, m1, m2, hYl, hYZ]))); rfl)) ?_
    refine W_rseqK [0, 1, 5] (jh hX (by simp [w1, w2, w3, w4, v2, v3, h2, m1, m2, hYl, hYZ]; rfl)) ?_
    refine W_rseqK [0, 1, 5] (jh hX (by simp [w1, w2, w3, w4, v2, v3, h2, m1, m2, hYl, hYZ]; (try (simp (disch := omega) only [wrap_i64]; (try simp [w1, w2, w3, w4, v2, v3, h2, m1, m2, hYl, hYZ]))); rfl)) ?_
    refine W_rseqK [0, 1, 5] (js hX 6 (by simp [w1, w2, w3, w4, v2, v3, h2, m1, m2, hYl, hYZ]; rfl) (jc [1] (c:=(by (try simp only [mapL_T, mapL_F, mapL_I, mapL_H, mapL_M, mapL_C]); apply ct_laws_markFieldS <;> first | omega | assumption | (simp; omega))) (a:=cb_laws_markFieldS) (k:=(jh hX (by simp [w1, w2, w3, w4, v2, v3, h2, m1, m2, hYl, hYZ]; rfl))))) ?_
    refine W_reg (js hX 6 (by simp [w1, w2, w3, w4, v2, v3, h2, m1, m2, hYl, hYZ]; rfl) (jc [2] (c:=(by (try simp only [mapL_T, mapL_F, mapL_I, mapL_H, mapL_M, mapL_C]); apply ct_laws_markMethodS <;> first | omega | assumption | (simp; omega))) (a:=cb_laws_markMethodS) (k:=(jh hX (by simp [w1, w2, w3, w4, v2, v3, h2, m1, m2, hYl, hYZ]; rfl))))) ?_
    refine W_reg (jh hX (by simp [w1, w2, w3, w4, v2, v3, h2, m1, m2, hYl, hYZ]; (try (simp (disch := omega) only [wrap_i64]; (try simp [w1, w2, w3, w4, v2, v3, h2, m1, m2, hYl, hYZ]))); rfl)) ?_
    refine ⟨(i + 1, (q4 + 3 * l[i].fields.length) + cntMs l[i].methods), Le.trans (Le.keep [0, 1, 5] _) (Le.trans (Le.absorb 0 i 4 (by simp [m1, m2, m3, hYl, hYZ, mks_len, mkMs_len, take_mks, take_mkMs]; rfl)) (Le.trans (Le.absorb 0 i 5 (by simp [m1, m2, m3, hYl, hYZ, mks_len, mkMs_len, take_mks, take_mkMs]; rfl)) (Le.trans (Le.trim 1 (by simp [hX]) _ (by simp)) (Le.of_eq (by simp [hnext, m1, m2, m3, hYl, hYZ, mks_len, mkMs_len, take_mks, take_mkMs, V.jk, jkL, w1, w2, w3, w4]; try omega))))), ?_, ?_⟩
    · exact ⟨by simp only; omega, by simp only; rw [cntCs_snoc h2]; simp only [cntC]; omega⟩
    · simp only; omega
  · try simp at h2
    have hil : i = l.length := by omega
    subst hil
    rw [List.drop_eq_nil_of_le (by simp), List.append_nil, List.take_of_length_le (Nat.le_refl _)]
    rw [List.take_of_length_le (Nat.le_refl _)] at hq
    refine W_exit (W_rseqK [4] (jh hX (by simp [w1, w2, w3, w4, v2, v3, h2]; rfl)) ?_)
    refine W_ret (W_retR2 (by simp [w1, w2, w3, w4, v2, v3, h2]; rfl) (by rfl) (.of_eq ?_) ?_)
    all_goals clear hX
    · skip
      simp; omega
    · skip
      simp
end Go.Proofs
namespace Go.Proofs
open Go Go.Ev


theorem cb_laws_markValS : Callable Tryz.prog 89 := ⟨_, Tryz.func89, by kernel_rfl, by kernel_rfl⟩
theorem ct_laws_markValS {l : List Vl} {k : Nat} (hl : l.length ≤ 1099511627776) (hk : k ≤ 1099511627776) : Ct Tryz.prog 89 [.arr 0 0 l.length, .int .i64 k] [some (2, l.map eVl)] (.int .i64 ((k + 2 * l.length : Nat) : Int)) [some (2, (mks mkV 2 k l.length).map eVl)] := by
  refine Ct_bodyS tok Tryz.func89 rfl 27 (by kernel_rfl) (by kernel_rfl) fun X hX => ?_
  refine jq [0, 1] ?_
  refine W_seq (jq [0, 1, 5] ?_)
  refine W_block (W_loopU (α := Nat × Nat) [0, 1, 5] (fun p => [(1, .int .i64 (p.2 : Nat)), (5, .int .i64 (p.1 : Nat))]) (fun p => [(0, some (2, (mks mkV 2 k p.1).map eVl ++ (l.map eVl).drop p.1))]) (fun p => p.1 ≤ l.length ∧ p.2 = k + 2 * p.1) (fun p => l.length - p.1) ((0, k)) (fun p => by simp; rfl) (by simp [mks]) ?_ ?_)
  · simp
  rintro ⟨i, q⟩ ⟨hi, hq⟩
  simp only at hi hq
  obtain ⟨q1, e1⟩ : ∃ x, x = q + 1 := ⟨_, rfl⟩
  have w1 : IntKind.i64.wrap ((q : Int) + 1) = (q1 : Int) := by rw [wrap_i64 (by omega) (by omega)]; omega
  obtain ⟨q2, e2⟩ : ∃ x, x = q1 + 1 := ⟨_, rfl⟩
  have w2 : IntKind.i64.wrap ((q1 : Int) + 1) = (q2 : Int) := by rw [wrap_i64 (by omega) (by omega)]; omega
  refine W_seq (W_rseqK [0, 1, 5, 9] (jh hX (by simp [w1, w2]; rfl)) ?_)
  refine jd (fun h2 => ?_) (fun h2 => ?_)
  · try simp at h2
    rw [List.drop_eq_getElem_cons (show i < (l.map eVl).length by simpa using h2), List.getElem_map]
    generalize hZ : (l.map eVl).drop (i + 1) = Z
    obtain ⟨Y, hY⟩ : ∃ Y, Y = (mks mkV 2 k i).map eVl := ⟨_, rfl⟩
    rw [← hY]
    have hYl : Y.length = i := by simp [hY, mks_len]
    have m1 := fun x => midG hYl x Z
    have m2 := fun x y => midS hYl x y Z
    have hnext : (mks mkV 2 k (i + 1)).map eVl ++ (l.map eVl).drop (i + 1) = Y ++ .agg [.int .i64 (q : Nat), .int .i64 (q1 : Nat)] :: Z := by
      rw [mks_succ, ← hq, hZ, hY]
      simp [mkV, e1, e2]
      try omega
    refine W_skip (W_seq (W_block (W_rseqK [0, 1, 5] (jh hX (by simp [w1, w2, h2, m1, m2, hYl]; rfl)) ?_)))
    refine W_rseqK [0, 1, 5] (jh hX (by simp [w1, w2, h2, m1, m2, hYl]; (try (simp (disch := omega) only [wrap_i64]; (try simp [w1, w2, h2, m1, m2, hYl]))); rfl)) ?_
    refine W_rseqK [0, 1, 5] (jh hX (by simp [w1, w2, h2, m1, m2, hYl]; rfl)) ?_
    refine W_reg (jh hX (by simp [w1, w2, h2, m1, m2, hYl]; (try (simp (disch := omega) only [wrap_i64]; (try simp [w1, w2, h2, m1, m2, hYl]))); rfl)) ?_
    refine W_reg (jh hX (by simp [w1, w2, h2, m1, m2, hYl]; (try (simp (disch := omega) only [wrap_i64]; (try simp [w1, w2, h2, m1, m2, hYl]))); rfl)) ?_
    refine round_end ((i + 1, q2)) [0, 1, 5] (by simp [hnext, w1, w2]; try (simp (disch := omega) only [wrap_i64]); try omega) ?_ ?_
    · exact ⟨by simp only; omega, by simp only; omega⟩
    · simp only; omega
  · try simp at h2
    have hil : i = l.length := by omega
    subst hil
    rw [List.drop_eq_nil_of_le (by simp), List.append_nil]
    refine W_exit (W_rseqK [4] (jh hX (by simp [w1, w2, h2]; rfl)) ?_)
    refine W_ret (W_retR2 (by simp [w1, w2, h2]; rfl) (by rfl) (.of_eq ?_) ?_)
    all_goals clear hX
    · skip
      simp; omega
    · skip
      simp
end Go.Proofs
namespace Go.Proofs
open Go Go.Ev


theorem cb_laws_markObjS : Callable Tryz.prog 48 := ⟨_, Tryz.func48, by kernel_rfl, by kernel_rfl⟩
theorem ct_laws_markObjS {l : List HOb} {k : Nat} (hk : k + cntOs l ≤ 1073741824) : Ct Tryz.prog 48 [.arr 0 0 l.length, .int .i64 k] [some (4, l.map oOb)] (.int .i64 ((k + cntOs l : Nat) : Int)) [some (4, (mkOs k l).map oOb)] := by
  have hl : l.length ≤ 1073741824 := by have := cntOs_len l; omega
  refine Ct_bodyS tok Tryz.func48 rfl 44 (by kernel_rfl) (by kernel_rfl) fun X hX => ?_
  refine jq [0, 1] ?_
  refine W_seq (jq [0, 1, 5] ?_)
  refine W_block (W_loopU (α := Nat × Nat) [0, 1, 5] (fun p => [(1, .int .i64 (p.2 : Nat)), (5, .int .i64 (p.1 : Nat))]) (fun p => [(0, some (4, (mkOs k (l.take p.1)).map oOb ++ (l.map oOb).drop p.1))]) (fun p => p.1 ≤ l.length ∧ p.2 = k + cntOs (l.take p.1)) (fun p => l.length - p.1) ((0, k)) (fun p => by simp; rfl) (by simp [mkOs]) ?_ ?_)
  · simp [cntOs]
  rintro ⟨i, q⟩ ⟨hi, hq⟩
  simp only at hi hq
  have hqB : q ≤ 1073741824 := by have := cntOs_take l i; omega
  obtain ⟨q1, e1⟩ : ∃ x, x = q + 1 := ⟨_, rfl⟩
  have w1 : IntKind.i64.wrap ((q : Int) + 1) = (q1 : Int) := by rw [wrap_i64 (by omega) (by omega)]; omega
  obtain ⟨q2, e2⟩ : ∃ x, x = q1 + 1 := ⟨_, rfl⟩
  have w2 : IntKind.i64.wrap ((q1 : Int) + 1) = (q2 : Int) := by rw [wrap_i64 (by omega) (by omega)]; omega
  obtain ⟨q3, e3⟩ : ∃ x, x = q2 + 1 := ⟨_, rfl⟩
  have w3 : IntKind.i64.wrap ((q2 : Int) + 1) = (q3 : Int) := by rw [wrap_i64 (by omega) (by omega)]; omega
  have v2 := mod3 q2
  refine W_seq (W_rseqK [0, 1, 5, 9] (jh hX (by simp [w1, w2, w3, v2]; rfl)) ?_)
  refine jd (fun h2 => ?_) (fun h2 => ?_)
  · try simp at h2
    have hB := cntOs_at l i h2
    simp only [cntO] at hB
    rw [List.drop_eq_getElem_cons (show i < (l.map oOb).length by simpa using h2), List.getElem_map]
    obtain ⟨Z, hZ⟩ : ∃ Z, Z = (l.map oOb).drop (i + 1) := ⟨_, rfl⟩
    rw [← hZ]
    obtain ⟨Y, hY⟩ : ∃ Y, Y = (mkOs k (l.take i)).map oOb := ⟨_, rfl⟩
    rw [← hY]
    have hYl : Y.length = i := by rw [hY, List.length_map, mkOs_len, List.length_take]; omega
    have hYZ : ∀ x, i < (Y ++ x :: Z).length := fun x => by simp [hYl]
    have m1 := fun x => midG hYl x Z
    have m2 := fun x y => midS hYl x y Z
    have m3 := fun p x => mid_jk (p := p) (x := x) (Y := Y) (Z := Z) (by rw [hY]; simp) (by rw [hZ, ← List.map_drop]; exact jk_oOb p _)
    have hnext : (mkOs k (l.take (i + 1))).map oOb ++ (l.map oOb).drop (i + 1) = Y ++ .agg [.int .i64 (q : Nat), .str (mText q1), .bool (decide (q2 % 3 = 0)), .lst true 2 ((mks mkV 2 q3 l[i].vals.length).map eVl)] :: Z := by
      rw [mkOs_snoc h2, ← hq, ← hZ, hY]
      simp only [List.map_append, List.map_cons, List.map_nil, List.append_assoc, List.singleton_append, oOb, mkO]
      simp [e1, e2, e3]
      try omega
    refine W_le (Le.expose 0 i 3 (by simp [St.expose, m1, m2, hYl]; rfl)) ?_
    refine W_skip (W_seq (W_block (W_rseqK [0, 1, 5] (jh hX (by simp [w1, w2, w3, v2, h2, m1, m2, hYl, hYZ]; rfl)) ?_)))
    refine W_rseqK [0, 1, 5] (jh hX (by simp [w1, w2, w3, v2, h2, m1, m2, hYl, hYZ]; (try (simp (disch := omega) only [wrap_i64]; (try simp [w1, w2, w3, v2, h2, m1, m2, hYl, hYZ]))); rfl)) ?_
    refine W_rseqK [0, 1, 5] (js hX 3 (by simp [w1, w2, w3, v2, h2, m1, m2, hYl, hYZ]; rfl) (jc [] (c:=(by apply ct_laws_markText <;> first | omega | assumption | (simp; omega))) (a:=cb_laws_markText) (k:=(jh hX (by simp [w1, w2, w3, v2, h2, m1, m2, hYl, hYZ]; rfl))))) ?_
    refine W_rseqK [0, 1, 5] (jh hX (by simp [w1, w2, w3, v2, h2, m1, m2, hYl, hYZ]; (try (simp (disch := omega) only [wrap_i64]; (try simp [w1, w2, w3, v2, h2, m1, m2, hYl, hYZ]))); rfl)) ?_
    refine W_rseqK [0, 1, 5] (jh hX (by simp [w1, w2, w3, v2, h2, m1, m2, hYl, hYZ]; rfl)) ?_
    refine W_rseqK [0, 1, 5] (jh hX (by simp [w1, w2, w3, v2, h2, m1, m2, hYl, hYZ]; (try (simp (disch := omega) only [wrap_i64]; (try simp [w1, w2, w3, v2, h2, m1, m2, hYl, hYZ]))); rfl)) ?_
    refine W_reg (js hX 6 (by simp [w1, w2, w3, v2, h2, m1, m2, hYl, hYZ]; rfl) (jc [1] (c:=(by (try simp only [mapL_T, mapL_F, mapL_I, mapL_H, mapL_M, mapL_C, mapL_Vl, mapL_Ob]); apply ct_laws_markValS <;> first | omega | assumption | (simp; omega))) (a:=cb_laws_markValS) (k:=(jh hX (by simp [w1, w2, w3, v2, h2, m1, m2, hYl, hYZ]; rfl))))) ?_
    refine W_reg (jh hX (by simp [w1, w2, w3, v2, h2, m1, m2, hYl, hYZ]; (try (simp (disch := omega) only [wrap_i64]; (try simp [w1, w2, w3, v2, h2, m1, m2, hYl, hYZ]))); rfl)) ?_
    refine ⟨(i + 1, (q3 + 2 * l[i].vals.length)), Le.trans (Le.keep [0, 1, 5] _) (Le.trans (Le.absorb 0 i 3 (by simp [m1, m2, m3, hYl, hYZ, mks_len, mkMs_len, take_mks, take_mkMs]; rfl)) (Le.trans (Le.trim 1 (by simp [hX]) _ (by simp)) (Le.of_eq (by simp [hnext, m1, m2, m3, hYl, hYZ, mks_len, mkMs_len, take_mks, take_mkMs, V.jk, jkL, w1, w2, w3]; try omega)))), ?_, ?_⟩
    · exact ⟨by simp only; omega, by simp only; rw [cntOs_snoc h2]; simp only [cntO]; omega⟩
    · simp only; omega
  · try simp at h2
    have hil : i = l.length := by omega
    subst hil
    rw [List.drop_eq_nil_of_le (by simp), List.append_nil, List.take_of_length_le (Nat.le_refl _)]
    rw [List.take_of_length_le (Nat.le_refl _)] at hq
    refine W_exit (W_rseqK [4] (jh hX (by simp [w1, w2, w3, v2, h2]; rfl)) ?_)
    refine W_ret (W_retR2 (by simp [w1, w2, w3, v2, h2]; rfl) (by rfl) (.of_eq ?_) ?_)
    all_goals clear hX
    · skip
      simp; omega
    · skip
      simp
end Go.Proofs
namespace Go.Proofs
open Go Go.Ev


theorem cb_laws_markHeap : Callable Tryz.prog 18 := ⟨_, Tryz.func18, by kernel_rfl, by kernel_rfl⟩
theorem ct_laws_markHeap {l : List HOb} {r : Int} {k : Nat} (hk : k + cntOs l ≤ 1073741824) : Ct Tryz.prog 18 [.agg [.arr 0 0 l.length, .int .i64 r], .int .i64 (k : Nat)] [some (4, l.map oOb)] (.int .i64 ((k + cntOs l : Nat) : Int)) [some (4, (mkOs k l).map oOb)] := by
  refine Ct_bodyS tok Tryz.func18 rfl 10 (by kernel_rfl) (by kernel_rfl) fun X hX => ?_
  refine jq [1, 2] ?_
  refine W_rseqK [1] (jt 3 (k:=(jc [0] (c:=(by (try simp only [mapL_T, mapL_F, mapL_I, mapL_H, mapL_M, mapL_C, mapL_Vl, mapL_Ob]); apply ct_laws_markObjS <;> first | assumption | omega)) (a:=cb_laws_markObjS) (k:=jr)))) ?_
  refine jq [4] ?_
  refine W_ret (W_retR2 (by simp; rfl) (by rfl) (.of_eq ?_) ?_)
  all_goals clear hX
  · skip
    simp
  · skip
    simp
end Go.Proofs
namespace Go.Proofs
open Go Go.Ev


theorem cb_laws_markHeapOut : Callable Tryz.prog 19 := ⟨_, Tryz.func19, by kernel_rfl, by kernel_rfl⟩
theorem ct_laws_markHeapOut {l : List HOb} {r v1 v2 c : Int} {k : Nat} (hk : k + cntOs l ≤ 1073741824) : Ct Tryz.prog 19 [.agg [.arr 0 0 l.length, .int .i64 r, .int .i64 v1, .int .i64 v2, .int .i64 c], .int .i64 (k : Nat)] [some (4, l.map oOb)] (.int .i64 ((k + cntOs l : Nat) : Int)) [some (4, (mkOs k l).map oOb)] := by
  refine Ct_bodyS tok Tryz.func19 rfl 10 (by kernel_rfl) (by kernel_rfl) fun X hX => ?_
  refine jq [1, 2] ?_
  refine W_rseqK [1] (jt 3 (k:=(jc [0] (c:=(by (try simp only [mapL_T, mapL_F, mapL_I, mapL_H, mapL_M, mapL_C, mapL_Vl, mapL_Ob]); apply ct_laws_markHeap <;> first | assumption | omega)) (a:=cb_laws_markHeap) (k:=jr)))) ?_
  refine jq [4] ?_
  refine W_ret (W_retR2 (by simp; rfl) (by rfl) (.of_eq ?_) ?_)
  all_goals clear hX
  · skip
    simp
  · skip
    simp
end Go.Proofs
namespace Go.Proofs
open Go Go.Ev


theorem cb_laws_heldValS : Callable Tryz.prog 136 := ⟨_, Tryz.func136, by kernel_rfl, by kernel_rfl⟩
theorem ct_laws_heldValS {k n : Nat} (hl : n ≤ 1099511627776) (hk : k ≤ 1099511627776) : Ct Tryz.prog 136 [.lst false 2 ((mks mkV 2 k n).map eVl), .int .i64 k] [] (.int .i64 ((k + 2 * n : Nat) : Int)) [] := by
  refine Ct_bodyS tok Tryz.func136 rfl 31 (by kernel_rfl) (by kernel_rfl) fun X hX => ?_
  refine W_rseqK [0, 1] (jh hX (by simp [mks_len]; rfl)) ?_
  refine W_seq (W_rseqK [0, 1, 5] (jh hX (by simp [mks_len]; rfl)) ?_)
  refine W_block (W_loopU (α := Nat × Nat) [0, 1, 5] (fun p => [(1, .int .i64 (p.2 : Nat)), (5, .int .i64 (p.1 : Nat))]) (fun p => []) (fun p => p.1 ≤ n ∧ p.2 = k + 2 * p.1) (fun p => n - p.1) ((0, k)) (fun p => by simp; rfl) (by simp) ?_ ?_)
  · simp
  rintro ⟨i, q⟩ ⟨hi, hq⟩
  simp only at hi hq
  obtain ⟨q1, e1⟩ : ∃ x, x = q + 1 := ⟨_, rfl⟩
  have w1 : IntKind.i64.wrap ((q : Int) + 1) = (q1 : Int) := by rw [wrap_i64 (by omega) (by omega)]; omega
  obtain ⟨q2, e2⟩ : ∃ x, x = q1 + 1 := ⟨_, rfl⟩
  have w2 : IntKind.i64.wrap ((q1 : Int) + 1) = (q2 : Int) := by rw [wrap_i64 (by omega) (by omega)]; omega
  have v1 : (q : Int) + 1 = (q1 : Int) := by omega
  have u1 : q + 1 = q1 := by omega
  refine W_seq (W_rseqK [0, 1, 5, 9] (jh hX (by simp [w1, w2, v1, u1, mks_len]; rfl)) ?_)
  refine jd (fun h2 => ?_) (fun h2 => ?_)
  · try simp at h2
    have hg : ∀ h, (mks mkV 2 k n)[i]'h = mkV q := fun h => by rw [mks_get h2, hq]
    refine W_skip (W_seq (W_block (W_seq (W_rseqK [0, 1, 5, 18] (jh hX (by simp [w1, w2, v1, u1, h2, hg, mkV, mks_len]; rfl)) ?_))))
    refine jd (fun h4 => ?_) (fun h4 => ?_)
    · try simp at h4
      all_goals
        refine W_rseqK [4] (jh hX (by simp [w1, w2, v1, u1, h2, hg, mkV, mks_len]; rfl)) ?_
        refine W_ret (je (by simp [w1, w2, v1, u1, h2, hg, mkV, mks_len]; rfl) ?_)
        simp; omega
    · try simp at h4
      all_goals
        refine W_skip (W_rseqK [0, 1, 5] (jh hX (by simp [w1, w2, v1, u1, h2, hg, mkV, mks_len]; (try (simp (disch := omega) only [wrap_i64]; (try simp [w1, w2, v1, u1, h2, hg, mkV, mks_len]))); rfl)) ?_)
        refine W_seq (W_rseqK [0, 1, 5, 27] (jh hX (by simp [w1, w2, v1, u1, h2, hg, mkV, mks_len]; rfl)) ?_)
        refine jd (fun h7 => ?_) (fun h7 => ?_)
        · try simp at h7
          all_goals
            refine W_rseqK [4] (jh hX (by simp [w1, w2, v1, u1, h2, hg, mkV, mks_len]; rfl)) ?_
            refine W_ret (je (by simp [w1, w2, v1, u1, h2, hg, mkV, mks_len]; rfl) ?_)
            simp; omega
        · try simp at h7
          all_goals
            refine W_skip (W_reg (jh hX (by simp [w1, w2, v1, u1, h2, hg, mkV, mks_len]; (try (simp (disch := omega) only [wrap_i64]; (try simp [w1, w2, v1, u1, h2, hg, mkV, mks_len]))); rfl)) ?_)
            refine W_reg (jh hX (by simp [w1, w2, v1, u1, h2, hg, mkV, mks_len]; (try (simp (disch := omega) only [wrap_i64]; (try simp [w1, w2, v1, u1, h2, hg, mkV, mks_len]))); rfl)) ?_
            refine round_end ((i + 1, q2)) [0, 1, 5] (by simp [w1, w2, v1, u1, h2, hg, mkV]; try (simp (disch := omega) only [wrap_i64])) ?_ ?_
            · exact ⟨by simp only; omega, by simp only; omega⟩
            · simp only; omega
  · try simp at h2
    refine W_exit (W_rseqK [4] (jh hX (by simp [w1, w2, v1, u1, h2, mks_len]; rfl)) ?_)
    refine W_ret (je (by simp [w1, w2, v1, u1, h2, mks_len]; rfl) ?_)
    simp; omega
end Go.Proofs
namespace Go.Proofs
open Go Go.Ev


theorem cb_laws_heldObjS : Callable Tryz.prog 90 := ⟨_, Tryz.func90, by kernel_rfl, by kernel_rfl⟩
theorem ct_laws_heldObjS {l : List HOb} {k : Nat} (hk : k + cntOs l ≤ 1073741824) : Ct Tryz.prog 90 [.lst false 4 ((mkOs k l).map eOb), .int .i64 (k : Nat)] [] (.int .i64 ((k + cntOs l : Nat) : Int)) [] := by
  have hl : l.length ≤ 1073741824 := by have := cntOs_len l; omega
  refine Ct_bodyS tok Tryz.func90 rfl 52 (by kernel_rfl) (by kernel_rfl) fun X hX => ?_
  refine W_rseqK [0, 1] (jh hX (by simp [mkOs_len]; rfl)) ?_
  refine W_seq (W_rseqK [0, 1, 5] (jh hX (by simp [mkOs_len]; rfl)) ?_)
  refine W_block (W_loopU (α := Nat × Nat) [0, 1, 5] (fun p => [(1, .int .i64 (p.2 : Nat)), (5, .int .i64 (p.1 : Nat))]) (fun p => []) (fun p => p.1 ≤ l.length ∧ p.2 = k + cntOs (l.take p.1)) (fun p => l.length - p.1) ((0, k)) (fun p => by simp; rfl) (by simp) ?_ ?_)
  · simp [cntOs]
  rintro ⟨i, q⟩ ⟨hi, hq⟩
  simp only at hi hq
  have hqB : q ≤ 1073741824 := by have := cntOs_take l i; omega
  obtain ⟨q1, e1⟩ : ∃ x, x = q + 1 := ⟨_, rfl⟩
  have w1 : IntKind.i64.wrap ((q : Int) + 1) = (q1 : Int) := by rw [wrap_i64 (by omega) (by omega)]; omega
  obtain ⟨q2, e2⟩ : ∃ x, x = q1 + 1 := ⟨_, rfl⟩
  have w2 : IntKind.i64.wrap ((q1 : Int) + 1) = (q2 : Int) := by rw [wrap_i64 (by omega) (by omega)]; omega
  obtain ⟨q3, e3⟩ : ∃ x, x = q2 + 1 := ⟨_, rfl⟩
  have w3 : IntKind.i64.wrap ((q2 : Int) + 1) = (q3 : Int) := by rw [wrap_i64 (by omega) (by omega)]; omega
  have v1 : (q : Int) + 1 = (q1 : Int) := by omega
  have u1 : q + 1 = q1 := by omega
  have v2 : (q : Int) + 2 = (q2 : Int) := by omega
  have u2 : q + 2 = q2 := by omega
  have v3 : (q : Int) + 3 = (q3 : Int) := by omega
  have u3 : q + 3 = q3 := by omega
  have z2 := mod3 q2
  refine W_seq (W_rseqK [0, 1, 5, 9] (jh hX (by simp [w1, w2, w3, v1, u1, v2, u2, v3, u3, z2, mkOs_len]; rfl)) ?_)
  refine jd (fun h2 => ?_) (fun h2 => ?_)
  · try simp at h2
    have hB := cntOs_at l i h2
    simp only [cntO] at hB
    have hg : ∀ h, (mkOs k l)[i]'h = mkO q l[i] := fun h => by rw [mkOs_get h, hq]
    refine W_skip (W_seq (W_block (W_seq (W_rseqK [0, 1, 5, 18] (jh hX (by simp [w1, w2, w3, v1, u1, v2, u2, v3, u3, z2, h2, hg, mkO, mkOs_len]; rfl)) ?_))))
    refine jd (fun h4 => ?_) (fun h4 => ?_)
    · try simp at h4
      all_goals
        refine W_rseqK [4] (jh hX (by simp [w1, w2, w3, v1, u1, v2, u2, v3, u3, z2, h2, hg, mkO, mkOs_len]; rfl)) ?_
        refine W_ret (je (by simp [w1, w2, w3, v1, u1, v2, u2, v3, u3, z2, h2, hg, mkO, mkOs_len]; rfl) ?_)
        simp; omega
    · try simp at h4
      all_goals
        refine W_skip (W_rseqK [0, 1, 5] (jh hX (by simp [w1, w2, w3, v1, u1, v2, u2, v3, u3, z2, h2, hg, mkO, mkOs_len]; (try (simp (disch := omega) only [wrap_i64]; (try simp [w1, w2, w3, v1, u1, v2, u2, v3, u3, z2, h2, hg, mkO, mkOs_len]))); rfl)) ?_)
        refine W_seq (jD [0, 1, 5, 28] (jS 6 (by simp [w1, w2, w3, v1, u1, v2, u2, v3, u3, z2, h2, hg, mkO, mkOs_len]; rfl) (jC (c:=by apply ct_laws_markText <;> first | omega | assumption) (a:=cb_laws_markText) (k:=(jQ (by simp [w1, w2, w3, v1, u1, v2, u2, v3, u3, z2, h2, hg, mkO, mkOs_len]; rfl))))) ?_)
        refine jd (fun h7 => ?_) (fun h7 => ?_)
        · try simp at h7
          all_goals
            refine W_rseqK [4] (jh hX (by simp [w1, w2, w3, v1, u1, v2, u2, v3, u3, z2, h2, hg, mkO, mkOs_len]; rfl)) ?_
            refine W_ret (je (by simp [w1, w2, w3, v1, u1, v2, u2, v3, u3, z2, h2, hg, mkO, mkOs_len]; rfl) ?_)
            simp; omega
        · try simp at h7
          all_goals
            refine W_skip (W_rseqK [0, 1, 5] (jh hX (by simp [w1, w2, w3, v1, u1, v2, u2, v3, u3, z2, h2, hg, mkO, mkOs_len]; (try (simp (disch := omega) only [wrap_i64]; (try simp [w1, w2, w3, v1, u1, v2, u2, v3, u3, z2, h2, hg, mkO, mkOs_len]))); rfl)) ?_)
            refine W_seq (W_rseqK [0, 1, 5, 39] (jh hX (by simp [w1, w2, w3, v1, u1, v2, u2, v3, u3, z2, h2, hg, mkO, mkOs_len]; rfl)) ?_)
            refine jd (fun h10 => ?_) (fun h10 => ?_)
            · try simp at h10
              all_goals
                refine W_rseqK [4] (jh hX (by simp [w1, w2, w3, v1, u1, v2, u2, v3, u3, z2, h2, hg, mkO, mkOs_len]; rfl)) ?_
                refine W_ret (je (by simp [w1, w2, w3, v1, u1, v2, u2, v3, u3, z2, h2, hg, mkO, mkOs_len]; rfl) ?_)
                simp; omega
            · try simp at h10
              all_goals
                refine W_skip (W_rseqK [0, 1, 5] (jh hX (by simp [w1, w2, w3, v1, u1, v2, u2, v3, u3, z2, h2, hg, mkO, mkOs_len]; (try (simp (disch := omega) only [wrap_i64]; (try simp [w1, w2, w3, v1, u1, v2, u2, v3, u3, z2, h2, hg, mkO, mkOs_len]))); rfl)) ?_)
                refine W_rseqK [0, 1, 5] (js hX 6 (by simp [w1, w2, w3, v1, u1, v2, u2, v3, u3, z2, h2, hg, mkO, mkOs_len]; rfl) (Runs.call [] rfl (by simp) rfl (by simp [mkOs_len]; rfl) (by simp; rfl) (by apply ct_laws_heldValS <;> first | omega | assumption) cb_laws_heldValS (by simp) (by simp) (by simp [mkOs_len]; rfl) (jh hX (by simp [w1, w2, w3, v1, u1, v2, u2, v3, u3, z2, h2, hg, mkO, mkOs_len]; rfl)))) ?_
                refine W_rseqK [0, 1, 5, 50] (jh hX (by simp [w1, w2, w3, v1, u1, v2, u2, v3, u3, z2, h2, hg, mkO, mkOs_len]; rfl)) ?_
                refine jd (fun h14 => ?_) (fun h14 => ?_)
                · try simp at h14
                  all_goals
                    refine W_rseqK [4] (jh hX (by simp [w1, w2, w3, v1, u1, v2, u2, v3, u3, z2, h2, hg, mkO, h14, mkOs_len]; rfl)) ?_
                    refine W_ret (je (by simp [w1, w2, w3, v1, u1, v2, u2, v3, u3, z2, h2, hg, mkO, h14, mkOs_len]; rfl) ?_)
                    simp; omega
                · try simp at h14
                  all_goals
                    refine W_skip (W_reg (jh hX (by simp [w1, w2, w3, v1, u1, v2, u2, v3, u3, z2, h2, hg, mkO, h14, mkOs_len]; (try (simp (disch := omega) only [wrap_i64]; (try simp [w1, w2, w3, v1, u1, v2, u2, v3, u3, z2, h2, hg, mkO, h14, mkOs_len]))); rfl)) ?_)
                    refine round_end ((i + 1, q3 + 2 * l[i].vals.length)) [0, 1, 5] (by simp [w1, w2, w3, v1, u1, v2, u2, v3, u3, z2, h2, hg, mkO, h14]; try (simp (disch := omega) only [wrap_i64])) ?_ ?_
                    · exact ⟨by simp only; omega, by simp only; rw [cntOs_snoc h2]; simp only [cntO]; omega⟩
                    · simp only; omega
  · try simp at h2
    have hil : i = l.length := by omega
    subst hil
    rw [List.take_of_length_le (Nat.le_refl _)] at hq
    refine W_exit (W_rseqK [4] (jh hX (by simp [w1, w2, w3, v1, u1, v2, u2, v3, u3, z2, h2, mkOs_len]; rfl)) ?_)
    refine W_ret (je (by simp [w1, w2, w3, v1, u1, v2, u2, v3, u3, z2, h2, mkOs_len]; rfl) ?_)
    simp; omega
end Go.Proofs
namespace Go.Proofs
open Go Go.Ev


theorem cb_laws_heldHeap : Callable Tryz.prog 49 := ⟨_, Tryz.func49, by kernel_rfl, by kernel_rfl⟩
theorem ct_laws_heldHeap {l : List HOb} {r : Int} {k : Nat} (hk : k + cntOs l ≤ 1073741824) : Ct Tryz.prog 49 [.agg [.lst false 4 ((mkOs k l).map eOb), .int .i64 r], .int .i64 (k : Nat)] [] (.int .i64 ((k + cntOs l : Nat) : Int)) [] := by
  refine Ct_bodyS tok Tryz.func49 rfl 12 (by kernel_rfl) (by kernel_rfl) fun X hX => ?_
  refine jq [1, 2] ?_
  refine W_rseqK [1] (jt 3 (k:=(jc [] (c:=(by apply ct_laws_heldObjS <;> first | assumption | omega)) (a:=cb_laws_heldObjS) (k:=jr)))) ?_
  refine W_seq (jq [1, 10] ?_)
  refine jd (fun h2 => ?_) (fun h2 => ?_)
  · try simp at h2
    refine jq [4] ?_
    refine W_ret (je (by simp [h2]; rfl) ?_)
    (try simp) <;> (try omega)
  · try simp at h2
    refine W_skip (jq [4] ?_)
    refine W_ret (je (by simp [h2]; rfl) ?_)
    (try simp) <;> (try omega)
end Go.Proofs
namespace Go.Proofs
open Go Go.Ev


theorem cb_laws_heldHeapOut : Callable Tryz.prog 20 := ⟨_, Tryz.func20, by kernel_rfl, by kernel_rfl⟩
theorem ct_laws_heldHeapOut {l : List HOb} {r v1 v2 c : Int} {k : Nat} (hk : k + cntOs l ≤ 1073741824) : Ct Tryz.prog 20 [.agg [.lst false 4 ((mkOs k l).map eOb), .int .i64 r, .int .i64 v1, .int .i64 v2, .int .i64 c], .int .i64 (k : Nat)] [] (.int .i64 ((k + cntOs l : Nat) : Int)) [] := by
  refine Ct_bodyS tok Tryz.func20 rfl 12 (by kernel_rfl) (by kernel_rfl) fun X hX => ?_
  refine jq [1, 2] ?_
  refine W_rseqK [1] (jt 3 (k:=(jc [] (c:=(by apply ct_laws_heldHeap <;> first | assumption | omega)) (a:=cb_laws_heldHeap) (k:=jr)))) ?_
  refine W_seq (jq [1, 10] ?_)
  refine jd (fun h2 => ?_) (fun h2 => ?_)
  · try simp at h2
    refine jq [4] ?_
    refine W_ret (je (by simp [h2]; rfl) ?_)
    (try simp) <;> (try omega)
  · try simp at h2
    refine W_skip (jq [4] ?_)
    refine W_ret (je (by simp [h2]; rfl) ?_)
    (try simp) <;> (try omega)
end Go.Proofs
namespace Go.Proofs
open Go Go.Ev


theorem cb_spec_BuiltIn : Callable Tryz.prog 123 := ⟨_, Tryz.func123, by kernel_rfl, by kernel_rfl⟩
theorem ct_spec_BuiltIn  : Ct Tryz.prog 123 [] [] (.lst true 1 (builtIn.map V.str)) [] := by
  refine Ct_bodyS tok Tryz.func123 rfl 2 (by kernel_rfl) (by kernel_rfl) fun X hX => ?_
  refine jq [] ?_
  refine jq [0] ?_
  refine W_ret (je0 ?_)
  simp [builtIn]
end Go.Proofs
namespace Go.Proofs
open Go Go.Ev


theorem cb_spec_l05Built : Callable Tryz.prog 91 := ⟨_, Tryz.func91, by kernel_rfl, by kernel_rfl⟩
theorem ct_spec_l05Built {n : Str} : Ct Tryz.prog 91 [.str n] [] (.int .i64 (builtIx n)) [] := by
  have hbl := builtIn_length
  refine Ct_bodyS tok Tryz.func91 rfl 19 (by kernel_rfl) (by kernel_rfl) fun X hX => ?_
  refine jq [0] ?_
  refine W_rseqK [0, 3] (jc [] (c:=(by apply ct_spec_BuiltIn <;> first | assumption | omega | (simp at *; omega) | simp_all)) (a:=cb_spec_BuiltIn) (k:=jr)) ?_
  refine W_seq (jq [0, 3, 4] ?_)
  refine W_block (W_loopU (α := Nat) [0, 3, 4] (fun i => [(4, .int .i64 i)]) (fun i => []) (fun i => i ≤ 8 ∧ ixFrom n (builtIn.drop i) i = builtIx n) (fun i => 8 - i) (0) (fun i => by simp; rfl) (by simp) ?_ ?_)
  · simp [builtIx]
  rintro i ⟨hi, hI⟩
  refine W_seq (jq [0, 3, 4, 9] ?_)
  refine jd (fun h3 => ?_) (fun h3 => ?_)
  · try simp at h3
    rw [List.drop_eq_getElem_cons h3] at hI
    simp only [ixFrom] at hI
    refine W_skip (W_seq (W_block (W_rseqK [0, 3, 4, 17] (jh hX (by simp [h3]; rfl)) ?_)))
    refine jd (fun h5 => ?_) (fun h5 => ?_)
    · try simp at h5
      refine jq [2] ?_
      refine W_ret (je (by simp [h3]; rfl) ?_)
      simp [← hI, h5]
    · try simp at h5
      refine W_skip (W_reg (jh hX (by simp; (try (simp (disch := omega) only [wrap_i64]; (try simp))); rfl)) ?_)
      refine round_end (i + 1) [0, 3, 4] (by simp [h3]; try (simp (disch := omega) only [wrap_i64])) ?_ ?_
      · exact ⟨by omega, by simp [← hI, h5]⟩
      · omega
  · try simp at h3
    refine W_exit (jq [2] ?_)
    refine W_ret (je (by simp [h3]; rfl) ?_)
    simp [← hI, List.drop_eq_nil_of_le h3, ixFrom]
end Go.Proofs
namespace Go.Proofs
open Go Go.Ev


theorem cb_spec_l05Find : Callable Tryz.prog 92 := ⟨_, Tryz.func92, by kernel_rfl, by kernel_rfl⟩
theorem ct_spec_l05Find {l : List Cls} {n : Str} (hl : l.length ≤ 1099511627776) : Ct Tryz.prog 92 [.lst false 6 (l.map eC), .str n] [] (.int .i64 (findFrom n l 0)) [] := by
  refine Ct_bodyS tok Tryz.func92 rfl 20 (by kernel_rfl) (by kernel_rfl) fun X hX => ?_
  refine jq [0, 1] ?_
  refine W_seq (jq [0, 1, 5] ?_)
  refine W_block (W_loopU (α := Nat) [0, 1, 5] (fun i => [(5, .int .i64 i)]) (fun i => []) (fun i => i ≤ l.length ∧ findFrom n (l.drop i) i = findFrom n l 0) (fun i => l.length - i) (0) (fun i => by simp; rfl) (by simp) ?_ ?_)
  · simp
  rintro i ⟨hi, hI⟩
  refine W_seq (jq [0, 1, 5, 9] ?_)
  refine jd (fun h2 => ?_) (fun h2 => ?_)
  · try simp at h2
    rw [List.drop_eq_getElem_cons h2] at hI
    simp only [findFrom] at hI
    refine W_skip (W_seq (W_block (W_rseqK [0, 1, 5, 18] (jh hX (by simp [h2]; rfl)) ?_)))
    refine jd (fun h4 => ?_) (fun h4 => ?_)
    · try simp at h4
      refine jq [4] ?_
      refine W_ret (je (by simp [h2]; rfl) ?_)
      simp [← hI, h4]
    · try simp at h4
      refine W_skip (W_reg (jh hX (by simp; (try (simp (disch := omega) only [wrap_i64]; (try simp))); rfl)) ?_)
      refine round_end (i + 1) [0, 1, 5] (by simp [h2]; try (simp (disch := omega) only [wrap_i64])) ?_ ?_
      · exact ⟨by omega, by simp [← hI, h4]⟩
      · omega
  · try simp at h2
    refine W_exit (jq [4] ?_)
    refine W_ret (je (by simp [h2]; rfl) ?_)
    simp [← hI, List.drop_eq_nil_of_le h2, findFrom]
end Go.Proofs
namespace Go.Proofs
open Go Go.Ev


theorem cb_spec_l05Known : Callable Tryz.prog 50 := ⟨_, Tryz.func50, by kernel_rfl, by kernel_rfl⟩
theorem ct_spec_l05Known {l : List Cls} {n : Str} (hl : l.length ≤ 1099511627776) : Ct Tryz.prog 50 [.lst false 6 (l.map eC), .str n] [] (.bool (isKnown l n)) [] := by
  refine Ct_bodyS tok Tryz.func50 rfl 14 (by kernel_rfl) (by kernel_rfl) fun X hX => ?_
  refine jq [0, 1] ?_
  refine W_rseqK [4] (jt 1 (k:=(jc [] (c:=(by apply ct_spec_l05Built <;> first | assumption | omega | (simp at *; omega) | simp_all)) (a:=cb_spec_l05Built) (k:=(jt 2 (k:=(jm 5 8 [13] (p:=fun b1_4 => by (try simp at b1_4); exact (jh hX (by simp [-atD_lt, -atL_lt]; rfl))) (q:=fun b1_4 => by (try simp at b1_4); exact (js hX 2 (by simp [-atD_lt, -atL_lt]; rfl) (Runs.call [] rfl (by simp) rfl (by simp [-atD_lt, -atL_lt]; rfl) (by simp; rfl) (by apply ct_spec_l05Find <;> first | assumption | omega | (simp at *; omega) | simp_all) cb_spec_l05Find (by simp) (by simp) (by simp [-atD_lt, -atL_lt]; rfl) (jh hX (by simp [-atD_lt, -atL_lt]; rfl))))) (k:=jr)))))))) ?_
  refine W_ret (je0 ?_)
  (try simp_all [isKnown])
end Go.Proofs
namespace Go.Proofs
open Go Go.Ev


theorem cb_spec_l01NameByte : Callable Tryz.prog 143 := ⟨_, Tryz.func143, by kernel_rfl, by kernel_rfl⟩
theorem ct_spec_l01NameByte {c : UInt8} {f : Bool} : Ct Tryz.prog 143 [.int .u8 c.toNat, .bool f] [] (.bool (nameByte c f)) [] := by
  refine Ct_bodyS tok Tryz.func143 rfl 33 (by kernel_rfl) (by kernel_rfl) fun X hX => ?_
  refine jq [0, 1] ?_
  refine W_seq (W_rseqK [0, 1, 22] (jt 3 (k:=(jm 3 7 [0, 1, 10] (p:=fun b1_3 => by (try simp at b1_3); exact (jh hX (by simp [-atD_lt, -atL_lt]; rfl))) (q:=fun b1_3 => by (try simp at b1_3); exact (jh hX (by simp [-atD_lt, -atL_lt]; rfl))) (k:=(jt 1 (k:=(jm 7 11 [0, 1, 18] (p:=fun b1_7 => by (try simp at b1_7); exact (jh hX (by simp [-atD_lt, -atL_lt]; rfl))) (q:=fun b1_7 => by (try simp at b1_7); exact (js hX 3 (by simp [-atD_lt, -atL_lt]; rfl) (jm 3 14 [0, 1, 11, 17] (p:=fun b1_10 => by (try simp at b1_10); exact (jh hX (by simp [-atD_lt, -atL_lt]; rfl))) (q:=fun b1_10 => by (try simp at b1_10); exact (jh hX (by simp [-atD_lt, -atL_lt]; rfl))) (k:=(jh hX (by simp [-atD_lt, -atL_lt]; rfl)))))) (k:=(jt 1 (k:=(jm 3 19 [0, 1, 22] (p:=fun b1_15 => by (try simp at b1_15); exact (jh hX (by simp [-atD_lt, -atL_lt]; rfl))) (q:=fun b1_15 => by (try simp at b1_15); exact (jh hX (by simp [-atD_lt, -atL_lt]; rfl))) (k:=jf)))))))))))) ?_)
  refine jd (fun h1 => ?_) (fun h1 => ?_)
  · try simp at h1
    refine jq [4] ?_
    refine W_ret (je (by simp [h1]; rfl) ?_)
    (try simp_all [nameByte]) <;> grind [nameByte]
  · try simp at h1
    refine W_skip (W_rseqK [4] (jt 3 (k:=(jm 3 25 [0, 28] (p:=fun b3_3 => by (try simp at b3_3); exact (jh hX (by simp [-atD_lt, -atL_lt]; rfl))) (q:=fun b3_3 => by (try simp at b3_3); exact (jh hX (by simp [-atD_lt, -atL_lt]; rfl))) (k:=(jt 1 (k:=(jm 3 29 [32] (p:=fun b3_7 => by (try simp at b3_7); exact (jh hX (by simp [-atD_lt, -atL_lt]; rfl))) (q:=fun b3_7 => by (try simp at b3_7); exact (jh hX (by simp [-atD_lt, -atL_lt]; rfl))) (k:=jr)))))))) ?_)
    refine W_ret (je (by simp [h1]; rfl) ?_)
    (try simp_all [nameByte]) <;> grind [nameByte]
end Go.Proofs
namespace Go.Proofs
open Go Go.Ev


theorem cb_spec_l02Type : Callable Tryz.prog 101 := ⟨_, Tryz.func101, by kernel_rfl, by kernel_rfl⟩
theorem ct_spec_l02Type_t {t : Str} {p : Nat} (ht : t.length ≤ 1099511627776) (hp : p ≤ t.length) : Ct Tryz.prog 101 [.str t, .int .i64 p, .bool true] [] (.tup [.int .i64 (tyP1 t p).1, .bool (tyP1 t p).2]) [] := by
  refine Ct_bodyS tok Tryz.func101 rfl 85 (by kernel_rfl) (by kernel_rfl) fun X hX => ?_
  refine jq [0, 1, 2] ?_
  refine W_seq (jq [0, 1, 2, 13] ?_)
  refine jd (fun h1 => ?_) (fun h1 => ?_)
  · try simp at h1
    refine jq [6, 7] ?_
    refine W_ret (je (by simp [h1]; rfl) ?_)
    simp_all [tyP, tyP1, nmP, isAt_lt, isAt_ge]
  · try simp at h1
    refine W_skip (W_seq (W_block (W_rseqK [0, 1, 2, 15] (jh hX (by simp [h1]; rfl)) ?_)))
    refine jd (fun h3 => ?_) (fun h3 => ?_)
    · try simp at h3
      refine W_rseqK [6, 7] (jh hX (by simp; (try (simp (disch := omega) only [wrap_i64]; (try simp))); rfl)) ?_
      refine W_ret (je (by simp [h1]; rfl) ?_)
      simp_all [tyP, tyP1, nmP, isAt_lt, isAt_ge]
    · try simp at h3
      refine W_rseqK [0, 1, 22] (js hX 5 (by simp [h1]; rfl) (jm 3 27 [0, 1, 30] (p:=fun b5_5 => by (try simp at b5_5); exact (jh hX (by simp [-atD_lt, -atL_lt]; rfl))) (q:=fun b5_5 => by (try simp at b5_5); exact (jh hX (by simp [-atD_lt, -atL_lt]; rfl))) (k:=jr))) ?_
      refine jd (fun h5 => ?_) (fun h5 => ?_)
      · try simp at h5
        --done
      · try simp at h5
        refine W_rseqK [0, 1, 37] (jh hX (by simp [h1]; rfl)) ?_
        refine jd (fun h7 => ?_) (fun h7 => ?_)
        · try simp at h7
          refine W_rseqK [0, 8] (jh hX (by simp; (try (simp (disch := omega) only [wrap_i64]; (try simp))); rfl)) ?_
          refine jq [0, 8, 9] ?_
          refine W_seq (W_block (W_loopU (α := Nat) [0, 8, 9] (fun i => [(9, .int .i64 i)]) (fun i => []) (fun i => p + 1 ≤ i ∧ i ≤ t.length ∧ i - (p + 1) ≤ 20 ∧ i + nameRun (20 - (i - (p + 1))) (decide (i = p + 1)) (t.drop i) = p + 1 + nameRun 20 true (t.drop (p + 1))) (fun i => t.length - i) (p + 1) (fun i => by simp; rfl) (by simp) ?_ ?_))
          · simp; omega
          rintro i ⟨h0i, hi, hn, hI⟩
          refine W_seq (W_rseqK [0, 8, 9, 63] (js hX 5 (by simp [h1]; rfl) (jm 5 49 [0, 8, 9, 54] (p:=fun b10_5 => by (try simp at b10_5); exact (jh hX (by simp [-atD_lt, -atL_lt]; (try (simp (disch := omega) only [wrap_i64]; (try simp [-atD_lt, -atL_lt]))); rfl))) (q:=fun b10_5 => by (try simp at b10_5); exact (jh hX (by simp [-atD_lt, -atL_lt]; rfl))) (k:=(jt 1 (k:=(jm 8 55 [0, 8, 9, 63] (p:=fun b10_11 => by (try simp at b10_11); exact (js hX 6 (by simp [-atD_lt, -atL_lt, h1, b10_11]; rfl) (Runs.call [] rfl (by simp) rfl (by simp [-atD_lt, -atL_lt]; rfl) (by simp; rfl) (by apply ct_spec_l01NameByte <;> first | assumption | omega | (simp at *; omega) | simp_all) cb_spec_l01NameByte (by simp) (by simp) (by simp [-atD_lt, -atL_lt]; rfl) (jh hX (by simp [-atD_lt, -atL_lt]; rfl))))) (q:=fun b10_11 => by (try simp at b10_11); exact (jh hX (by simp [-atD_lt, -atL_lt]; rfl))) (k:=jf))))))) ?_)
          have hge : t.length ≤ i → nameRun (20 - (i - (p + 1))) (decide (i = p + 1)) (t.drop i) = 0 := fun h => by rw [List.drop_eq_nil_of_le h]; simp [nameRun]
          have hg2 : i - (p + 1) = 20 → nameRun (20 - (i - (p + 1))) (decide (i = p + 1)) (t.drop i) = 0 := fun h => by rw [h]; simp [nameRun]
          have hg3 := fun h1 h2 => @drop_nameRun t i (p + 1) h1 h2 h0i
          refine jd (fun h10 => ?_) (fun h10 => ?_)
          · try simp at h10
            have ⟨⟨h10a, h10b⟩, h10c⟩ := h10
            rw [atD_lt h10a] at h10c
            rw [hg3 h10a (by omega), if_pos h10c] at hI
            refine W_skip (W_block (W_reg (jh hX (by simp; (try (simp (disch := omega) only [wrap_i64]; (try simp))); rfl)) ?_))
            refine round_end (i + 1) [0, 8, 9] (by simp [h1, h10]; try (simp (disch := omega) only [wrap_i64])) ?_ ?_
            · exact ⟨by omega, by omega, by omega, by omega⟩
            · omega
          · try simp at h10
            have hI2 : i = p + 1 + nameRun 20 true (t.drop (p + 1)) := by
              rcases Nat.lt_or_ge i t.length with hl | hl
              · by_cases hk : i - (p + 1) = 20
                · have := hg2 hk; omega
                · rw [hg3 hl (by omega)] at hI
                  have : nameByte t[i] (decide (i = p + 1)) = false := by
                    rw [← atD_lt hl]; exact h10 hl (by omega)
                  rw [this] at hI; simpa using hI
              · have := hge hl; omega
            have hnm : nmP t (p + 1) = if (isAt t i 59 && !decide (i = p + 1)) then (i + 1, true) else (i, false) := by simp only [nmP, ← hI2]
            have hty : tyP1 t p = nmP t (p + 1) := by simp [tyP1, isAt_lt h1, h3, h7]
            clear hI hI2 hg2 hg3 hge
            refine W_exit (W_seq (W_rseqK [9, 80] (js hX 5 (by simp [h1, h10]; rfl) (jm 5 70 [8, 9, 75] (p:=fun b12_5 => by (try simp at b12_5); exact (jh hX (by simp [-atD_lt, -atL_lt]; rfl))) (q:=fun b12_5 => by (try simp at b12_5); (have hlt : i < t.length := by omega); exact (jh hX (by simp [-atD_lt, -atL_lt, h1, h10, hlt]; rfl))) (k:=(jt 1 (k:=(jm 4 76 [9, 80] (p:=fun b12_11 => by (try simp at b12_11); exact (jh hX (by simp [-atD_lt, -atL_lt]; rfl))) (q:=fun b12_11 => by (try simp at b12_11); exact (jh hX (by simp [-atD_lt, -atL_lt]; rfl))) (k:=jf))))))) ?_))
            refine jd (fun h12 => ?_) (fun h12 => ?_)
            · try simp at h12
              refine jq [6, 7] ?_
              refine W_ret (je (by simp [h1, h10]; rfl) ?_)
              rw [hty, hnm]
              have : (isAt t i 59 && !decide (i = p + 1)) = false := by grind [isAt_lt, isAt_ge, atD_lt]
              simp [this]
            · try simp at h12
              refine W_skip (W_rseqK [6, 7] (jh hX (by simp; (try (simp (disch := omega) only [wrap_i64]; (try simp))); rfl)) ?_)
              refine W_ret (je (by simp [h1, h10]; rfl) ?_)
              rw [hty, hnm]
              have : (isAt t i 59 && !decide (i = p + 1)) = true := by grind [isAt_lt, isAt_ge, atD_lt]
              simp [this]
        · try simp at h7
          refine W_skip (jq [6, 7] ?_)
          refine W_ret (je (by simp [h1]; rfl) ?_)
          simp_all [tyP, tyP1, nmP, isAt_lt, isAt_ge]
theorem ct_spec_l02Type {t : Str} {p : Nat} (ht : t.length ≤ 1099511627776) (hp : p ≤ t.length) : Ct Tryz.prog 101 [.str t, .int .i64 p, .bool false] [] (.tup [.int .i64 (tyP t p).1, .bool (tyP t p).2]) [] := by
  refine Ct_bodyS tok Tryz.func101 rfl 85 (by kernel_rfl) (by kernel_rfl) fun X hX => ?_
  refine jq [0, 1, 2] ?_
  refine W_seq (jq [0, 1, 2, 13] ?_)
  refine jd (fun h1 => ?_) (fun h1 => ?_)
  · try simp at h1
    refine jq [6, 7] ?_
    refine W_ret (je (by simp [h1]; rfl) ?_)
    simp_all [tyP, tyP1, nmP, isAt_lt, isAt_ge]
  · try simp at h1
    refine W_skip (W_seq (W_block (W_rseqK [0, 1, 2, 15] (jh hX (by simp [h1]; rfl)) ?_)))
    refine jd (fun h3 => ?_) (fun h3 => ?_)
    · try simp at h3
      refine W_rseqK [6, 7] (jh hX (by simp; (try (simp (disch := omega) only [wrap_i64]; (try simp))); rfl)) ?_
      refine W_ret (je (by simp [h1]; rfl) ?_)
      simp_all [tyP, tyP1, nmP, isAt_lt, isAt_ge]
    · try simp at h3
      refine W_rseqK [0, 1, 22] (js hX 5 (by simp [h1]; rfl) (jm 3 27 [0, 1, 30] (p:=fun b5_5 => by (try simp at b5_5); exact (jh hX (by simp [-atD_lt, -atL_lt]; rfl))) (q:=fun b5_5 => by (try simp at b5_5); exact (jh hX (by simp [-atD_lt, -atL_lt]; rfl))) (k:=jr))) ?_
      refine jd (fun h5 => ?_) (fun h5 => ?_)
      · try simp at h5
        refine W_rseqK [6, 7] (js hX 3 (by simp; (try (simp (disch := omega) only [wrap_i64]; (try simp))); rfl) (jc [] (c:=(by apply ct_spec_l02Type_t <;> first | assumption | omega | (simp at *; omega) | simp_all)) (a:=cb_spec_l02Type) (k:=jr))) ?_
        refine W_ret (je (by simp [h1]; rfl) ?_)
        simp_all [tyP, tyP1, nmP, isAt_lt, isAt_ge]
      · try simp at h5
        refine W_rseqK [0, 1, 37] (jh hX (by simp [h1]; rfl)) ?_
        refine jd (fun h7 => ?_) (fun h7 => ?_)
        · try simp at h7
          refine W_rseqK [0, 8] (jh hX (by simp; (try (simp (disch := omega) only [wrap_i64]; (try simp))); rfl)) ?_
          refine jq [0, 8, 9] ?_
          refine W_seq (W_block (W_loopU (α := Nat) [0, 8, 9] (fun i => [(9, .int .i64 i)]) (fun i => []) (fun i => p + 1 ≤ i ∧ i ≤ t.length ∧ i - (p + 1) ≤ 20 ∧ i + nameRun (20 - (i - (p + 1))) (decide (i = p + 1)) (t.drop i) = p + 1 + nameRun 20 true (t.drop (p + 1))) (fun i => t.length - i) (p + 1) (fun i => by simp; rfl) (by simp) ?_ ?_))
          · simp; omega
          rintro i ⟨h0i, hi, hn, hI⟩
          refine W_seq (W_rseqK [0, 8, 9, 63] (js hX 5 (by simp [h1]; rfl) (jm 5 49 [0, 8, 9, 54] (p:=fun b10_5 => by (try simp at b10_5); exact (jh hX (by simp [-atD_lt, -atL_lt]; (try (simp (disch := omega) only [wrap_i64]; (try simp [-atD_lt, -atL_lt]))); rfl))) (q:=fun b10_5 => by (try simp at b10_5); exact (jh hX (by simp [-atD_lt, -atL_lt]; rfl))) (k:=(jt 1 (k:=(jm 8 55 [0, 8, 9, 63] (p:=fun b10_11 => by (try simp at b10_11); exact (js hX 6 (by simp [-atD_lt, -atL_lt, h1, b10_11]; rfl) (Runs.call [] rfl (by simp) rfl (by simp [-atD_lt, -atL_lt]; rfl) (by simp; rfl) (by apply ct_spec_l01NameByte <;> first | assumption | omega | (simp at *; omega) | simp_all) cb_spec_l01NameByte (by simp) (by simp) (by simp [-atD_lt, -atL_lt]; rfl) (jh hX (by simp [-atD_lt, -atL_lt]; rfl))))) (q:=fun b10_11 => by (try simp at b10_11); exact (jh hX (by simp [-atD_lt, -atL_lt]; rfl))) (k:=jf))))))) ?_)
          have hge : t.length ≤ i → nameRun (20 - (i - (p + 1))) (decide (i = p + 1)) (t.drop i) = 0 := fun h => by rw [List.drop_eq_nil_of_le h]; simp [nameRun]
          have hg2 : i - (p + 1) = 20 → nameRun (20 - (i - (p + 1))) (decide (i = p + 1)) (t.drop i) = 0 := fun h => by rw [h]; simp [nameRun]
          have hg3 := fun h1 h2 => @drop_nameRun t i (p + 1) h1 h2 h0i
          refine jd (fun h10 => ?_) (fun h10 => ?_)
          · try simp at h10
            have ⟨⟨h10a, h10b⟩, h10c⟩ := h10
            rw [atD_lt h10a] at h10c
            rw [hg3 h10a (by omega), if_pos h10c] at hI
            refine W_skip (W_block (W_reg (jh hX (by simp; (try (simp (disch := omega) only [wrap_i64]; (try simp))); rfl)) ?_))
            refine round_end (i + 1) [0, 8, 9] (by simp [h1, h10]; try (simp (disch := omega) only [wrap_i64])) ?_ ?_
            · exact ⟨by omega, by omega, by omega, by omega⟩
            · omega
          · try simp at h10
            have hI2 : i = p + 1 + nameRun 20 true (t.drop (p + 1)) := by
              rcases Nat.lt_or_ge i t.length with hl | hl
              · by_cases hk : i - (p + 1) = 20
                · have := hg2 hk; omega
                · rw [hg3 hl (by omega)] at hI
                  have : nameByte t[i] (decide (i = p + 1)) = false := by
                    rw [← atD_lt hl]; exact h10 hl (by omega)
                  rw [this] at hI; simpa using hI
              · have := hge hl; omega
            have hnm : nmP t (p + 1) = if (isAt t i 59 && !decide (i = p + 1)) then (i + 1, true) else (i, false) := by simp only [nmP, ← hI2]
            have hty : tyP t p = nmP t (p + 1) := by simp_all [tyP, tyP1, isAt_lt h1]
            clear hI hI2 hg2 hg3 hge
            refine W_exit (W_seq (W_rseqK [9, 80] (js hX 5 (by simp [h1, h10]; rfl) (jm 5 70 [8, 9, 75] (p:=fun b12_5 => by (try simp at b12_5); exact (jh hX (by simp [-atD_lt, -atL_lt]; rfl))) (q:=fun b12_5 => by (try simp at b12_5); (have hlt : i < t.length := by omega); exact (jh hX (by simp [-atD_lt, -atL_lt, h1, h10, hlt]; rfl))) (k:=(jt 1 (k:=(jm 4 76 [9, 80] (p:=fun b12_11 => by (try simp at b12_11); exact (jh hX (by simp [-atD_lt, -atL_lt]; rfl))) (q:=fun b12_11 => by (try simp at b12_11); exact (jh hX (by simp [-atD_lt, -atL_lt]; rfl))) (k:=jf))))))) ?_))
            refine jd (fun h12 => ?_) (fun h12 => ?_)
            · try simp at h12
              refine jq [6, 7] ?_
              refine W_ret (je (by simp [h1, h10]; rfl) ?_)
              rw [hty, hnm]
              have : (isAt t i 59 && !decide (i = p + 1)) = false := by grind [isAt_lt, isAt_ge, atD_lt]
              simp [this]
            · try simp at h12
              refine W_skip (W_rseqK [6, 7] (jh hX (by simp; (try (simp (disch := omega) only [wrap_i64]; (try simp))); rfl)) ?_)
              refine W_ret (je (by simp [h1, h10]; rfl) ?_)
              rw [hty, hnm]
              have : (isAt t i 59 && !decide (i = p + 1)) = true := by grind [isAt_lt, isAt_ge, atD_lt]
              simp [this]
        · try simp at h7
          refine W_skip (jq [6, 7] ?_)
          refine W_ret (je (by simp [h1]; rfl) ?_)
          simp_all [tyP, tyP1, nmP, isAt_lt, isAt_ge]
end Go.Proofs
namespace Go.Proofs
open Go Go.Ev


theorem cb_spec_TypeRight : Callable Tryz.prog 55 := ⟨_, Tryz.func55, by kernel_rfl, by kernel_rfl⟩
theorem ct_spec_TypeRight {t : Str} (ht : t.length ≤ 1099511627776) : Ct Tryz.prog 55 [.str t] [] (.bool (typeRight t)) [] := by
  refine Ct_bodyS tok Tryz.func55 rfl 20 (by kernel_rfl) (by kernel_rfl) fun X hX => ?_
  refine jq [0] ?_
  refine W_seq (jq [0, 7] ?_)
  refine jd (fun h1 => ?_) (fun h1 => ?_)
  · try simp at h1
    refine jq [2] ?_
    refine W_ret (je (by simp [h1]; rfl) ?_)
    (try simp_all [typeRight]) <;> grind
  · try simp at h1
    refine W_skip (W_rseqK [0, 3, 4] (jt 1 (k:=(jc [] (c:=(by apply ct_spec_l02Type <;> first | assumption | omega | (simp at *; omega) | simp_all)) (a:=cb_spec_l02Type) (k:=jr)))) ?_)
    refine W_rseqK [2] (jt 2 (k:=(jm 5 14 [19] (p:=fun b4_2 => by (try simp at b4_2); exact (jh hX (by simp [-atD_lt, -atL_lt, h1]; rfl))) (q:=fun b4_2 => by (try simp at b4_2); exact (jh hX (by simp [-atD_lt, -atL_lt]; rfl))) (k:=jr)))) ?_
    refine W_ret (je (by simp [h1]; rfl) ?_)
    (try simp_all [typeRight]) <;> grind
end Go.Proofs
namespace Go.Proofs
open Go Go.Ev


theorem cb_spec_NameRight : Callable Tryz.prog 150 := ⟨_, Tryz.func150, by kernel_rfl, by kernel_rfl⟩
theorem ct_spec_NameRight {t : Str} (ht : t.length ≤ 1099511627776) : Ct Tryz.prog 150 [.str t] [] (.bool (nameRight t)) [] := by
  refine Ct_bodyS tok Tryz.func150 rfl 25 (by kernel_rfl) (by kernel_rfl) fun X hX => ?_
  refine jq [0] ?_
  refine W_seq (W_rseqK [0, 11] (jt 4 (k:=(jm 4 7 [0, 11] (p:=fun b1_4 => by (try simp at b1_4); exact (jh hX (by simp [-atD_lt, -atL_lt]; rfl))) (q:=fun b1_4 => by (try simp at b1_4); exact (jh hX (by simp [-atD_lt, -atL_lt, b1_4]; rfl))) (k:=jf)))) ?_)
  refine jd (fun h1 => ?_) (fun h1 => ?_)
  · try simp at h1
    refine jq [2] ?_
    refine W_ret (je (by simp [h1]; rfl) ?_)
    grind [nameRight]
  · try simp at h1
    refine W_skip (W_seq (jq [0, 3] ?_))
    refine W_block (W_loopU (α := Nat) [0, 3] (fun i => [(3, .int .i64 i)]) (fun i => []) (fun i => i ≤ t.length ∧ nameFrom (decide (i = 0)) (t.drop i) = nameFrom true t) (fun i => t.length - i) (0) (fun i => by simp; rfl) (by simp) ?_ ?_)
    · simp
    rintro i ⟨hi, hI⟩
    refine W_seq (W_rseqK [0, 3, 15] (jh hX (by simp [h1]; rfl)) ?_)
    refine jd (fun h4 => ?_) (fun h4 => ?_)
    · try simp at h4
      rw [List.drop_eq_getElem_cons h4] at hI
      simp only [nameFrom] at hI
      refine W_skip (W_seq (W_block (W_rseqK [0, 3, 24] (js hX 5 (by simp [h1, h4]; rfl) (jc [] (c:=(by apply ct_spec_l01NameByte <;> first | assumption | omega | (simp at *; omega) | simp_all)) (a:=cb_spec_l01NameByte) (k:=jr))) ?_)))
      refine jd (fun h6 => ?_) (fun h6 => ?_)
      · try simp at h6
        refine jq [2] ?_
        refine W_ret (je (by simp [h1, h4]; rfl) ?_)
        grind [nameRight]
      · try simp at h6
        refine W_skip (W_reg (jh hX (by simp; (try (simp (disch := omega) only [wrap_i64]; (try simp))); rfl)) ?_)
        refine round_end (i + 1) [0, 3] (by simp [h1, h4]; try (simp (disch := omega) only [wrap_i64])) ?_ ?_
        · exact ⟨by omega, by simp_all⟩
        · omega
    · try simp at h4
      rw [List.drop_eq_nil_of_le h4] at hI
      simp only [nameFrom] at hI
      refine W_exit (jq [2] ?_)
      refine W_ret (je (by simp [h1, h4]; rfl) ?_)
      grind [nameRight]
end Go.Proofs
namespace Go.Proofs
open Go Go.Ev


theorem cb_spec_l02Wrong : Callable Tryz.prog 220 := ⟨_, Tryz.func220, by kernel_rfl, by kernel_rfl⟩
theorem ct_spec_l02Wrong {n : Int} : Ct Tryz.prog 220 [.int .i64 n] [] (.agg [.raw (.slice none 0 0), .str [], .int .i64 n, .int .i64 3]) [] := by
  refine Ct_bodyS tok Tryz.func220 rfl 5 (by kernel_rfl) (by kernel_rfl) fun X hX => ?_
  refine jq [0, 2] ?_
  refine jq [2] ?_
  refine W_ret (je0 ?_)
  rfl
end Go.Proofs
namespace Go.Proofs
open Go Go.Ev


theorem cb_spec_DescRead : Callable Tryz.prog 192 := ⟨_, Tryz.func192, by kernel_rfl, by kernel_rfl⟩
theorem ct_spec_DescRead {t : Str} (ht : t.length ≤ 1099511627776) : Ct Tryz.prog 192 [.str t] [] (eDO (descRead t)) [] := by
  refine Ct_bodyS tok Tryz.func192 rfl 104 (by kernel_rfl) (by kernel_rfl) fun X hX => ?_
  refine jq [0, 2] ?_
  refine W_seq (jq [0, 2, 11] ?_)
  refine jd (fun h1 => ?_) (fun h1 => ?_)
  · try simp at h1
    refine W_rseqK [2] (jh hX (by simp [h1]; rfl)) ?_
    refine W_ret (W_retR (by simp [h1]; rfl) ?_ rfl)
    rw [show descRead t = ⟨[], [], 0, 2⟩ from by unfold descRead; rw [if_pos (by omega)]]
    exact wk_err _ _ _
  · try simp at h1
    have h1c : descRead t = dRead t := by unfold descRead; rw [if_neg (by omega)]
    rw [h1c]
    refine W_skip (W_seq (W_rseqK [0, 2, 20] (js hX 4 (by simp [h1]; rfl) (jm 4 16 [0, 2, 20] (p:=fun b3_4 => by (try simp at b3_4); exact (jh hX (by simp [-atD_lt, -atL_lt]; rfl))) (q:=fun b3_4 => by (try simp at b3_4); (have hlt : 0 < t.length := List.length_pos_iff.2 b3_4); exact (jh hX (by simp [-atD_lt, -atL_lt, h1, hlt]; rfl))) (k:=jf))) ?_))
    refine jd (fun h3 => ?_) (fun h3 => ?_)
    · try simp at h3
      refine W_rseqK [2] (jc [] (c:=(by apply ct_spec_l02Wrong <;> first | assumption | omega)) (a:=cb_spec_l02Wrong) (k:=(jh hX (by simp [h1]; rfl)))) ?_
      refine W_ret (W_retR (by simp [h1]; rfl) ?_ rfl)
      rw [show dRead t = dErr 0 from by unfold dRead; rw [if_neg]; rcases h3 with rfl | h3; simp [isAt]; simp only [isAt]; split <;> simp_all [atD]]
      exact wk_err _ _ _
    · try simp at h3
      have h3c : 0 < t.length := List.length_pos_iff.2 h3.1
      have h3b : isAt t 0 40 = true := by rw [isAt_lt h3c, ← atD_lt h3c]; simpa using h3.2
      refine W_skip (W_rseqK [0, 2, 3] (jh hX (by simp [h1]; rfl)) ?_)
      refine jq [0, 2, 3, 4] ?_
      refine W_seq (W_block (W_le (Le.nilC 1 0 0 1 (by simp; rfl)) ?_))
      refine W_loopU (α := List Str × Nat) [0, 2, 3, 4] (fun a => [(4, .int .i64 a.2)]) (fun a => [(1, some (2, [.agg [.arr 2 0 a.1.length, .str []]])), (2, some (1, a.1.map V.str))]) (fun a => a.2 ≤ t.length ∧ a.1.length ≤ 8 ∧ dParams t (8 - a.1.length) a.2 a.1 = dParams t 8 1 []) (fun a => 8 - a.1.length) (([], 1)) (fun a => by simp; rfl) (by simp) ?_ ?_
      · exact ⟨by simp; omega, by simp, rfl⟩
      rintro ⟨ps, p⟩ ⟨hp, hn, hI⟩
      simp only at hp hn hI
      refine W_seq (W_rseqK [0, 2, 3, 4, 32] (js hX 5 (by simp [h1]; rfl) (jm 5 27 [0, 2, 3, 4, 32] (p:=fun b7_5 => by (try simp at b7_5); exact (jh hX (by simp [-atD_lt, -atL_lt, h1, b7_5]; rfl))) (q:=fun b7_5 => by (try simp at b7_5); exact (jh hX (by simp [-atD_lt, -atL_lt]; rfl))) (k:=jf))) ?_)
      refine jd (fun h7 => ?_) (fun h7 => ?_)
      · try simp at h7
        have h7a := h7.1
        have h7b : isAt t p 41 = false := by rw [isAt_lt h7a, ← atD_lt h7a]; simpa using h7.2
        refine W_skip (W_block (W_seq (W_rseqK [0, 2, 3, 4, 36] (jh hX (by simp [h1, h7]; rfl)) ?_)))
        refine jd (fun h8 => ?_) (fun h8 => ?_)
        · try simp at h8
          have h8b : 8 - ps.length = 0 := by omega
          rw [h8b, dParams, if_neg (by simp [h7b])] at hI
          refine W_rseqK [2] (jt 1 (k:=(jc [] (c:=(by apply ct_spec_l02Wrong <;> first | assumption | omega)) (a:=cb_spec_l02Wrong) (k:=(jh hX (by simp [h1, h7]; rfl)))))) ?_
          refine W_ret (W_retR (by simp [h1, h7]; rfl) ?_ rfl)
          rw [dRead_err h3b hI.symm]
          exact wk_err _ _ _
        · try simp at h8
          have h8b : 8 - ps.length = (8 - (ps.length + 1)) + 1 := by omega
          rw [h8b, dParams, if_neg (by simp [h7b])] at hI
          obtain ⟨hge, hle, hgt, _⟩ := tyP_le hp
          have w1 : (ps.length + 1) * 16 ≤ 140737488355328 := by omega
          have w2 : ps.length ≤ 1099511627775 := by omega
          refine W_skip (W_rseqK [0, 2, 3, 4, 5, 6] (jt 2 (k:=(jc [] (c:=(by apply ct_spec_l02Type <;> first | assumption | omega)) (a:=cb_spec_l02Type) (k:=jr)))) ?_)
          refine W_seq (jq [0, 2, 3, 4, 5, 46] ?_)
          refine jd (fun h11 => ?_) (fun h11 => ?_)
          · try simp at h11
            rw [if_neg (by simp [h11])] at hI
            refine W_rseqK [2] (jt 1 (k:=(jc [] (c:=(by apply ct_spec_l02Wrong <;> first | assumption | omega)) (a:=cb_spec_l02Wrong) (k:=(jh hX (by simp [h1, h7, w1, w2]; rfl)))))) ?_
            refine W_ret (W_retR (by simp [h1, h7, w1, w2]; rfl) ?_ rfl)
            rw [dRead_err h3b hI.symm]
            exact wk_err _ _ _
          · try simp at h11
            rw [if_pos h11] at hI
            have hI3 : dParams t (8 - (ps ++ [seg t p (tyP t p).1]).length) (tyP t p).1 (ps ++ [seg t p (tyP t p).1]) = dParams t 8 1 [] := by simpa using hI
            refine W_skip (jL 7 [0, 1, 2, 3, 4, 5] [6] [0, 2, 3, 5] ([1]) hX (by simp [h1, h7, w1, w2, hge, hle]; rfl) (jH (p:=fun X hX => jr) (k:=.nil)) (jh hX (by simp [h1, h7, w1, w2, hge, hle]; rfl)) ?_)
            refine W_reg jr ?_
            refine round_endT ((ps ++ [seg t p (tyP t p).1], (tyP t p).1)) [0, 2, 3, 4] 3 (by simp [hX]) (by simp) (by simp [seg, h11]; try (simp (disch := omega) only [wrap_i64])) ?_ ?_
            · exact ⟨hle, by simp; omega, hI3⟩
            · simp; omega
      · try simp at h7
        have h7b : p < t.length → isAt t p 41 = true := fun h => by rw [isAt_lt h, ← atD_lt h]; simpa using h7 h
        refine W_exit (W_seq (W_rseqK [0, 2, 3, 4, 62] (jh hX (by simp [h1, h7]; rfl)) ?_))
        refine jd (fun h15 => ?_) (fun h15 => ?_)
        · try simp at h15
          refine W_rseqK [2] (jt 1 (k:=(jc [] (c:=(by apply ct_spec_l02Wrong <;> first | assumption | omega)) (a:=cb_spec_l02Wrong) (k:=(jh hX (by simp [h1, h7]; rfl)))))) ?_
          refine W_ret (W_retR (by simp [h1, h7]; rfl) ?_ rfl)
          have hpl : p = t.length := h15
          rw [show dRead t = dErr p from dRead_err h3b (by rw [← hI]; cases 8 - ps.length <;> simp [dParams, isAt_ge (show t.length ≤ p from by omega), tyP, tyP1]), hpl]
          exact wk_err _ _ _
        · try simp at h15
          have h7d := h7b (by omega)
          have hd : dRead t = dTail t ps p := dRead_ok h3b (by rw [← hI]; cases 8 - ps.length <;> simp [dParams, h7d])
          rw [hd]
          have w0 : p + 1 ≤ t.length := by omega
          have wp : ps.length ≤ ps.length := Nat.le_refl _
          refine W_skip (W_rseqK [0, 2, 3, 4] (jh hX (by simp; (try (simp (disch := omega) only [wrap_i64]; (try simp))); rfl)) ?_)
          refine W_seq (W_rseqK [0, 2, 3, 4, 76] (js hX 5 (by simp [h1, h7, w0]; rfl) (jm 5 71 [0, 2, 3, 4, 76] (p:=fun b18_5 => by (try simp at b18_5); exact (jh hX (by simp [-atD_lt, -atL_lt, h1, h7, w0, b18_5]; rfl))) (q:=fun b18_5 => by (try simp at b18_5); exact (jh hX (by simp [-atD_lt, -atL_lt]; rfl))) (k:=jf))) ?_)
          refine jd (fun h18 => ?_) (fun h18 => ?_)
          · try simp at h18
            have h18b : isAt t (p + 1) 86 = true := by rw [isAt_lt h18.1, ← atD_lt h18.1]; simpa using h18.2
            refine W_rseqK [0, 2, 3, 4] (jh hX (by simp [h1, h7, w0, h18]; rfl)) ?_
            refine W_reg (jh hX (by simp; (try (simp (disch := omega) only [wrap_i64]; (try simp))); rfl)) ?_
            refine W_seq (W_rseqK [2, 3, 4, 99] (jh hX (by simp [h1, h7, w0, h18]; rfl)) ?_)
            refine jd (fun h26 => ?_) (fun h26 => ?_)
            · try simp at h26
              refine W_rseqK [2] (jt 1 (k:=(jc [] (c:=(by apply ct_spec_l02Wrong <;> first | assumption | omega)) (a:=cb_spec_l02Wrong) (k:=(jh hX (by simp [h1, h7, w0, h18, h26]; rfl)))))) ?_
              refine W_ret (W_retR (by simp [h1, h7, w0, h18, h26]; rfl) ?_ rfl)
              first
                | (rw [show dTail t ps p = dErr (p + 2) from by simp only [dTail, h18b, if_true]; rw [if_pos (by omega)], show ((p : Int) + 1 + 1) = ((p + 2 : Nat) : Int) from by omega]; exact wk_err _ _ _)
                | (rw [show dTail t ps p = dErr (tyP t (p + 1)).1 from by simp only [dTail, h18b, h22, if_true]; simp; omega]; exact wk_err _ _ _)
            · try simp at h26
              refine W_skip (W_rseqK [2] (jh hX (by simp [h1, h7, w0, h18, h26]; rfl)) ?_)
              refine W_ret (W_retR (by simp [h1, h7, w0, h18, h26]; rfl) ?_ rfl)
              first
                | (rw [show dTail t ps p = ⟨ps, [86], 0, 0⟩ from by simp only [dTail, h18b, if_true]; rw [if_neg (by omega)]]; exact Wk.refl _)
                | (rw [show dTail t ps p = ⟨ps, seg t (p + 1) (tyP t (p + 1)).1, 0, 0⟩ from by simp only [dTail, h18b, h22]; simp; omega]; exact Wk.refl _)
          · try simp at h18
            have h18b : isAt t (p + 1) 86 = false := by
              rcases Nat.lt_or_ge (p + 1) t.length with h | h
              · rw [isAt_lt h, ← atD_lt h]; simpa using h18 h
              · exact isAt_ge h
            obtain ⟨hge, hle, hgt, _⟩ := tyP_le w0
            refine W_rseqK [0, 2, 3, 4, 7, 8] (jt 2 (k:=(jc [] (c:=(by apply ct_spec_l02Type <;> first | assumption | omega)) (a:=cb_spec_l02Type) (k:=jr)))) ?_
            refine W_seq (jq [0, 2, 3, 4, 7, 87] ?_)
            refine jd (fun h22 => ?_) (fun h22 => ?_)
            · try simp at h22
              refine W_rseqK [2] (jt 1 (k:=(jc [] (c:=(by apply ct_spec_l02Wrong <;> first | assumption | omega)) (a:=cb_spec_l02Wrong) (k:=(jh hX (by simp [h1, h7, w0, h18, hge, hle]; rfl)))))) ?_
              refine W_ret (W_retR (by simp [h1, h7, w0, h18, hge, hle]; rfl) ?_ rfl)
              rw [show dTail t ps p = dErr (tyP t (p + 1)).1 from by simp [dTail, h18b, h22]]
              exact wk_err _ _ _
            · try simp at h22
              refine W_skip (W_rseqK [0, 2, 3, 7] (jh hX (by simp [h1, h7, w0, h18, hge, hle]; rfl)) ?_)
              refine W_reg jr ?_
              refine W_seq (W_rseqK [2, 3, 4, 99] (jh hX (by simp [h1, h7, w0, h18, hge, hle]; rfl)) ?_)
              refine jd (fun h26 => ?_) (fun h26 => ?_)
              · try simp at h26
                refine W_rseqK [2] (jt 1 (k:=(jc [] (c:=(by apply ct_spec_l02Wrong <;> first | assumption | omega)) (a:=cb_spec_l02Wrong) (k:=(jh hX (by simp [h1, h7, w0, h18, hge, hle, h26]; rfl)))))) ?_
                refine W_ret (W_retR (by simp [h1, h7, w0, h18, hge, hle, h26]; rfl) ?_ rfl)
                first
                  | (rw [show dTail t ps p = dErr (p + 2) from by simp only [dTail, h18b, if_true]; rw [if_pos (by omega)], show ((p : Int) + 1 + 1) = ((p + 2 : Nat) : Int) from by omega]; exact wk_err _ _ _)
                  | (rw [show dTail t ps p = dErr (tyP t (p + 1)).1 from by simp only [dTail, h18b, h22, if_true]; simp; omega]; exact wk_err _ _ _)
              · try simp at h26
                refine W_skip (W_rseqK [2] (jh hX (by simp [h1, h7, w0, h18, hge, hle, h26]; rfl)) ?_)
                refine W_ret (W_retR (by simp [h1, h7, w0, h18, hge, hle, h26]; rfl) ?_ rfl)
                first
                  | (rw [show dTail t ps p = ⟨ps, [86], 0, 0⟩ from by simp only [dTail, h18b, if_true]; rw [if_neg (by omega)]]; exact Wk.refl _)
                  | (rw [show dTail t ps p = ⟨ps, seg t (p + 1) (tyP t (p + 1)).1, 0, 0⟩ from by simp only [dTail, h18b, h22]; simp; omega]; exact Wk.refl _)
end Go.Proofs
namespace Go.Proofs
open Go Go.Ev


theorem cb_spec_l01Int : Callable Tryz.prog 105 := ⟨_, Tryz.func105, by kernel_rfl, by kernel_rfl⟩
theorem ct_spec_l01Int {n : Int} : Ct Tryz.prog 105 [.int .i64 n] [] (.bool (decide (-2147483648 ≤ n ∧ n ≤ 2147483647))) [] := by
  refine Ct_bodyS tok Tryz.func105 rfl 9 (by kernel_rfl) (by kernel_rfl) fun X hX => ?_
  refine jq [0] ?_
  refine W_rseqK [2] (jt 3 (k:=(jm 3 5 [8] (p:=fun b1_3 => by (try simp at b1_3); exact (jh hX (by simp [-atD_lt, -atL_lt]; rfl))) (q:=fun b1_3 => by (try simp at b1_3); exact (jh hX (by simp [-atD_lt, -atL_lt]; rfl))) (k:=jr)))) ?_
  refine W_ret (je0 ?_)
  (try simp_all) <;> grind
end Go.Proofs
namespace Go.Proofs
open Go Go.Ev


theorem cb_spec_l03Ops : Callable Tryz.prog 222 := ⟨_, Tryz.func222, by kernel_rfl, by kernel_rfl⟩
theorem ct_spec_l03Ops  : Ct Tryz.prog 222 [] [] (.lst true 1 (opsL.map V.str)) [] := by
  refine Ct_bodyS tok Tryz.func222 rfl 2 (by kernel_rfl) (by kernel_rfl) fun X hX => ?_
  refine jq [] ?_
  refine jq [0] ?_
  refine W_ret (je0 ?_)
  rfl
end Go.Proofs
