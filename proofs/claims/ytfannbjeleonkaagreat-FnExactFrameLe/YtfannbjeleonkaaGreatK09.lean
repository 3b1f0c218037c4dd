/- Part 10 of what the proofs lean on: what the functions of the program and of the reference compute. Conditions: none. -/
import Derived.Test.YtfannbjeleonkaaGreatK08
import Derived.Test.YtfannbjeleonkaaGreatRows
set_option linter.all false
set_option linter.unusedVariables false
set_option linter.unusedSimpArgs false
set_option maxHeartbeats 2000000
set_option maxRecDepth 100000
namespace Go.Proofs
open Go Go.Ev


theorem cb_laws_eqIns : Callable Tryz.prog 249 := ⟨_, Tryz.func249, by kernel_rfl, by kernel_rfl⟩
theorem ct_laws_eqIns {x y : Ins} : Ct Tryz.prog 249 [eI x, eI y] [] (.bool (decide (x = y))) [] := by
  refine Ct_bodyS tok Tryz.func249 rfl 30 (by kernel_rfl) (by kernel_rfl) fun X hX => ?_
  refine jq [2, 3] ?_
  refine W_seq (jq [2, 3, 9] ?_)
  refine jd (fun h1 => ?_) (fun h1 => ?_)
  · try simp at h1
    refine jq [4] ?_
    refine W_ret (je0 ?_)
    (try simp at *) <;> cases x <;> cases y <;> simp_all
  · try simp at h1
    refine W_skip (W_seq (jq [2, 3, 14] ?_))
    refine jd (fun h3 => ?_) (fun h3 => ?_)
    · try simp at h3
      refine jq [4] ?_
      refine W_ret (je0 ?_)
      (try simp at *) <;> cases x <;> cases y <;> simp_all
    · try simp at h3
      refine W_skip (W_seq (jq [2, 3, 19] ?_))
      refine jd (fun h5 => ?_) (fun h5 => ?_)
      · try simp at h5
        refine jq [4] ?_
        refine W_ret (je0 ?_)
        (try simp at *) <;> cases x <;> cases y <;> simp_all
      · try simp at h5
        refine W_skip (W_seq (jq [2, 3, 24] ?_))
        refine jd (fun h7 => ?_) (fun h7 => ?_)
        · try simp at h7
          refine jq [4] ?_
          refine W_ret (je0 ?_)
          (try simp at *) <;> cases x <;> cases y <;> simp_all
        · try simp at h7
          refine W_skip (W_seq (jq [29] ?_))
          refine jd (fun h9 => ?_) (fun h9 => ?_)
          · try simp at h9
            refine jq [4] ?_
            refine W_ret (je0 ?_)
            (try simp at *) <;> cases x <;> cases y <;> simp_all
          · try simp at h9
            refine W_skip (jq [4] ?_)
            refine W_ret (je0 ?_)
            (try simp at *) <;> cases x <;> cases y <;> simp_all
end Go.Proofs
namespace Go.Proofs
open Go Go.Ev


theorem cb_laws_eqInsS : Callable Tryz.prog 225 := ⟨_, Tryz.func225, by kernel_rfl, by kernel_rfl⟩
theorem ct_laws_eqInsS {l1 l2 : List Ins} (q1 : l1.length < 4611686018427387904) (q2 : l2.length < 4611686018427387904) : Ct Tryz.prog 225 [.lst false 5 (l1.map eI), .lst false 5 (l2.map eI)] [] (.bool (decide (l1 = l2))) [] := by
  refine Ct_bodyS tok Tryz.func225 rfl 27 (by kernel_rfl) (by kernel_rfl) fun X hX => ?_
  refine jq [0, 1] ?_
  refine W_seq (jq [0, 1, 10] ?_)
  refine jd (fun h1 => ?_) (fun h1 => ?_)
  · try simp at h1
    replace h1 : ¬ l1.length = l2.length := by omega
    refine jq [4] ?_
    refine W_ret (je0 ?_)
    have : ¬ l1 = l2 := fun e => h1 (by rw [e])
    simp [this]
  · try simp at h1
    replace h1 : l1.length = l2.length := by omega
    refine W_skip (W_seq (jq [0, 1, 5] ?_))
    refine W_block (W_loopU (α := Nat) [0, 1, 5] (fun i => [(5, .int .i64 i)]) (fun i => []) (fun i => i ≤ l1.length ∧ (l1.drop i = l2.drop i ↔ l1 = l2)) (fun i => l1.length - i) (0) (fun i => by simp; rfl) (by simp) ?_ ?_)
    · simp
    rintro i ⟨hi, hI⟩
    refine W_seq (jq [0, 1, 5, 14] ?_)
    refine jd (fun h4 => ?_) (fun h4 => ?_)
    · try simp at h4
      have h4b : i < l1.length := by omega
      have h4c : i < l2.length := by omega
      rw [List.drop_eq_getElem_cons h4b, List.drop_eq_getElem_cons h4c, List.cons.injEq] at hI
      refine W_skip (W_seq (W_block (jD [0, 1, 5, 26] (jS 8 (by simp [h4, h4b, h4c]; rfl) (jC (c:=by apply ct_laws_eqIns <;> first | assumption | omega | exact hb1 _ (List.getElem_mem _) | exact hb2 _ (List.getElem_mem _)) (a:=cb_laws_eqIns) (k:=(jQ (by simp; rfl))))) ?_)))
      refine jd (fun h6 => ?_) (fun h6 => ?_)
      · try simp at h6
        refine jq [4] ?_
        refine W_ret (je (by simp [h4, h4b, h4c]; rfl) ?_)
        simp_all
      · try simp at h6
        refine W_skip (W_reg (jh hX (by simp; (try (simp (disch := omega) only [wrap_i64]; (try simp))); rfl)) ?_)
        refine round_end (i + 1) [0, 1, 5] (by simp [h4, h4b, h4c]; try (simp (disch := omega) only [wrap_i64])) ?_ ?_
        · exact ⟨by omega, by simp_all⟩
        · omega
    · try simp at h4
      refine W_exit (jq [4] ?_)
      refine W_ret (je (by simp [h4]; rfl) ?_)
      have : l1.drop i = [] := List.drop_eq_nil_of_le (by omega)
      have e2 : l2.drop i = [] := List.drop_eq_nil_of_le (by omega)
      simp_all
end Go.Proofs
namespace Go.Proofs
open Go Go.Ev


theorem cb_laws_eqHandler : Callable Tryz.prog 250 := ⟨_, Tryz.func250, by kernel_rfl, by kernel_rfl⟩
theorem ct_laws_eqHandler {x y : Hdl} : Ct Tryz.prog 250 [eH x, eH y] [] (.bool (decide (x = y))) [] := by
  refine Ct_bodyS tok Tryz.func250 rfl 25 (by kernel_rfl) (by kernel_rfl) fun X hX => ?_
  refine jq [2, 3] ?_
  refine W_seq (jq [2, 3, 9] ?_)
  refine jd (fun h1 => ?_) (fun h1 => ?_)
  · try simp at h1
    refine jq [4] ?_
    refine W_ret (je0 ?_)
    (try simp at *) <;> cases x <;> cases y <;> simp_all
  · try simp at h1
    refine W_skip (W_seq (jq [2, 3, 14] ?_))
    refine jd (fun h3 => ?_) (fun h3 => ?_)
    · try simp at h3
      refine jq [4] ?_
      refine W_ret (je0 ?_)
      (try simp at *) <;> cases x <;> cases y <;> simp_all
    · try simp at h3
      refine W_skip (W_seq (jq [2, 3, 19] ?_))
      refine jd (fun h5 => ?_) (fun h5 => ?_)
      · try simp at h5
        refine jq [4] ?_
        refine W_ret (je0 ?_)
        (try simp at *) <;> cases x <;> cases y <;> simp_all
      · try simp at h5
        refine W_skip (W_seq (jq [24] ?_))
        refine jd (fun h7 => ?_) (fun h7 => ?_)
        · try simp at h7
          refine jq [4] ?_
          refine W_ret (je0 ?_)
          (try simp at *) <;> cases x <;> cases y <;> simp_all
        · try simp at h7
          refine W_skip (jq [4] ?_)
          refine W_ret (je0 ?_)
          (try simp at *) <;> cases x <;> cases y <;> simp_all
end Go.Proofs
namespace Go.Proofs
open Go Go.Ev


theorem cb_laws_eqHandlerS : Callable Tryz.prog 226 := ⟨_, Tryz.func226, by kernel_rfl, by kernel_rfl⟩
theorem ct_laws_eqHandlerS {l1 l2 : List Hdl} (q1 : l1.length < 4611686018427387904) (q2 : l2.length < 4611686018427387904) : Ct Tryz.prog 226 [.lst false 4 (l1.map eH), .lst false 4 (l2.map eH)] [] (.bool (decide (l1 = l2))) [] := by
  refine Ct_bodyS tok Tryz.func226 rfl 27 (by kernel_rfl) (by kernel_rfl) fun X hX => ?_
  refine jq [0, 1] ?_
  refine W_seq (jq [0, 1, 10] ?_)
  refine jd (fun h1 => ?_) (fun h1 => ?_)
  · try simp at h1
    replace h1 : ¬ l1.length = l2.length := by omega
    refine jq [4] ?_
    refine W_ret (je0 ?_)
    have : ¬ l1 = l2 := fun e => h1 (by rw [e])
    simp [this]
  · try simp at h1
    replace h1 : l1.length = l2.length := by omega
    refine W_skip (W_seq (jq [0, 1, 5] ?_))
    refine W_block (W_loopU (α := Nat) [0, 1, 5] (fun i => [(5, .int .i64 i)]) (fun i => []) (fun i => i ≤ l1.length ∧ (l1.drop i = l2.drop i ↔ l1 = l2)) (fun i => l1.length - i) (0) (fun i => by simp; rfl) (by simp) ?_ ?_)
    · simp
    rintro i ⟨hi, hI⟩
    refine W_seq (jq [0, 1, 5, 14] ?_)
    refine jd (fun h4 => ?_) (fun h4 => ?_)
    · try simp at h4
      have h4b : i < l1.length := by omega
      have h4c : i < l2.length := by omega
      rw [List.drop_eq_getElem_cons h4b, List.drop_eq_getElem_cons h4c, List.cons.injEq] at hI
      refine W_skip (W_seq (W_block (jD [0, 1, 5, 26] (jS 8 (by simp [h4, h4b, h4c]; rfl) (jC (c:=by apply ct_laws_eqHandler <;> first | assumption | omega | exact hb1 _ (List.getElem_mem _) | exact hb2 _ (List.getElem_mem _)) (a:=cb_laws_eqHandler) (k:=(jQ (by simp; rfl))))) ?_)))
      refine jd (fun h6 => ?_) (fun h6 => ?_)
      · try simp at h6
        refine jq [4] ?_
        refine W_ret (je (by simp [h4, h4b, h4c]; rfl) ?_)
        simp_all
      · try simp at h6
        refine W_skip (W_reg (jh hX (by simp; (try (simp (disch := omega) only [wrap_i64]; (try simp))); rfl)) ?_)
        refine round_end (i + 1) [0, 1, 5] (by simp [h4, h4b, h4c]; try (simp (disch := omega) only [wrap_i64])) ?_ ?_
        · exact ⟨by omega, by simp_all⟩
        · omega
    · try simp at h4
      refine W_exit (jq [4] ?_)
      refine W_ret (je (by simp [h4]; rfl) ?_)
      have : l1.drop i = [] := List.drop_eq_nil_of_le (by omega)
      have e2 : l2.drop i = [] := List.drop_eq_nil_of_le (by omega)
      simp_all
end Go.Proofs
namespace Go.Proofs
open Go Go.Ev


theorem cb_laws_eqMethod : Callable Tryz.prog 180 := ⟨_, Tryz.func180, by kernel_rfl, by kernel_rfl⟩
theorem ct_laws_eqMethod {x y : Mth} (hx : bigM x) (hy : bigM y) : Ct Tryz.prog 180 [eM x, eM y] [] (.bool (decide (x = y))) [] := by
  simp only [bigM] at hx hy
  obtain ⟨p0, p1, p2, p3, p4, p5⟩ := hx
  obtain ⟨q0, q1, q2, q3, q4, q5⟩ := hy
  refine Ct_bodyS tok Tryz.func180 rfl 52 (by kernel_rfl) (by kernel_rfl) fun X hX => ?_
  refine jq [2, 3] ?_
  refine W_seq (jq [2, 3, 9] ?_)
  refine jd (fun h1 => ?_) (fun h1 => ?_)
  · try simp at h1
    refine jq [4] ?_
    refine W_ret (je0 ?_)
    (try simp at *) <;> cases x <;> cases y <;> simp_all
  · try simp at h1
    refine W_skip (W_seq (jq [2, 3, 14] ?_))
    refine jd (fun h3 => ?_) (fun h3 => ?_)
    · try simp at h3
      refine jq [4] ?_
      refine W_ret (je0 ?_)
      (try simp at *) <;> cases x <;> cases y <;> simp_all
    · try simp at h3
      refine W_skip (W_seq (jq [2, 3, 19] ?_))
      refine jd (fun h5 => ?_) (fun h5 => ?_)
      · try simp at h5
        refine jq [4] ?_
        refine W_ret (je0 ?_)
        (try simp at *) <;> cases x <;> cases y <;> simp_all
      · try simp at h5
        refine W_skip (W_seq (jq [2, 3, 24] ?_))
        refine jd (fun h7 => ?_) (fun h7 => ?_)
        · try simp at h7
          refine jq [4] ?_
          refine W_ret (je0 ?_)
          (try simp at *) <;> cases x <;> cases y <;> simp_all
        · try simp at h7
          refine W_skip (W_seq (jq [2, 3, 29] ?_))
          refine jd (fun h9 => ?_) (fun h9 => ?_)
          · try simp at h9
            refine jq [4] ?_
            refine W_ret (je0 ?_)
            (try simp at *) <;> cases x <;> cases y <;> simp_all
          · try simp at h9
            refine W_skip (W_seq (jq [2, 3, 34] ?_))
            refine jd (fun h11 => ?_) (fun h11 => ?_)
            · try simp at h11
              refine jq [4] ?_
              refine W_ret (je0 ?_)
              (try simp at *) <;> cases x <;> cases y <;> simp_all
            · try simp at h11
              refine W_skip (W_seq (jq [2, 3, 39] ?_))
              refine jd (fun h13 => ?_) (fun h13 => ?_)
              · try simp at h13
                refine jq [4] ?_
                refine W_ret (je0 ?_)
                (try simp at *) <;> cases x <;> cases y <;> simp_all
              · try simp at h13
                refine W_skip (W_seq (W_rseqK [2, 3, 45] (jt 4 (k:=(jc [] (c:=(by apply ct_laws_eqInsS <;> first | assumption | omega)) (a:=cb_laws_eqInsS) (k:=jr)))) ?_))
                refine jd (fun h15 => ?_) (fun h15 => ?_)
                · try simp at h15
                  refine jq [4] ?_
                  refine W_ret (je0 ?_)
                  (try simp at *) <;> cases x <;> cases y <;> simp_all
                · try simp at h15
                  refine W_skip (W_seq (W_rseqK [51] (jt 4 (k:=(jc [] (c:=(by apply ct_laws_eqHandlerS <;> first | assumption | omega)) (a:=cb_laws_eqHandlerS) (k:=jr)))) ?_))
                  refine jd (fun h17 => ?_) (fun h17 => ?_)
                  · try simp at h17
                    refine jq [4] ?_
                    refine W_ret (je0 ?_)
                    (try simp at *) <;> cases x <;> cases y <;> simp_all
                  · try simp at h17
                    refine W_skip (jq [4] ?_)
                    refine W_ret (je0 ?_)
                    (try simp at *) <;> cases x <;> cases y <;> simp_all
end Go.Proofs
namespace Go.Proofs
open Go Go.Ev


theorem cb_laws_eqMethodS : Callable Tryz.prog 121 := ⟨_, Tryz.func121, by kernel_rfl, by kernel_rfl⟩
theorem ct_laws_eqMethodS {l1 l2 : List Mth} (q1 : l1.length < 4611686018427387904) (q2 : l2.length < 4611686018427387904) (hb1 : ∀ y ∈ l1, bigM y) (hb2 : ∀ y ∈ l2, bigM y) : Ct Tryz.prog 121 [.lst false 9 (l1.map eM), .lst false 9 (l2.map eM)] [] (.bool (decide (l1 = l2))) [] := by
  refine Ct_bodyS tok Tryz.func121 rfl 27 (by kernel_rfl) (by kernel_rfl) fun X hX => ?_
  refine jq [0, 1] ?_
  refine W_seq (jq [0, 1, 10] ?_)
  refine jd (fun h1 => ?_) (fun h1 => ?_)
  · try simp at h1
    replace h1 : ¬ l1.length = l2.length := by omega
    refine jq [4] ?_
    refine W_ret (je0 ?_)
    have : ¬ l1 = l2 := fun e => h1 (by rw [e])
    simp [this]
  · try simp at h1
    replace h1 : l1.length = l2.length := by omega
    refine W_skip (W_seq (jq [0, 1, 5] ?_))
    refine W_block (W_loopU (α := Nat) [0, 1, 5] (fun i => [(5, .int .i64 i)]) (fun i => []) (fun i => i ≤ l1.length ∧ (l1.drop i = l2.drop i ↔ l1 = l2)) (fun i => l1.length - i) (0) (fun i => by simp; rfl) (by simp) ?_ ?_)
    · simp
    rintro i ⟨hi, hI⟩
    refine W_seq (jq [0, 1, 5, 14] ?_)
    refine jd (fun h4 => ?_) (fun h4 => ?_)
    · try simp at h4
      have h4b : i < l1.length := by omega
      have h4c : i < l2.length := by omega
      rw [List.drop_eq_getElem_cons h4b, List.drop_eq_getElem_cons h4c, List.cons.injEq] at hI
      refine W_skip (W_seq (W_block (jD [0, 1, 5, 26] (jS 8 (by simp [h4, h4b, h4c]; rfl) (jC (c:=by apply ct_laws_eqMethod <;> first | assumption | omega | exact hb1 _ (List.getElem_mem _) | exact hb2 _ (List.getElem_mem _)) (a:=cb_laws_eqMethod) (k:=(jQ (by simp; rfl))))) ?_)))
      refine jd (fun h6 => ?_) (fun h6 => ?_)
      · try simp at h6
        refine jq [4] ?_
        refine W_ret (je (by simp [h4, h4b, h4c]; rfl) ?_)
        simp_all
      · try simp at h6
        refine W_skip (W_reg (jh hX (by simp; (try (simp (disch := omega) only [wrap_i64]; (try simp))); rfl)) ?_)
        refine round_end (i + 1) [0, 1, 5] (by simp [h4, h4b, h4c]; try (simp (disch := omega) only [wrap_i64])) ?_ ?_
        · exact ⟨by omega, by simp_all⟩
        · omega
    · try simp at h4
      refine W_exit (jq [4] ?_)
      refine W_ret (je (by simp [h4]; rfl) ?_)
      have : l1.drop i = [] := List.drop_eq_nil_of_le (by omega)
      have e2 : l2.drop i = [] := List.drop_eq_nil_of_le (by omega)
      simp_all
end Go.Proofs
namespace Go.Proofs
open Go Go.Ev


theorem cb_laws_eqClass : Callable Tryz.prog 68 := ⟨_, Tryz.func68, by kernel_rfl, by kernel_rfl⟩
theorem ct_laws_eqClass {x y : Cls} (hx : bigC x) (hy : bigC y) : Ct Tryz.prog 68 [eC x, eC y] [] (.bool (decide (x = y))) [] := by
  simp only [bigC] at hx hy
  obtain ⟨p0, p1, p2, p3, p4, p5⟩ := hx
  obtain ⟨q0, q1, q2, q3, q4, q5⟩ := hy
  refine Ct_bodyS tok Tryz.func68 rfl 37 (by kernel_rfl) (by kernel_rfl) fun X hX => ?_
  refine jq [2, 3] ?_
  refine W_seq (jq [2, 3, 9] ?_)
  refine jd (fun h1 => ?_) (fun h1 => ?_)
  · try simp at h1
    refine jq [4] ?_
    refine W_ret (je0 ?_)
    (try simp at *) <;> cases x <;> cases y <;> simp_all
  · try simp at h1
    refine W_skip (W_seq (jq [2, 3, 14] ?_))
    refine jd (fun h3 => ?_) (fun h3 => ?_)
    · try simp at h3
      refine jq [4] ?_
      refine W_ret (je0 ?_)
      (try simp at *) <;> cases x <;> cases y <;> simp_all
    · try simp at h3
      refine W_skip (W_seq (jq [2, 3, 19] ?_))
      refine jd (fun h5 => ?_) (fun h5 => ?_)
      · try simp at h5
        refine jq [4] ?_
        refine W_ret (je0 ?_)
        (try simp at *) <;> cases x <;> cases y <;> simp_all
      · try simp at h5
        refine W_skip (W_seq (jq [2, 3, 24] ?_))
        refine jd (fun h7 => ?_) (fun h7 => ?_)
        · try simp at h7
          refine jq [4] ?_
          refine W_ret (je0 ?_)
          (try simp at *) <;> cases x <;> cases y <;> simp_all
        · try simp at h7
          refine W_skip (W_seq (W_rseqK [2, 3, 30] (jt 4 (k:=(jc [] (c:=(by apply ct_laws_eqFieldS <;> first | assumption | omega)) (a:=cb_laws_eqFieldS) (k:=jr)))) ?_))
          refine jd (fun h9 => ?_) (fun h9 => ?_)
          · try simp at h9
            refine jq [4] ?_
            refine W_ret (je0 ?_)
            (try simp at *) <;> cases x <;> cases y <;> simp_all
          · try simp at h9
            refine W_skip (W_seq (W_rseqK [36] (jt 4 (k:=(jc [] (c:=(by apply ct_laws_eqMethodS <;> first | assumption | omega)) (a:=cb_laws_eqMethodS) (k:=jr)))) ?_))
            refine jd (fun h11 => ?_) (fun h11 => ?_)
            · try simp at h11
              refine jq [4] ?_
              refine W_ret (je0 ?_)
              (try simp at *) <;> cases x <;> cases y <;> simp_all
            · try simp at h11
              refine W_skip (jq [4] ?_)
              refine W_ret (je0 ?_)
              (try simp at *) <;> cases x <;> cases y <;> simp_all
end Go.Proofs
namespace Go.Proofs
open Go Go.Ev


theorem cb_laws_eqClassS : Callable Tryz.prog 19 := ⟨_, Tryz.func19, by kernel_rfl, by kernel_rfl⟩
theorem ct_laws_eqClassS {l1 l2 : List Cls} (q1 : l1.length < 4611686018427387904) (q2 : l2.length < 4611686018427387904) (hb1 : ∀ y ∈ l1, bigC y) (hb2 : ∀ y ∈ l2, bigC y) : Ct Tryz.prog 19 [.lst false 6 (l1.map eC), .lst false 6 (l2.map eC)] [] (.bool (decide (l1 = l2))) [] := by
  refine Ct_bodyS tok Tryz.func19 rfl 27 (by kernel_rfl) (by kernel_rfl) fun X hX => ?_
  refine jq [0, 1] ?_
  refine W_seq (jq [0, 1, 10] ?_)
  refine jd (fun h1 => ?_) (fun h1 => ?_)
  · try simp at h1
    replace h1 : ¬ l1.length = l2.length := by omega
    refine jq [4] ?_
    refine W_ret (je0 ?_)
    have : ¬ l1 = l2 := fun e => h1 (by rw [e])
    simp [this]
  · try simp at h1
    replace h1 : l1.length = l2.length := by omega
    refine W_skip (W_seq (jq [0, 1, 5] ?_))
    refine W_block (W_loopU (α := Nat) [0, 1, 5] (fun i => [(5, .int .i64 i)]) (fun i => []) (fun i => i ≤ l1.length ∧ (l1.drop i = l2.drop i ↔ l1 = l2)) (fun i => l1.length - i) (0) (fun i => by simp; rfl) (by simp) ?_ ?_)
    · simp
    rintro i ⟨hi, hI⟩
    refine W_seq (jq [0, 1, 5, 14] ?_)
    refine jd (fun h4 => ?_) (fun h4 => ?_)
    · try simp at h4
      have h4b : i < l1.length := by omega
      have h4c : i < l2.length := by omega
      rw [List.drop_eq_getElem_cons h4b, List.drop_eq_getElem_cons h4c, List.cons.injEq] at hI
      refine W_skip (W_seq (W_block (jD [0, 1, 5, 26] (jS 8 (by simp [h4, h4b, h4c]; rfl) (jC (c:=by apply ct_laws_eqClass <;> first | assumption | omega | exact hb1 _ (List.getElem_mem _) | exact hb2 _ (List.getElem_mem _)) (a:=cb_laws_eqClass) (k:=(jQ (by simp; rfl))))) ?_)))
      refine jd (fun h6 => ?_) (fun h6 => ?_)
      · try simp at h6
        refine jq [4] ?_
        refine W_ret (je (by simp [h4, h4b, h4c]; rfl) ?_)
        simp_all
      · try simp at h6
        refine W_skip (W_reg (jh hX (by simp; (try (simp (disch := omega) only [wrap_i64]; (try simp))); rfl)) ?_)
        refine round_end (i + 1) [0, 1, 5] (by simp [h4, h4b, h4c]; try (simp (disch := omega) only [wrap_i64])) ?_ ?_
        · exact ⟨by omega, by simp_all⟩
        · omega
    · try simp at h4
      refine W_exit (jq [4] ?_)
      refine W_ret (je (by simp [h4]; rfl) ?_)
      have : l1.drop i = [] := List.drop_eq_nil_of_le (by omega)
      have e2 : l2.drop i = [] := List.drop_eq_nil_of_le (by omega)
      simp_all
end Go.Proofs
namespace Go.Proofs
open Go Go.Ev


theorem cb_laws_FnExactCommonOf : Callable Tryz.prog 3 := ⟨_, Tryz.func3, by kernel_rfl, by kernel_rfl⟩
theorem ct_laws_FnExactCommonOf {l : List Cls} {a : Str} {b : Str} (h : l.length < 4611686018427387904) (hb : ∀ y ∈ l, bigC y) (ha : a.length < 4611686018427387904) (hb : b.length < 4611686018427387904) : Ct Tryz.prog 3 [.lst false 6 (l.map eC), .str a, .str b] [] (.bool true) [] := by
  refine Ct_bodyS tok Tryz.func3 rfl 41 (by kernel_rfl) (by kernel_rfl) fun X hX => ?_
  refine jq [0, 1, 2] ?_
  refine W_seq (jq [0, 1, 2, 13] ?_)
  refine jd (fun h1 => ?_) (fun h1 => ?_)
  · try simp at h1
    refine jq [6] ?_
    refine W_ret (je (by simp [h1]; rfl) ?_)
    simp_all
  · try simp at h1
    refine W_skip (W_seq (W_rseqK [0, 1, 2, 16] (jh hX (by simp [h1]; rfl)) ?_))
    refine jd (fun h3 => ?_) (fun h3 => ?_)
    · try simp at h3
      refine jq [6] ?_
      refine W_ret (je (by simp [h1, h3]; rfl) ?_)
      simp_all
    · try simp at h3
      refine W_skip (jq [0, 1, 2, 7] ?_)
      refine W_rseqK [0, 1, 2, 7] (jt 2 (k:=(jc [] (c:=(by apply ct_laws_szClassS <;> first | assumption | omega)) (a:=cb_laws_szClassS) (k:=jr)))) ?_
      refine W_seq (jq [0, 1, 2, 21] ?_)
      refine jd (fun h7 => ?_) (fun h7 => ?_)
      · try simp at h7
        refine jq [6] ?_
        refine W_ret (je (by simp [h1, h3, h7]; rfl) ?_)
        simp_all
      · try simp at h7
        have hsz : l.length + (l.map sizeC).sum ≤ 1048576 := by unfold sub at h7; split at h7 <;> omega
        have hsL : sizeL l ≤ 1048576 := hsz
        refine W_skip (W_rseqK [0, 1, 2, 8] (jt 1 (k:=(jF (c:=(by apply ct_laws_toClassS <;> first | assumption | omega | exact fun y hy => Nat.le_trans (mem_sum hy) (by omega))) (a:=cb_laws_toClassS) (k:=(jt 2 (k:=(jc [] (c:=(by apply ct_spec_CommonOf <;> first | assumption | omega)) (a:=cb_spec_CommonOf) (k:=jr)))))))) ?_)
        refine W_rseqK [0, 1, 2, 8, 9] (jt 1 (k:=(jF (c:=(by apply ct_laws_toClassS <;> first | assumption | omega | exact fun y hy => Nat.le_trans (mem_sum hy) (by omega))) (a:=cb_laws_toClassS) (k:=jr)))) ?_
        refine W_rseqK [0, 8, 9, 10] (jt 3 (k:=(jc [] (c:=(by apply ct_impl_CommonOf <;> first | assumption | omega)) (a:=cb_impl_CommonOf) (k:=jr)))) ?_
        refine W_seq (jq [0, 9, 35] ?_)
        refine jd (fun h12 => ?_) (fun h12 => ?_)
        · try simp at h12
          all_goals
            refine jq [6] ?_
            refine W_ret (je (by simp [h1, h3, h7]; rfl) ?_)
            simp_all
        · try simp at h12
          all_goals
            refine W_skip (W_seq (W_rseqK [40] (jt 2 (k:=(jF (c:=(by apply ct_laws_toClassS <;> first | assumption | omega | exact fun y hy => Nat.le_trans (mem_sum hy) (by omega))) (a:=cb_laws_toClassS) (k:=(jc [] (c:=(by apply ct_laws_eqClassS <;> first | assumption | omega)) (a:=cb_laws_eqClassS) (k:=jr)))))) ?_))
            refine jd (fun h14 => ?_) (fun h14 => ?_)
            · try simp at h14
              all_goals
                refine jq [6] ?_
                refine W_ret (je (by simp [h1, h3, h7]; rfl) ?_)
                simp_all
            · try simp at h14
              all_goals
                refine W_skip (jq [6] ?_)
                refine W_ret (je (by simp [h1, h3, h7]; rfl) ?_)
                simp_all
end Go.Proofs
namespace Go.Proofs
open Go Go.Ev

abbrev tcF : List Tc := [.str, .str, .bool]
abbrev tcI : List Tc := [.int .i64, .int .i64, .str, .str, .str]
abbrev tcH : List Tc := [.int .i64, .int .i64, .int .i64, .str]
abbrev tcM : List Tc := [.str, .str, .bool, .bool, .bool, .int .i64, .int .i64, .lst false tcI, .lst false tcH]
abbrev tcC : List Tc := [.str, .str, .bool, .bool, .lst false tcF, .lst false tcM]

theorem dec_list {α : Type} {enc : α → V} {Q : α → Prop} : ∀ {xs : List V}, (∀ x ∈ xs, ∃ a, x = enc a ∧ Q a) → ∃ l : List α, xs = l.map enc ∧ ∀ a ∈ l, Q a
  | [], _ => ⟨[], rfl, fun _ h => by cases h⟩
  | x :: xs, h => by
    obtain ⟨a, rfl, ha⟩ := h x (by simp)
    obtain ⟨l, rfl, hl⟩ := dec_list (enc := enc) (Q := Q) (xs := xs) fun y hy => h y (by simp [hy])
    exact ⟨a :: l, rfl, fun b hb => by
      rcases List.mem_cons.1 hb with rfl | hb
      · exact ha
      · exact hl b hb⟩

theorem okL_cons {c : Tc} {cs : List Tc} {vs : List V} (h : okL (c :: cs) vs) : ∃ v ws, vs = v :: ws ∧ okC c v ∧ okL cs ws := by
  cases vs with
  | nil => simp [okL] at h
  | cons v ws => exact ⟨v, ws, rfl, h⟩
theorem okL_nil {vs : List V} (h : okL [] vs) : vs = [] := by
  cases vs with
  | nil => rfl
  | cons v ws => simp [okL] at h
theorem okC_str {v : V} (h : okC .str v) : ∃ l, v = .str l ∧ l.length ≤ 140737488351232 := h
theorem okC_bool {v : V} (h : okC .bool v) : ∃ b, v = .bool b := h
theorem okC_int {v : V} (h : okC (.int .i64) v) : ∃ n, v = .int .i64 n ∧ -9223372036854775808 ≤ n ∧ n < 9223372036854775808 := by
  obtain ⟨n, rfl, hn⟩ := h
  refine ⟨n, rfl, ?_⟩
  simp [Lit.wf, IntKind.min, IntKind.max, IntKind.signed, IntKind.bits] at hn
  omega
theorem okC_lst {α : Type} {enc : α → V} {Q : α → Prop} {cs : List Tc} {v : V} (h : okC (.lst false cs) v) (hd : ∀ vs, okL cs vs → ∃ a, V.agg vs = enc a ∧ Q a) :
    ∃ l : List α, v = .lst false cs.length (l.map enc) ∧ l.length ≤ 140737488351232 ∧ ∀ a ∈ l, Q a := by
  obtain ⟨xs, rfl, hl, hx⟩ := h
  obtain ⟨l, rfl, hq⟩ := dec_list (enc := enc) (Q := Q) (xs := xs) fun x hx' => by
    have := hx x hx'
    simp only [Bool.false_eq_true, if_false] at this
    obtain ⟨vs, rfl, hv⟩ := this
    exact hd vs hv
  exact ⟨l, rfl, by rw [List.length_map] at hl; exact hl, hq⟩

theorem decF {vs : List V} (h : okL tcF vs) : ∃ x : Fld, V.agg vs = eF x ∧ bigF x := by
  obtain ⟨_, _, rfl, h0, h⟩ := okL_cons h
  obtain ⟨_, _, rfl, h1, h⟩ := okL_cons h
  obtain ⟨_, _, rfl, h2, h⟩ := okL_cons h
  obtain rfl := okL_nil h
  obtain ⟨a, rfl, ha⟩ := okC_str h0
  obtain ⟨b, rfl, hb⟩ := okC_str h1
  obtain ⟨c, rfl⟩ := okC_bool h2
  exact ⟨⟨a, b, c⟩, rfl, by simp only [bigF]; omega⟩

theorem decI {vs : List V} (h : okL tcI vs) : ∃ x : Ins, V.agg vs = eI x ∧ bigI x := by
  obtain ⟨_, _, rfl, h0, h⟩ := okL_cons h
  obtain ⟨_, _, rfl, h1, h⟩ := okL_cons h
  obtain ⟨_, _, rfl, h2, h⟩ := okL_cons h
  obtain ⟨_, _, rfl, h3, h⟩ := okL_cons h
  obtain ⟨_, _, rfl, h4, h⟩ := okL_cons h
  obtain rfl := okL_nil h
  obtain ⟨a, rfl, ha⟩ := okC_int h0
  obtain ⟨b, rfl, hb⟩ := okC_int h1
  obtain ⟨c, rfl, hc⟩ := okC_str h2
  obtain ⟨d, rfl, hd⟩ := okC_str h3
  obtain ⟨e, rfl, he⟩ := okC_str h4
  exact ⟨⟨a, b, c, d, e⟩, rfl, by simp only [bigI]; omega⟩

theorem decH {vs : List V} (h : okL tcH vs) : ∃ x : Hdl, V.agg vs = eH x ∧ bigH x := by
  obtain ⟨_, _, rfl, h0, h⟩ := okL_cons h
  obtain ⟨_, _, rfl, h1, h⟩ := okL_cons h
  obtain ⟨_, _, rfl, h2, h⟩ := okL_cons h
  obtain ⟨_, _, rfl, h3, h⟩ := okL_cons h
  obtain rfl := okL_nil h
  obtain ⟨a, rfl, ha⟩ := okC_int h0
  obtain ⟨b, rfl, hb⟩ := okC_int h1
  obtain ⟨c, rfl, hc⟩ := okC_int h2
  obtain ⟨d, rfl, hd⟩ := okC_str h3
  exact ⟨⟨a, b, c, d⟩, rfl, by simp only [bigH]; omega⟩

theorem decM {vs : List V} (h : okL tcM vs) : ∃ x : Mth, V.agg vs = eM x ∧ bigM x := by
  obtain ⟨_, _, rfl, h0, h⟩ := okL_cons h
  obtain ⟨_, _, rfl, h1, h⟩ := okL_cons h
  obtain ⟨_, _, rfl, h2, h⟩ := okL_cons h
  obtain ⟨_, _, rfl, h3, h⟩ := okL_cons h
  obtain ⟨_, _, rfl, h4, h⟩ := okL_cons h
  obtain ⟨_, _, rfl, h5, h⟩ := okL_cons h
  obtain ⟨_, _, rfl, h6, h⟩ := okL_cons h
  obtain ⟨_, _, rfl, h7, h⟩ := okL_cons h
  obtain ⟨_, _, rfl, h8, h⟩ := okL_cons h
  obtain rfl := okL_nil h
  obtain ⟨a, rfl, ha⟩ := okC_str h0
  obtain ⟨b, rfl, hb⟩ := okC_str h1
  obtain ⟨c, rfl⟩ := okC_bool h2
  obtain ⟨d, rfl⟩ := okC_bool h3
  obtain ⟨e, rfl⟩ := okC_bool h4
  obtain ⟨f, rfl, _⟩ := okC_int h5
  obtain ⟨g, rfl, _⟩ := okC_int h6
  obtain ⟨i, rfl, hi, hi2⟩ := okC_lst h7 fun vs => decI
  obtain ⟨j, rfl, hj, hj2⟩ := okC_lst h8 fun vs => decH
  exact ⟨⟨a, b, c, d, e, f, g, i, j⟩, rfl, by simp only [bigM]; exact ⟨by omega, by omega, by omega, hi2, by omega, hj2⟩⟩

theorem decC {vs : List V} (h : okL tcC vs) : ∃ x : Cls, V.agg vs = eC x ∧ bigC x := by
  obtain ⟨_, _, rfl, h0, h⟩ := okL_cons h
  obtain ⟨_, _, rfl, h1, h⟩ := okL_cons h
  obtain ⟨_, _, rfl, h2, h⟩ := okL_cons h
  obtain ⟨_, _, rfl, h3, h⟩ := okL_cons h
  obtain ⟨_, _, rfl, h4, h⟩ := okL_cons h
  obtain ⟨_, _, rfl, h5, h⟩ := okL_cons h
  obtain rfl := okL_nil h
  obtain ⟨a, rfl, ha⟩ := okC_str h0
  obtain ⟨b, rfl, hb⟩ := okC_str h1
  obtain ⟨c, rfl⟩ := okC_bool h2
  obtain ⟨d, rfl⟩ := okC_bool h3
  obtain ⟨i, rfl, hi, hi2⟩ := okC_lst h4 fun vs => decF
  obtain ⟨j, rfl, hj, hj2⟩ := okC_lst h5 fun vs => decM
  exact ⟨⟨a, b, c, d, i, j⟩, rfl, by simp only [bigC]; exact ⟨by omega, by omega, by omega, hi2, by omega, hj2⟩⟩

/-- arguments, one by one -/
theorem okA_cons {x : Bool × List Tc} {r : List (Bool × List Tc)} {vs : List V} (h : okA (x :: r) vs) : ∃ v ws, vs = v :: ws ∧ (if x.1 = true then okL x.2 [v] else ∃ us, v = .agg us ∧ okL x.2 us) ∧ okA r ws := by
  cases vs with
  | nil => simp [okA] at h
  | cons v ws => exact ⟨v, ws, rfl, h⟩
theorem okA_nil {vs : List V} (h : okA [] vs) : vs = [] := by
  cases vs with
  | nil => rfl
  | cons v ws => simp [okA] at h
abbrev aC : Bool × List Tc := (true, [.lst false tcC])
abbrev aS : Bool × List Tc := (true, [.str])
theorem okA_C {r : List (Bool × List Tc)} {vs : List V} (h : okA (aC :: r) vs) : ∃ (l : List Cls) (ws : List V), vs = .lst false 6 (l.map eC) :: ws ∧ l.length < 4611686018427387904 ∧ (∀ y ∈ l, bigC y) ∧ okA r ws := by
  obtain ⟨v, ws, rfl, h1, h2⟩ := okA_cons h
  simp only [if_true] at h1
  obtain ⟨l, rfl, hl, hq⟩ := okC_lst h1.1 fun vs => decC
  exact ⟨l, ws, rfl, by omega, hq, h2⟩
theorem okA_S {r : List (Bool × List Tc)} {vs : List V} (h : okA (aS :: r) vs) : ∃ (l : Str) (ws : List V), vs = .str l :: ws ∧ l.length < 4611686018427387904 ∧ okA r ws := by
  obtain ⟨v, ws, rfl, h1, h2⟩ := okA_cons h
  simp only [if_true] at h1
  obtain ⟨l, rfl, hl⟩ := okC_str h1.1
  exact ⟨l, ws, rfl, by omega, h2⟩
end Go.Proofs
namespace Go.Proofs.YtfannbjeleonkaaGreat
open Go Go.Ev Go.Proofs Go.RowKit Go.ChangeShapes Go.WideShapes
theorem s_k1 : ownKnob Tryz.checked.prog.godebug = none := by kernel_rfl
theorem s_h2 : laidOutB Tryz.checked.prog = true := by kernel_rfl
theorem s_h3 : mapsRowed Tryz.checked.prog = true := by kernel_rfl
theorem s_h6 : ((Rows.fnExactCommonOfRow.stops == []) && (Tryz.checked.prog.stops == []) && (Rows.fnExactCommonOfRow.knobs == []) && (Tryz.checked.prog.stopKnobs == [])) = true := by kernel_rfl
theorem s_h20 : (Rows.fnExactCommonOfRow.plainKeys == Tryz.checked.prog.plainKeys) = true := by kernel_rfl
theorem s_h21 : (Rows.fnExactCommonOfRow.shortTexts.isNone && Tryz.checked.prog.stopsHeard) = true := by kernel_rfl
theorem s_h21b : Tryz.checked.prog.mayEnter = true := by kernel_rfl
theorem s_h22 : (Rows.fnExactCommonOfRow.lifted == Tryz.checked.prog.liftsFinal) = true := by kernel_rfl
theorem s_h23 : (Tryz.checked.prog.make == some Rows.fnExactCommonOfRow.make) = true := by kernel_rfl
end Go.Proofs.YtfannbjeleonkaaGreat
namespace Go.Proofs
open Go Go.Ev


theorem cb_spec_l05FindMethod : Callable Tryz.prog 69 := ⟨_, Tryz.func69, by kernel_rfl, by kernel_rfl⟩
theorem ct_spec_l05FindMethod {l : List Cls} {c n d : Str} (hl : sizeL l ≤ 1099511627776) (hw : rightW l = true) : Ct Tryz.prog 69 [.lst false 6 (l.map eC), .str c, .str n, .str d] [] (eFd (fmL l n d (chain l c)).1) [] := by
  have hll : l.length ≤ 1099511627776 := by unfold sizeL at hl; omega
  have hsz : ∀ {k : Nat} (h : k < l.length), sizeC l[k] ≤ 1099511627776 := fun h => Nat.le_trans (sizeL_at h) hl
  refine Ct_bodyS tok Tryz.func69 rfl 55 (by kernel_rfl) (by kernel_rfl) fun X hX => ?_
  refine jq [0, 1, 2, 3, 8] ?_
  refine W_seq (W_rseqK [0, 1, 2, 3, 8, 21] (jt 1 (k:=(jc [] (c:=(by apply ct_spec_l05Built <;> first | assumption | omega | exact hsz hp | (have := hsz hp; simp only [sizeC] at this; omega))) (a:=cb_spec_l05Built) (k:=(jt 2 (k:=(jm 3 14 [0, 1, 2, 3, 8, 17] (p:=fun b1_4 => by (try simp at b1_4); exact (jh hX (by simp [-atD_lt, -atL_lt]; rfl))) (q:=fun b1_4 => by (try simp at b1_4); exact (jh hX (by simp [-atD_lt, -atL_lt]; rfl))) (k:=(jt 1 (k:=(jm 3 18 [0, 1, 2, 3, 8, 21] (p:=fun b1_8 => by (try simp at b1_8); exact (jh hX (by simp [-atD_lt, -atL_lt]; rfl))) (q:=fun b1_8 => by (try simp at b1_8); exact (jh hX (by simp [-atD_lt, -atL_lt]; rfl))) (k:=jf)))))))))))) ?_)
  refine jd (fun h1 => ?_) (fun h1 => ?_)
  · try simp at h1
    refine W_rseqK [8] (jh hX (by simp [h1]; rfl)) ?_
    refine W_ret (je (by simp [h1]; rfl) ?_)
    obtain ⟨⟨e1, e2⟩, e3⟩ := h1
    rw [fm_built hw e1 e2 e3]
    rfl
  · try simp at h1
    refine W_skip (W_seq (W_rseqK [0, 2, 3, 8, 9] (jt 2 (k:=(jc [] (c:=(by apply ct_spec_l05Find <;> first | assumption | omega | exact hsz hp | (have := hsz hp; simp only [sizeC] at this; omega))) (a:=cb_spec_l05Find) (k:=jr)))) ?_))
    refine W_block (W_loopU (α := Int) [0, 2, 3, 8, 9] (fun k => [(9, .int .i64 k)]) (fun k => []) (fun k => (-1 ≤ k ∧ k < l.length) ∧ fmU l n d k = (fmL l n d (chain l c)).1) (fun k => rkU l k) (findFrom c l 0) (fun k => by simp; rfl) (by simp) ?_ ?_)
    · exact ⟨findFrom_ge, fm_start hw (by simpa [init, descV] using h1)⟩
    rintro k ⟨hk, hI⟩
    refine W_seq (jq [0, 2, 3, 8, 9, 28] ?_)
    refine jd (fun h4 => ?_) (fun h4 => ?_)
    · try simp at h4
      obtain ⟨p, rfl⟩ : ∃ j : Nat, k = j := ⟨k.toNat, by omega⟩
      have hp : p < l.length := by omega
      rw [fmU_go hw hp] at hI
      refine W_skip (W_seq (W_block (W_rseqK [0, 2, 3, 8, 9, 10] (js hX 6 (by simp [h1, h4, hp]; rfl) (jc [] (c:=(by apply ct_spec_l05Method <;> first | assumption | omega | exact hsz hp | (have := hsz hp; simp only [sizeC] at this; omega))) (a:=cb_spec_l05Method) (k:=jr))) ?_)))
      refine W_seq (jq [0, 2, 3, 8, 9, 10, 44] ?_)
      refine jd (fun h7 => ?_) (fun h7 => ?_)
      · try simp at h7
        refine W_rseqK [8] (jh hX (by simp [h1, h4, hp, h7]; rfl)) ?_
        refine W_ret (je (by simp [h1, h4, hp, h7]; rfl) ?_)
        rw [if_pos (by simpa [hp] using h7)] at hI
        rw [← hI]
        simp [hp]
      · try simp at h7
        rw [if_neg (by simpa [hp] using h7)] at hI
        refine W_skip (jq [0, 2, 3, 8, 9, 53] ?_)
        refine jd (fun h9 => ?_) (fun h9 => ?_)
        · try simp at h9
          refine W_exit (W_rseqK [8] (jh hX (by simp [h1, h4, hp, h7]; rfl)) ?_)
          refine W_ret (je (by simp [h1, h4, hp, h7]; rfl) ?_)
          first
            | (rw [if_pos (by simpa [init] using h9)] at hI; rw [← hI]; rfl)
            | (rw [← hI, fmU_neg (by omega)]; rfl)
        · try simp at h9
          rw [if_neg (by simpa [init] using h9)] at hI
          refine W_skip (W_reg (js hX 6 (by simp [h1, h4, hp, h7]; rfl) (jc [] (c:=(by apply ct_spec_l05Find <;> first | assumption | omega | exact hsz hp | (have := hsz hp; simp only [sizeC] at this; omega))) (a:=cb_spec_l05Find) (k:=jr))) ?_)
          refine round_end (nxt l p) [0, 2, 3, 8, 9] (by simp [nxt_nat, hp]) ?_ ?_
          · exact ⟨@nxt_ge l p, hI⟩
          · exact rkU_lt hw hp
    · try simp at h4
      refine W_exit (W_rseqK [8] (jh hX (by simp [h1, h4]; rfl)) ?_)
      refine W_ret (je (by simp [h1, h4]; rfl) ?_)
      first
        | (rw [if_pos (by simpa [init] using h9)] at hI; rw [← hI]; rfl)
        | (rw [← hI, fmU_neg (by omega)]; rfl)
end Go.Proofs
namespace Go.Proofs
open Go Go.Ev


theorem cb_spec_FindMethod : Callable Tryz.prog 20 := ⟨_, Tryz.func20, by kernel_rfl, by kernel_rfl⟩
theorem ct_spec_FindMethod {l : List Cls} {c n d : Str} (hl : sizeL l ≤ 1099511627776) (hc : c.length ≤ 1099511627776) (hn : n.length ≤ 1099511627776) (hd : d.length ≤ 1099511627776) : Ct Tryz.prog 20 [.lst false 6 (l.map eC), .str c, .str n, .str d] [] (eFd (fmW l c n d)) [] := by
  have hll : l.length ≤ 1099511627776 := by unfold sizeL at hl; omega
  refine Ct_bodyS tok Tryz.func20 rfl 37 (by kernel_rfl) (by kernel_rfl) fun X hX => ?_
  refine jq [0, 1, 2, 3, 8] ?_
  refine W_seq (W_rseqK [0, 1, 2, 3, 8, 26] (jt 4 (k:=(jm 4 12 [0, 1, 2, 3, 8, 16] (p:=fun b1_4 => by (try simp at b1_4); exact (jh hX (by simp [-atD_lt, -atL_lt]; rfl))) (q:=fun b1_4 => by (try simp at b1_4); exact (jh hX (by simp [-atD_lt, -atL_lt, b1_4]; rfl))) (k:=(jt 1 (k:=(jm 4 17 [0, 1, 2, 3, 8, 21] (p:=fun b1_9 => by (try simp at b1_9); exact (jh hX (by simp [-atD_lt, -atL_lt]; rfl))) (q:=fun b1_9 => by (try simp at b1_9); exact (jh hX (by simp [-atD_lt, -atL_lt, b1_9]; rfl))) (k:=(jt 1 (k:=(jm 4 22 [0, 1, 2, 3, 8, 26] (p:=fun b1_14 => by (try simp at b1_14); exact (jh hX (by simp [-atD_lt, -atL_lt]; rfl))) (q:=fun b1_14 => by (try simp at b1_14); exact (jh hX (by simp [-atD_lt, -atL_lt, b1_14]; rfl))) (k:=jf)))))))))))) ?_)
  refine jd (fun h1 => ?_) (fun h1 => ?_)
  · try simp at h1
    refine W_rseqK [8] (jh hX (by simp [h1]; rfl)) ?_
    refine W_ret (je (by simp [h1]; rfl) ?_)
    simp only [fmW, szFd, zFd]
    (try simp_all) <;> grind
  · try simp at h1
    refine W_skip (W_seq (W_rseqK [0, 1, 2, 3, 8, 30] (jt 1 (k:=(jc [] (c:=(by apply ct_spec_l05Right <;> first | assumption | omega | (simp at *; omega) | simp_all)) (a:=cb_spec_l05Right) (k:=jr)))) ?_))
    refine jd (fun h3 => ?_) (fun h3 => ?_)
    · try simp at h3
      refine W_rseqK [8] (jh hX (by simp [h1]; rfl)) ?_
      refine W_ret (je (by simp [h1]; rfl) ?_)
      simp only [fmW, szFd, zFd]
      (try simp_all) <;> grind
    · try simp at h3
      refine W_skip (W_rseqK [8] (jt 4 (k:=(jc [] (c:=(by apply ct_spec_l05FindMethod <;> first | assumption | omega | (simp at *; omega) | simp_all)) (a:=cb_spec_l05FindMethod) (k:=(jh hX (by simp [h1]; rfl)))))) ?_)
      refine W_ret (je (by simp [h1]; rfl) ?_)
      simp only [fmW, szFd, zFd]
      (try simp_all) <;> grind
end Go.Proofs
namespace Go.Proofs
open Go Go.Ev


theorem cb_impl_isList_impl_Class : Callable Tryz.prog 70 := ⟨_, Tryz.func70, by kernel_rfl, by kernel_rfl⟩
theorem ct_impl_isList_impl_Class {l : List Cls} : Ct Tryz.prog 70 [.lst false 6 (l.map eC)] [] (.bool (decide (l.length ≤ 400))) [] := by
  refine Ct_bodyS tok Tryz.func70 rfl 6 (by kernel_rfl) (by kernel_rfl) fun X hX => ?_
  refine jq [0] ?_
  refine jq [2] ?_
  refine W_ret (je0 ?_)
  simp
end Go.Proofs
namespace Go.Proofs
open Go Go.Ev


theorem cb_impl_world_findMethod : Callable Tryz.prog 71 := ⟨_, Tryz.func71, by kernel_rfl, by kernel_rfl⟩
theorem ct_impl_world_findMethod {l : List Cls} (hl : l.length ≤ 1048576) (hs : sizeL l ≤ 1099511627776) {c n d : Str} : Ct Tryz.prog 71 [wv l, .str c, .str n, .str d] [] (.tup [eFd (fmL l n d (chain l c)).1, eM (fmL l n d (chain l c)).2]) [] := by
  have hcl := chain_len l c
  refine Ct_bodyS tok Tryz.func71 rfl 58 (by kernel_rfl) (by kernel_rfl) fun X hX => ?_
  refine W_rseqK [0, 1, 2, 3, 8, 9] (jh hX (by simp [fix_mth]; rfl)) ?_
  refine W_seq (W_rseqK [0, 2, 3, 8, 9, 17, 18, 19] (js hX 2 (by simp [fix_mth]; rfl) (Runs.callF rfl (by simp) rfl (by simp [fix_mth]; rfl) (by apply ct_impl_world_chain <;> first | assumption | omega | exact clsOf_sizes hs) cb_impl_world_chain (by simp [fix_mth]; rfl) (jh hX (by simp [fix_mth]; rfl)))) ?_)
  refine W_block (W_loopU (α := Nat) [0, 2, 3, 8, 9, 17, 18, 19] (fun i => [(19, .int .i64 i)]) (fun i => []) (fun i => i ≤ (chain l c).length ∧ fmL l n d ((chain l c).drop i) = fmL l n d (chain l c)) (fun i => (chain l c).length - i) (0) (fun i => by simp; rfl) (by simp) ?_ ?_)
  · simp
  rintro i ⟨hi, hI⟩
  refine W_rseqK [0, 2, 3, 8, 9, 17, 18, 19, 20] (jh hX (by simp [fix_mth]; rfl)) ?_
  refine W_seq (jd (fun h2 => ?_) (fun h2 => ?_))
  · try simp at h2
    rw [List.drop_eq_getElem_cons h2] at hI
    simp only [fmL] at hI
    refine W_skip (W_seq (W_block (W_rseqK [0, 2, 3, 8, 9, 11, 17, 18, 19] (jh hX (by simp [h2, fix_mth]; rfl)) ?_)))
    refine W_rseqK [0, 2, 3, 8, 9, 11, 12, 17, 18, 19] (js hX 2 (by simp [fix_mth]; rfl) (Runs.callF rfl (by simp) rfl (by simp [fix_mth]; rfl) (by apply ct_impl_world_class <;> first | assumption | omega | exact clsOf_sizes hs) cb_impl_world_class (by simp [fix_mth]; rfl) (jh hX (by simp [h2, fix_mth]; rfl)))) ?_
    refine W_seq (W_rseqK [0, 2, 3, 8, 9, 11, 12, 14, 17, 18, 19] (js hX 3 (by simp [h2, fix_mth]; rfl) (Runs.call [] rfl (by simp) rfl (by simp [fix_mth]; rfl) (by simp; rfl) (by apply ct_impl_Class_methodAt <;> first | assumption | omega | exact clsOf_sizes hs) cb_impl_Class_methodAt (by simp) (by simp) (by simp [fix_mth]; rfl) (jh hX (by simp [fix_mth]; rfl)))) ?_)
    refine W_rseqK [0, 2, 3, 8, 9, 11, 12, 14, 17, 18, 19, 34] (jh hX (by simp [fix_mth]; rfl)) ?_
    refine jd (fun h6 => ?_) (fun h6 => ?_)
    · try simp at h6
      rw [if_pos h6] at hI
      rw [← hI]
      obtain ⟨j, hj, hjm⟩ := mthFrom_nat h6
      refine jL 9 [0, 1, 2, 3, 4, 5, 6, 7] [8] [8, 9] ([2]) hX (by simp [h2, h6, hj, hjm, fix_mth]; rfl) (jH (p:=fun X hX => (jh hX (by simp [h2, h6, hj, hjm, fix_mth]; rfl))) (k:=.nil)) (jh hX (by simp [h2, h6, hj, hjm, fix_mth]; rfl)) ?_
      refine W_ret (W_retR (by simp [h2, h6, hj, hjm, fix_mth]; rfl) ?_ rfl)
      simp only [hjm]
      simp [hj]
      exact Wk.refl _
    · try simp at h6
      rw [if_neg (by omega)] at hI
      refine W_skip (W_rseqK [0, 2, 3, 8, 9, 11, 17, 18, 19, 44] (jh hX (by simp [fix_mth]; rfl)) ?_)
      refine jd (fun h8 => ?_) (fun h8 => ?_)
      · try simp at h8
        rw [if_pos (by simpa [init] using h8)] at hI
        refine W_seq (W_rseqK [3, 8, 9, 11, 50] (js hX 1 (by simp [fix_mth]; rfl) (Runs.call [] rfl (by simp) rfl (by simp [fix_mth]; rfl) (by simp; rfl) (by apply ct_impl_isBuiltIn <;> first | assumption | omega | exact clsOf_sizes hs) cb_impl_isBuiltIn (by simp) (by simp) (by simp [fix_mth]; rfl) (js hX 1 (by simp [fix_mth]; rfl) (jm 3 47 [3, 8, 9, 11, 50] (p:=fun b9_3 => by (try simp at b9_3); exact (jh hX (by simp [-atD_lt, -atL_lt, fix_mth]; rfl))) (q:=fun b9_3 => by (try simp at b9_3); exact (jh hX (by simp [-atD_lt, -atL_lt, fix_mth]; rfl))) (k:=jf))))) ?_)
        refine jd (fun h9 => ?_) (fun h9 => ?_)
        · try simp at h9
          rw [if_pos (by simpa [descV] using h9)] at hI
          rw [← hI]
          refine W_rseqK [8, 9] (jh hX (by simp [h2, h6, fix_mth]; rfl)) ?_
          refine W_ret (W_retR (by simp [h2, h6, fix_mth]; rfl) ?_ rfl)
          exact Wk.tup (.cons (Wk.refl _) (.cons (wk_bareM _ _) .nil))
        · try simp at h9
          rw [if_neg (by simpa [descV] using h9)] at hI
          rw [← hI]
          refine W_skip (W_exit (W_rseqK [8, 9] (jh hX (by simp [h2, h6, fix_mth]; rfl)) ?_))
          refine W_ret (W_retR (by simp [h2, h6, fix_mth]; rfl) ?_ rfl)
          exact Wk.tup (.cons (Wk.refl _) (.cons wk_zM .nil))
      · try simp at h8
        rw [if_neg (by simpa [init] using h8)] at hI
        refine W_skip (W_reg (jh hX (by simp [fix_mth]; (try (simp (disch := omega) only [wrap_i64]; (try simp [fix_mth]))); rfl)) ?_)
        refine round_endT (i + 1) [0, 2, 3, 8, 9, 17, 18, 19] 2 (by simp [hX]) (by simp) (by simp [h2, h6]; try (simp (disch := omega) only [wrap_i64])) ?_ ?_
        · exact ⟨by omega, hI⟩
        · omega
  · try simp at h2
    rw [List.drop_eq_nil_of_le h2] at hI
    simp only [fmL] at hI
    rw [← hI]
    refine W_exit (W_rseqK [8, 9] (jh hX (by simp [h2, fix_mth]; rfl)) ?_)
    refine W_ret (W_retR (by simp [h2, fix_mth]; rfl) ?_ rfl)
    exact Wk.tup (.cons (Wk.refl _) (.cons wk_zM .nil))
end Go.Proofs
namespace Go.Proofs
open Go Go.Ev


theorem cb_impl_FindMethod : Callable Tryz.prog 21 := ⟨_, Tryz.func21, by kernel_rfl, by kernel_rfl⟩
theorem ct_impl_FindMethod {l : List Cls} (hl : l.length ≤ 1048576) (hs : sizeL l ≤ 1099511627776) {c n d : Str} (hc : c.length ≤ 1099511627776) (hn : n.length ≤ 1099511627776) (hd : d.length ≤ 1099511627776) : Ct Tryz.prog 21 [.lst false 6 (l.map eC), .str c, .str n, .str d] [] (eFd (fmW l c n d)) [] := by
  refine Ct_bodyS tok Tryz.func21 rfl 42 (by kernel_rfl) (by kernel_rfl) fun X hX => ?_
  refine jq [0, 1, 2, 3, 8] ?_
  refine W_seq (W_rseqK [0, 1, 2, 3, 8, 23] (jt 1 (k:=(jc [] (c:=(by apply ct_impl_isList_impl_Class <;> first | assumption | omega | (simp at *; omega) | simp_all)) (a:=cb_impl_isList_impl_Class) (k:=(jt 2 (k:=(jm 7 16 [0, 1, 2, 3, 8, 23] (p:=fun b1_4 => by (try simp at b1_4); exact (jh hX (by simp [-atD_lt, -atL_lt]; rfl))) (q:=fun b1_4 => by (try simp at b1_4); exact (js hX 4 (by simp [-atD_lt, -atL_lt]; rfl) (Runs.callB rfl (by simp) rfl (by simp [-atD_lt, -atL_lt]; rfl) (by apply (ct_impl_isText (l := [c, n, d])) <;> simp) cb_impl_isText (by simp) (by simp [-atD_lt, -atL_lt]; rfl) (jh hX (by simp [-atD_lt, -atL_lt]; rfl))))) (k:=jf)))))))) ?_)
  refine jd (fun h1 => ?_) (fun h1 => ?_)
  · try simp at h1
    refine jq [8] ?_
    refine W_ret (je0 ?_)
    simp only [fmW, szFd, zFd]
    (try simp_all) <;> grind
  · try simp at h1
    refine W_skip (W_rseqK [1, 2, 3, 8, 9, 10] (jt 1 (k:=(jc [] (c:=(by apply ct_impl_rightWorld <;> first | assumption | omega | (simp at *; omega) | simp_all)) (a:=cb_impl_rightWorld) (k:=jr)))) ?_)
    refine W_seq (jq [1, 2, 3, 8, 9, 31] ?_)
    refine jd (fun h4 => ?_) (fun h4 => ?_)
    · try simp at h4
      refine jq [8] ?_
      refine W_ret (je0 ?_)
      simp only [fmW, szFd, zFd]
      (try simp_all) <;> grind
    · try simp at h4
      refine W_skip (W_rseqK [8, 11] (jt 4 (k:=(jF (c:=(by apply ct_impl_world_findMethod <;> first | assumption | omega | (simp at *; omega) | simp_all)) (a:=cb_impl_world_findMethod) (k:=jr)))) ?_)
      refine jq [8] ?_
      refine W_ret (je0 ?_)
      simp only [fmW, szFd, zFd]
      (try simp_all) <;> grind
end Go.Proofs
namespace Go.Proofs
open Go Go.Ev


theorem cb_laws_eqFound : Callable Tryz.prog 22 := ⟨_, Tryz.func22, by kernel_rfl, by kernel_rfl⟩
theorem ct_laws_eqFound {x y : Fnd} : Ct Tryz.prog 22 [eFd x, eFd y] [] (.bool (decide (x = y))) [] := by
  refine Ct_bodyS tok Tryz.func22 rfl 20 (by kernel_rfl) (by kernel_rfl) fun X hX => ?_
  refine jq [2, 3] ?_
  refine W_seq (jq [2, 3, 9] ?_)
  refine jd (fun h1 => ?_) (fun h1 => ?_)
  · try simp at h1
    refine jq [4] ?_
    refine W_ret (je0 ?_)
    (try simp at *) <;> cases x <;> cases y <;> simp_all
  · try simp at h1
    refine W_skip (W_seq (jq [2, 3, 14] ?_))
    refine jd (fun h3 => ?_) (fun h3 => ?_)
    · try simp at h3
      refine jq [4] ?_
      refine W_ret (je0 ?_)
      (try simp at *) <;> cases x <;> cases y <;> simp_all
    · try simp at h3
      refine W_skip (W_seq (jq [19] ?_))
      refine jd (fun h5 => ?_) (fun h5 => ?_)
      · try simp at h5
        refine jq [4] ?_
        refine W_ret (je0 ?_)
        (try simp at *) <;> cases x <;> cases y <;> simp_all
      · try simp at h5
        refine W_skip (jq [4] ?_)
        refine W_ret (je0 ?_)
        (try simp at *) <;> cases x <;> cases y <;> simp_all
end Go.Proofs
namespace Go.Proofs
open Go Go.Ev


theorem cb_laws_FnExactFindMethod : Callable Tryz.prog 4 := ⟨_, Tryz.func4, by kernel_rfl, by kernel_rfl⟩
theorem ct_laws_FnExactFindMethod {l : List Cls} {c : Str} {n : Str} {d : Str} (h : l.length < 4611686018427387904) (hb : ∀ y ∈ l, bigC y) (hc : c.length < 4611686018427387904) (hn : n.length < 4611686018427387904) (hd : d.length < 4611686018427387904) : Ct Tryz.prog 4 [.lst false 6 (l.map eC), .str c, .str n, .str d] [] (.bool true) [] := by
  refine Ct_bodyS tok Tryz.func4 rfl 49 (by kernel_rfl) (by kernel_rfl) fun X hX => ?_
  refine jq [0, 1, 2, 3] ?_
  refine W_seq (jq [0, 1, 2, 3, 15] ?_)
  refine jd (fun h1 => ?_) (fun h1 => ?_)
  · try simp at h1
    refine jq [8] ?_
    refine W_ret (je (by simp [h1]; rfl) ?_)
    simp_all
  · try simp at h1
    refine W_skip (W_seq (W_rseqK [0, 1, 2, 3, 18] (jh hX (by simp [h1]; rfl)) ?_))
    refine jd (fun h3 => ?_) (fun h3 => ?_)
    · try simp at h3
      refine jq [8] ?_
      refine W_ret (je (by simp [h1, h3]; rfl) ?_)
      simp_all
    · try simp at h3
      refine W_skip (W_seq (W_rseqK [0, 1, 2, 3, 21] (jh hX (by simp [h1, h3]; rfl)) ?_))
      refine jd (fun h5 => ?_) (fun h5 => ?_)
      · try simp at h5
        refine jq [8] ?_
        refine W_ret (je (by simp [h1, h3, h5]; rfl) ?_)
        simp_all
      · try simp at h5
        refine W_skip (jq [0, 1, 2, 3, 9] ?_)
        refine W_rseqK [0, 1, 2, 3, 9] (jt 2 (k:=(jc [] (c:=(by apply ct_laws_szClassS <;> first | assumption | omega)) (a:=cb_laws_szClassS) (k:=jr)))) ?_
        refine W_seq (jq [0, 1, 2, 3, 26] ?_)
        refine jd (fun h9 => ?_) (fun h9 => ?_)
        · try simp at h9
          refine jq [8] ?_
          refine W_ret (je (by simp [h1, h3, h5, h9]; rfl) ?_)
          simp_all
        · try simp at h9
          have hsz : l.length + (l.map sizeC).sum ≤ 1048576 := by unfold sub at h9; split at h9 <;> omega
          have hsL : sizeL l ≤ 1048576 := hsz
          refine W_skip (W_rseqK [0, 1, 2, 3, 10] (jt 1 (k:=(jF (c:=(by apply ct_laws_toClassS <;> first | assumption | omega | exact fun y hy => Nat.le_trans (mem_sum hy) (by omega))) (a:=cb_laws_toClassS) (k:=(jt 3 (k:=(jc [] (c:=(by apply ct_spec_FindMethod <;> first | assumption | omega)) (a:=cb_spec_FindMethod) (k:=(jh hX (by simp [h1, h3, h5, h9]; rfl)))))))))) ?_)
          refine W_rseqK [0, 1, 2, 3, 10, 11] (jt 1 (k:=(jF (c:=(by apply ct_laws_toClassS <;> first | assumption | omega | exact fun y hy => Nat.le_trans (mem_sum hy) (by omega))) (a:=cb_laws_toClassS) (k:=jr)))) ?_
          refine W_rseqK [0, 10, 11, 12] (jt 4 (k:=(jc [] (c:=(by apply ct_impl_FindMethod <;> first | assumption | omega)) (a:=cb_impl_FindMethod) (k:=(jh hX (by simp [h1, h3, h5, h9]; rfl)))))) ?_
          refine W_seq (W_rseqK [0, 11, 43] (js hX 2 (by simp [h1, h3, h5, h9]; rfl) (jc [] (c:=(by apply ct_laws_eqFound <;> first | assumption | omega)) (a:=cb_laws_eqFound) (k:=jr))) ?_)
          refine jd (fun h14 => ?_) (fun h14 => ?_)
          · try simp at h14
            all_goals
              refine jq [8] ?_
              refine W_ret (je (by simp [h1, h3, h5, h9]; rfl) ?_)
              simp_all
          · try simp at h14
            all_goals
              refine W_skip (W_seq (W_rseqK [48] (jt 2 (k:=(jF (c:=(by apply ct_laws_toClassS <;> first | assumption | omega | exact fun y hy => Nat.le_trans (mem_sum hy) (by omega))) (a:=cb_laws_toClassS) (k:=(jc [] (c:=(by apply ct_laws_eqClassS <;> first | assumption | omega)) (a:=cb_laws_eqClassS) (k:=jr)))))) ?_))
              refine jd (fun h16 => ?_) (fun h16 => ?_)
              · try simp at h16
                all_goals
                  refine jq [8] ?_
                  refine W_ret (je (by simp [h1, h3, h5, h9]; rfl) ?_)
                  simp_all
              · try simp at h16
                all_goals
                  refine W_skip (jq [8] ?_)
                  refine W_ret (je (by simp [h1, h3, h5, h9]; rfl) ?_)
                  simp_all
end Go.Proofs
namespace Go.Proofs
open Go Go.Ev
theorem sub_ok {z : Int} {n : Nat} (h : 0 ≤ sub z n) : (n : Int) ≤ z ∧ sub z n = z - n := by
  unfold sub at h ⊢; split at h <;> omega
structure Frm where
  stack : List Typ
  locals : List Typ
  deriving DecidableEq, Inhabited
def eFr (x : Frm) : V := .agg [.lst false 3 (x.stack.map eT), .lst false 3 (x.locals.map eT)]
def oFr (x : Frm) : V := .agg [.lst true 3 (x.stack.map eT), .lst true 3 (x.locals.map eT)]
attribute [simp] eFr oFr
def sizeFr (x : Frm) : Nat := (x.stack.length + (x.stack.map sizeT).sum) + (x.locals.length + (x.locals.map sizeT).sum)
def bigFr (x : Frm) : Prop := x.stack.length < 4611686018427387904 ∧ (∀ y ∈ x.stack, bigT y) ∧ x.locals.length < 4611686018427387904 ∧ (∀ y ∈ x.locals, bigT y)
@[simp] theorem pureL_eFr (l : List Frm) : pureL (l.map eFr) = true := pureL_map _ (fun _ => rfl) l
@[simp] theorem fzL_eFr (l : List Frm) : fzL (l.map eFr) = l.map eFr := fzL_mapf _ (fun _ => rfl) l
@[simp] theorem jkL_eFr (p : Nat → Bool) (l : List Frm) : jkL p (l.map eFr) = l.map eFr := jkL_mapf p _ (fun _ => rfl) l
theorem fz_oFr (x : Frm) : (oFr x).fz = eFr x := by simp [oFr, eFr, V.fz, fzL]
/-- a frame is right -/
def frmR (l : List Cls) (f : Frm) : Bool := decide (f.stack.length ≤ 16) && (decide (f.locals.length ≤ 16) && (f.stack.all (knownT l) && f.locals.all (knownT l)))
def frmRightW (l : List Cls) (f : Frm) : Bool := rightW l && frmR l f
def leLs (r : Typ → Typ → Bool) : List Typ → List Typ → Bool
  | [], [] => true
  | a :: as', b :: bs => r a b && leLs r as' bs
  | _, _ => false
def frmLeW (l : List Cls) (a b : Frm) : Bool := frmRightW l a && (frmR l b && (leLs (leT l) a.stack b.stack && leLs (leT l) a.locals b.locals))
theorem leLs_ne {r : Typ → Typ → Bool} : ∀ {a b : List Typ}, a.length ≠ b.length → leLs r a b = false
  | [], [], h => absurd rfl h
  | [], _ :: _, _ => rfl
  | _ :: _, [], _ => rfl
  | _ :: as', _ :: bs, h => by simp only [leLs]; rw [leLs_ne (by simpa using h), Bool.and_false]
theorem leLs_drop {r : Typ → Typ → Bool} {a b : List Typ} {i : Nat} (h : i < a.length) (e : a.length = b.length) : leLs r (a.drop i) (b.drop i) = (r a[i] b[i] && leLs r (a.drop (i + 1)) (b.drop (i + 1))) := by
  rw [List.drop_eq_getElem_cons h, List.drop_eq_getElem_cons (show i < b.length by omega)]; rfl
theorem leLs_end {r : Typ → Typ → Bool} {a b : List Typ} {i : Nat} (h : a.length ≤ i) (e : a.length = b.length) : leLs r (a.drop i) (b.drop i) = true := by
  rw [List.drop_eq_nil_of_le h, List.drop_eq_nil_of_le (show b.length ≤ i by omega)]; rfl
theorem leLs_eq {l : List Cls} : ∀ {a b : List Typ}, a.all (knownT l) = true → b.all (knownT l) = true → leLs (leI l) a b = leLs (leT l) a b
  | [], [], _, _ => rfl
  | [], _ :: _, _, _ => rfl
  | _ :: _, [], _, _ => rfl
  | x :: as', y :: bs, ha, hb => by
    simp only [List.all_cons, Bool.and_eq_true] at ha hb
    simp only [leLs]; rw [le_eq ha.1 hb.1, leLs_eq ha.2 hb.2]
theorem frmLeW_of (l : List Cls) (a b : Frm) : (rightW l && frmR l a && frmR l b && leLs (leI l) a.stack b.stack && leLs (leI l) a.locals b.locals) = frmLeW l a b := by
  unfold frmLeW frmRightW
  by_cases h : frmR l a = true ∧ frmR l b = true
  · have h1 := h.1
    have h2 := h.2
    simp only [frmR, Bool.and_eq_true] at h1 h2
    rw [leLs_eq h1.2.2.1 h2.2.2.1, leLs_eq h1.2.2.2 h2.2.2.2]
    simp only [Bool.and_assoc]
  · cases h1 : frmR l a <;> cases h2 : frmR l b <;> simp_all
theorem any_not {α : Type} (p : α → Bool) (l : List α) : (l.any fun x => !p x) = !l.all p := any_not_all p l
end Go.Proofs
namespace Go.Proofs
open Go Go.Ev


theorem cb_laws_szType : Callable Tryz.prog 23 := ⟨_, Tryz.func23, by kernel_rfl, by kernel_rfl⟩
theorem ct_laws_szType {x : Typ} {z : Int} (h : bigT x) (h0 : 0 ≤ z) (h1 : z ≤ 1099511627776) : Ct Tryz.prog 23 [eT x, .int .i64 z] [] (.int .i64 (sub z (sizeT x))) [] := by
  simp only [bigT] at h
  refine Ct_bodyS tok Tryz.func23 rfl 13 (by kernel_rfl) (by kernel_rfl) fun X hX => ?_
  refine jq [1, 2] ?_
  refine W_rseqK [1] (jh hX (by simp; (try (simp (disch := omega) only [wrap_i64]; (try simp))); rfl)) ?_
  refine W_seq (jq [1, 11] ?_)
  refine jd (fun h2 => ?_) (fun h2 => ?_)
  · try simp at h2
    refine jq [4] ?_
    refine W_ret (je (by simp [h2]; rfl) ?_)
    simp [sub, sizeT] at *; omega
  · try simp at h2
    refine W_skip (jq [4] ?_)
    refine W_ret (je (by simp [h2]; rfl) ?_)
    simp [sub, sizeT] at *; omega
end Go.Proofs
namespace Go.Proofs
open Go Go.Ev


theorem cb_spec_l06Known : Callable Tryz.prog 73 := ⟨_, Tryz.func73, by kernel_rfl, by kernel_rfl⟩
theorem ct_spec_l06Known {l : List Cls} {t : Typ} (hl : l.length ≤ 1099511627776) : Ct Tryz.prog 73 [.lst false 6 (l.map eC), eT t] [] (.bool (knownT l t)) [] := by
  refine Ct_bodyS tok Tryz.func73 rfl 49 (by kernel_rfl) (by kernel_rfl) fun X hX => ?_
  refine jq [0, 3] ?_
  refine W_seq (jq [0, 3, 6] ?_)
  refine W_block (W_seq (jq [0, 3, 6, 7] ?_))
  refine jd (fun h2 => ?_) (fun h2 => ?_)
  · try simp at h2
    refine W_skip (jd (fun h2_1 => ?_) (fun h2_1 => ?_))
    · try simp at h2_1
      refine W_rseqK [4] (jt 4 (k:=(jm 4 16 [20] (p:=fun b7_4 => by (try simp at b7_4); exact (jh hX (by simp [-atD_lt, -atL_lt]; rfl))) (q:=fun b7_4 => by (try simp at b7_4); exact (jh hX (by simp [-atD_lt, -atL_lt]; rfl))) (k:=jr)))) ?_
      refine W_ret (je0 ?_)
      simp only [knownT]
      (try simp_all) <;> grind
    · try simp at h2_1
      refine W_seq (jq [0, 3, 6, 21] ?_)
      refine jd (fun h8 => ?_) (fun h8 => ?_)
      · try simp at h8
        refine W_skip (jd (fun h8_1 => ?_) (fun h8_1 => ?_))
        · try simp at h8_1
          refine W_rseqK [4] (jt 3 (k:=(jc [] (c:=(by apply ct_spec_l05Known <;> first | assumption | omega | (simp at *; omega) | simp_all)) (a:=cb_spec_l05Known) (k:=(jt 1 (k:=(jm 4 28 [32] (p:=fun b10_5 => by (try simp at b10_5); exact (jh hX (by simp [-atD_lt, -atL_lt]; rfl))) (q:=fun b10_5 => by (try simp at b10_5); exact (jh hX (by simp [-atD_lt, -atL_lt]; rfl))) (k:=jr)))))))) ?_
          refine W_ret (je0 ?_)
          simp only [knownT]
          (try simp_all) <;> grind
        · try simp at h8_1
          refine jq [0, 3, 33] ?_
          refine jd (fun h11 => ?_) (fun h11 => ?_)
          · try simp at h11
            refine W_rseqK [4] (jt 3 (k:=(jc [] (c:=(by apply ct_spec_l05Known <;> first | assumption | omega | (simp at *; omega) | simp_all)) (a:=cb_spec_l05Known) (k:=(jt 1 (k:=(jm 4 39 [3, 43] (p:=fun b12_5 => by (try simp at b12_5); exact (jh hX (by simp [-atD_lt, -atL_lt]; rfl))) (q:=fun b12_5 => by (try simp at b12_5); exact (jh hX (by simp [-atD_lt, -atL_lt]; rfl))) (k:=(jt 1 (k:=(jm 4 44 [48] (p:=fun b12_10 => by (try simp at b12_10); exact (jh hX (by simp [-atD_lt, -atL_lt, b12_10]; rfl))) (q:=fun b12_10 => by (try simp at b12_10); exact (jh hX (by simp [-atD_lt, -atL_lt]; rfl))) (k:=jr)))))))))))) ?_
            refine W_ret (je0 ?_)
            simp only [knownT]
            (try simp_all) <;> grind
          · try simp at h11
            refine W_skip (jq [4] ?_)
            refine W_ret (je0 ?_)
            simp only [knownT]
            (try simp_all) <;> grind
      · try simp at h8
        refine W_reg jr ?_
        refine jd (fun h9 => ?_) (fun h9 => ?_)
        · try simp at h9
          refine W_rseqK [4] (jt 3 (k:=(jc [] (c:=(by apply ct_spec_l05Known <;> first | assumption | omega | (simp at *; omega) | simp_all)) (a:=cb_spec_l05Known) (k:=(jt 1 (k:=(jm 4 28 [32] (p:=fun b10_5 => by (try simp at b10_5); exact (jh hX (by simp [-atD_lt, -atL_lt]; rfl))) (q:=fun b10_5 => by (try simp at b10_5); exact (jh hX (by simp [-atD_lt, -atL_lt]; rfl))) (k:=jr)))))))) ?_
          refine W_ret (je0 ?_)
          simp only [knownT]
          (try simp_all) <;> grind
        · try simp at h9
          refine jq [0, 3, 33] ?_
          refine jd (fun h11 => ?_) (fun h11 => ?_)
          · try simp at h11
            refine W_rseqK [4] (jt 3 (k:=(jc [] (c:=(by apply ct_spec_l05Known <;> first | assumption | omega | (simp at *; omega) | simp_all)) (a:=cb_spec_l05Known) (k:=(jt 1 (k:=(jm 4 39 [3, 43] (p:=fun b12_5 => by (try simp at b12_5); exact (jh hX (by simp [-atD_lt, -atL_lt]; rfl))) (q:=fun b12_5 => by (try simp at b12_5); exact (jh hX (by simp [-atD_lt, -atL_lt]; rfl))) (k:=(jt 1 (k:=(jm 4 44 [48] (p:=fun b12_10 => by (try simp at b12_10); exact (jh hX (by simp [-atD_lt, -atL_lt, b12_10]; rfl))) (q:=fun b12_10 => by (try simp at b12_10); exact (jh hX (by simp [-atD_lt, -atL_lt]; rfl))) (k:=jr)))))))))))) ?_
            refine W_ret (je0 ?_)
            simp only [knownT]
            (try simp_all) <;> grind
          · try simp at h11
            refine W_skip (jq [4] ?_)
            refine W_ret (je0 ?_)
            simp only [knownT]
            (try simp_all) <;> grind
  · try simp at h2
    refine jq [0, 3, 6, 7] ?_
    refine jd (fun h3 => ?_) (fun h3 => ?_)
    · try simp at h3
      refine W_skip (jd (fun h3_1 => ?_) (fun h3_1 => ?_))
      · try simp at h3_1
        refine W_rseqK [4] (jt 4 (k:=(jm 4 16 [20] (p:=fun b7_4 => by (try simp at b7_4); exact (jh hX (by simp [-atD_lt, -atL_lt]; rfl))) (q:=fun b7_4 => by (try simp at b7_4); exact (jh hX (by simp [-atD_lt, -atL_lt]; rfl))) (k:=jr)))) ?_
        refine W_ret (je0 ?_)
        simp only [knownT]
        (try simp_all) <;> grind
      · try simp at h3_1
        refine W_seq (jq [0, 3, 6, 21] ?_)
        refine jd (fun h8 => ?_) (fun h8 => ?_)
        · try simp at h8
          refine W_skip (jd (fun h8_1 => ?_) (fun h8_1 => ?_))
          · try simp at h8_1
            refine W_rseqK [4] (jt 3 (k:=(jc [] (c:=(by apply ct_spec_l05Known <;> first | assumption | omega | (simp at *; omega) | simp_all)) (a:=cb_spec_l05Known) (k:=(jt 1 (k:=(jm 4 28 [32] (p:=fun b10_5 => by (try simp at b10_5); exact (jh hX (by simp [-atD_lt, -atL_lt]; rfl))) (q:=fun b10_5 => by (try simp at b10_5); exact (jh hX (by simp [-atD_lt, -atL_lt]; rfl))) (k:=jr)))))))) ?_
            refine W_ret (je0 ?_)
            simp only [knownT]
            (try simp_all) <;> grind
          · try simp at h8_1
            refine jq [0, 3, 33] ?_
            refine jd (fun h11 => ?_) (fun h11 => ?_)
            · try simp at h11
              refine W_rseqK [4] (jt 3 (k:=(jc [] (c:=(by apply ct_spec_l05Known <;> first | assumption | omega | (simp at *; omega) | simp_all)) (a:=cb_spec_l05Known) (k:=(jt 1 (k:=(jm 4 39 [3, 43] (p:=fun b12_5 => by (try simp at b12_5); exact (jh hX (by simp [-atD_lt, -atL_lt]; rfl))) (q:=fun b12_5 => by (try simp at b12_5); exact (jh hX (by simp [-atD_lt, -atL_lt]; rfl))) (k:=(jt 1 (k:=(jm 4 44 [48] (p:=fun b12_10 => by (try simp at b12_10); exact (jh hX (by simp [-atD_lt, -atL_lt, b12_10]; rfl))) (q:=fun b12_10 => by (try simp at b12_10); exact (jh hX (by simp [-atD_lt, -atL_lt]; rfl))) (k:=jr)))))))))))) ?_
              refine W_ret (je0 ?_)
              simp only [knownT]
              (try simp_all) <;> grind
            · try simp at h11
              refine W_skip (jq [4] ?_)
              refine W_ret (je0 ?_)
              simp only [knownT]
              (try simp_all) <;> grind
        · try simp at h8
          refine W_reg jr ?_
          refine jd (fun h9 => ?_) (fun h9 => ?_)
          · try simp at h9
            refine W_rseqK [4] (jt 3 (k:=(jc [] (c:=(by apply ct_spec_l05Known <;> first | assumption | omega | (simp at *; omega) | simp_all)) (a:=cb_spec_l05Known) (k:=(jt 1 (k:=(jm 4 28 [32] (p:=fun b10_5 => by (try simp at b10_5); exact (jh hX (by simp [-atD_lt, -atL_lt]; rfl))) (q:=fun b10_5 => by (try simp at b10_5); exact (jh hX (by simp [-atD_lt, -atL_lt]; rfl))) (k:=jr)))))))) ?_
            refine W_ret (je0 ?_)
            simp only [knownT]
            (try simp_all) <;> grind
          · try simp at h9
            refine jq [0, 3, 33] ?_
            refine jd (fun h11 => ?_) (fun h11 => ?_)
            · try simp at h11
              refine W_rseqK [4] (jt 3 (k:=(jc [] (c:=(by apply ct_spec_l05Known <;> first | assumption | omega | (simp at *; omega) | simp_all)) (a:=cb_spec_l05Known) (k:=(jt 1 (k:=(jm 4 39 [3, 43] (p:=fun b12_5 => by (try simp at b12_5); exact (jh hX (by simp [-atD_lt, -atL_lt]; rfl))) (q:=fun b12_5 => by (try simp at b12_5); exact (jh hX (by simp [-atD_lt, -atL_lt]; rfl))) (k:=(jt 1 (k:=(jm 4 44 [48] (p:=fun b12_10 => by (try simp at b12_10); exact (jh hX (by simp [-atD_lt, -atL_lt, b12_10]; rfl))) (q:=fun b12_10 => by (try simp at b12_10); exact (jh hX (by simp [-atD_lt, -atL_lt]; rfl))) (k:=jr)))))))))))) ?_
              refine W_ret (je0 ?_)
              simp only [knownT]
              (try simp_all) <;> grind
            · try simp at h11
              refine W_skip (jq [4] ?_)
              refine W_ret (je0 ?_)
              simp only [knownT]
              (try simp_all) <;> grind
    · try simp at h3
      refine jq [0, 3, 6, 7] ?_
      refine jd (fun h4 => ?_) (fun h4 => ?_)
      · try simp at h4
        refine W_skip (jd (fun h4_1 => ?_) (fun h4_1 => ?_))
        · try simp at h4_1
          refine W_rseqK [4] (jt 4 (k:=(jm 4 16 [20] (p:=fun b7_4 => by (try simp at b7_4); exact (jh hX (by simp [-atD_lt, -atL_lt]; rfl))) (q:=fun b7_4 => by (try simp at b7_4); exact (jh hX (by simp [-atD_lt, -atL_lt]; rfl))) (k:=jr)))) ?_
          refine W_ret (je0 ?_)
          simp only [knownT]
          (try simp_all) <;> grind
        · try simp at h4_1
          refine W_seq (jq [0, 3, 6, 21] ?_)
          refine jd (fun h8 => ?_) (fun h8 => ?_)
          · try simp at h8
            refine W_skip (jd (fun h8_1 => ?_) (fun h8_1 => ?_))
            · try simp at h8_1
              refine W_rseqK [4] (jt 3 (k:=(jc [] (c:=(by apply ct_spec_l05Known <;> first | assumption | omega | (simp at *; omega) | simp_all)) (a:=cb_spec_l05Known) (k:=(jt 1 (k:=(jm 4 28 [32] (p:=fun b10_5 => by (try simp at b10_5); exact (jh hX (by simp [-atD_lt, -atL_lt]; rfl))) (q:=fun b10_5 => by (try simp at b10_5); exact (jh hX (by simp [-atD_lt, -atL_lt]; rfl))) (k:=jr)))))))) ?_
              refine W_ret (je0 ?_)
              simp only [knownT]
              (try simp_all) <;> grind
            · try simp at h8_1
              refine jq [0, 3, 33] ?_
              refine jd (fun h11 => ?_) (fun h11 => ?_)
              · try simp at h11
                refine W_rseqK [4] (jt 3 (k:=(jc [] (c:=(by apply ct_spec_l05Known <;> first | assumption | omega | (simp at *; omega) | simp_all)) (a:=cb_spec_l05Known) (k:=(jt 1 (k:=(jm 4 39 [3, 43] (p:=fun b12_5 => by (try simp at b12_5); exact (jh hX (by simp [-atD_lt, -atL_lt]; rfl))) (q:=fun b12_5 => by (try simp at b12_5); exact (jh hX (by simp [-atD_lt, -atL_lt]; rfl))) (k:=(jt 1 (k:=(jm 4 44 [48] (p:=fun b12_10 => by (try simp at b12_10); exact (jh hX (by simp [-atD_lt, -atL_lt, b12_10]; rfl))) (q:=fun b12_10 => by (try simp at b12_10); exact (jh hX (by simp [-atD_lt, -atL_lt]; rfl))) (k:=jr)))))))))))) ?_
                refine W_ret (je0 ?_)
                simp only [knownT]
                (try simp_all) <;> grind
              · try simp at h11
                refine W_skip (jq [4] ?_)
                refine W_ret (je0 ?_)
                simp only [knownT]
                (try simp_all) <;> grind
          · try simp at h8
            refine W_reg jr ?_
            refine jd (fun h9 => ?_) (fun h9 => ?_)
            · try simp at h9
              refine W_rseqK [4] (jt 3 (k:=(jc [] (c:=(by apply ct_spec_l05Known <;> first | assumption | omega | (simp at *; omega) | simp_all)) (a:=cb_spec_l05Known) (k:=(jt 1 (k:=(jm 4 28 [32] (p:=fun b10_5 => by (try simp at b10_5); exact (jh hX (by simp [-atD_lt, -atL_lt]; rfl))) (q:=fun b10_5 => by (try simp at b10_5); exact (jh hX (by simp [-atD_lt, -atL_lt]; rfl))) (k:=jr)))))))) ?_
              refine W_ret (je0 ?_)
              simp only [knownT]
              (try simp_all) <;> grind
            · try simp at h9
              refine jq [0, 3, 33] ?_
              refine jd (fun h11 => ?_) (fun h11 => ?_)
              · try simp at h11
                refine W_rseqK [4] (jt 3 (k:=(jc [] (c:=(by apply ct_spec_l05Known <;> first | assumption | omega | (simp at *; omega) | simp_all)) (a:=cb_spec_l05Known) (k:=(jt 1 (k:=(jm 4 39 [3, 43] (p:=fun b12_5 => by (try simp at b12_5); exact (jh hX (by simp [-atD_lt, -atL_lt]; rfl))) (q:=fun b12_5 => by (try simp at b12_5); exact (jh hX (by simp [-atD_lt, -atL_lt]; rfl))) (k:=(jt 1 (k:=(jm 4 44 [48] (p:=fun b12_10 => by (try simp at b12_10); exact (jh hX (by simp [-atD_lt, -atL_lt, b12_10]; rfl))) (q:=fun b12_10 => by (try simp at b12_10); exact (jh hX (by simp [-atD_lt, -atL_lt]; rfl))) (k:=jr)))))))))))) ?_
                refine W_ret (je0 ?_)
                simp only [knownT]
                (try simp_all) <;> grind
              · try simp at h11
                refine W_skip (jq [4] ?_)
                refine W_ret (je0 ?_)
                simp only [knownT]
                (try simp_all) <;> grind
      · try simp at h4
        refine jq [0, 3, 6, 7] ?_
        refine jd (fun h5 => ?_) (fun h5 => ?_)
        · try simp at h5
          refine W_skip (jd (fun h5_1 => ?_) (fun h5_1 => ?_))
          · try simp at h5_1
            refine W_rseqK [4] (jt 4 (k:=(jm 4 16 [20] (p:=fun b7_4 => by (try simp at b7_4); exact (jh hX (by simp [-atD_lt, -atL_lt]; rfl))) (q:=fun b7_4 => by (try simp at b7_4); exact (jh hX (by simp [-atD_lt, -atL_lt]; rfl))) (k:=jr)))) ?_
            refine W_ret (je0 ?_)
            simp only [knownT]
            (try simp_all) <;> grind
          · try simp at h5_1
            refine W_seq (jq [0, 3, 6, 21] ?_)
            refine jd (fun h8 => ?_) (fun h8 => ?_)
            · try simp at h8
              refine W_skip (jd (fun h8_1 => ?_) (fun h8_1 => ?_))
              · try simp at h8_1
                refine W_rseqK [4] (jt 3 (k:=(jc [] (c:=(by apply ct_spec_l05Known <;> first | assumption | omega | (simp at *; omega) | simp_all)) (a:=cb_spec_l05Known) (k:=(jt 1 (k:=(jm 4 28 [32] (p:=fun b10_5 => by (try simp at b10_5); exact (jh hX (by simp [-atD_lt, -atL_lt]; rfl))) (q:=fun b10_5 => by (try simp at b10_5); exact (jh hX (by simp [-atD_lt, -atL_lt]; rfl))) (k:=jr)))))))) ?_
                refine W_ret (je0 ?_)
                simp only [knownT]
                (try simp_all) <;> grind
              · try simp at h8_1
                refine jq [0, 3, 33] ?_
                refine jd (fun h11 => ?_) (fun h11 => ?_)
                · try simp at h11
                  refine W_rseqK [4] (jt 3 (k:=(jc [] (c:=(by apply ct_spec_l05Known <;> first | assumption | omega | (simp at *; omega) | simp_all)) (a:=cb_spec_l05Known) (k:=(jt 1 (k:=(jm 4 39 [3, 43] (p:=fun b12_5 => by (try simp at b12_5); exact (jh hX (by simp [-atD_lt, -atL_lt]; rfl))) (q:=fun b12_5 => by (try simp at b12_5); exact (jh hX (by simp [-atD_lt, -atL_lt]; rfl))) (k:=(jt 1 (k:=(jm 4 44 [48] (p:=fun b12_10 => by (try simp at b12_10); exact (jh hX (by simp [-atD_lt, -atL_lt, b12_10]; rfl))) (q:=fun b12_10 => by (try simp at b12_10); exact (jh hX (by simp [-atD_lt, -atL_lt]; rfl))) (k:=jr)))))))))))) ?_
                  refine W_ret (je0 ?_)
                  simp only [knownT]
                  (try simp_all) <;> grind
                · try simp at h11
                  refine W_skip (jq [4] ?_)
                  refine W_ret (je0 ?_)
                  simp only [knownT]
                  (try simp_all) <;> grind
            · try simp at h8
              refine W_reg jr ?_
              refine jd (fun h9 => ?_) (fun h9 => ?_)
              · try simp at h9
                refine W_rseqK [4] (jt 3 (k:=(jc [] (c:=(by apply ct_spec_l05Known <;> first | assumption | omega | (simp at *; omega) | simp_all)) (a:=cb_spec_l05Known) (k:=(jt 1 (k:=(jm 4 28 [32] (p:=fun b10_5 => by (try simp at b10_5); exact (jh hX (by simp [-atD_lt, -atL_lt]; rfl))) (q:=fun b10_5 => by (try simp at b10_5); exact (jh hX (by simp [-atD_lt, -atL_lt]; rfl))) (k:=jr)))))))) ?_
                refine W_ret (je0 ?_)
                simp only [knownT]
                (try simp_all) <;> grind
              · try simp at h9
                refine jq [0, 3, 33] ?_
                refine jd (fun h11 => ?_) (fun h11 => ?_)
                · try simp at h11
                  refine W_rseqK [4] (jt 3 (k:=(jc [] (c:=(by apply ct_spec_l05Known <;> first | assumption | omega | (simp at *; omega) | simp_all)) (a:=cb_spec_l05Known) (k:=(jt 1 (k:=(jm 4 39 [3, 43] (p:=fun b12_5 => by (try simp at b12_5); exact (jh hX (by simp [-atD_lt, -atL_lt]; rfl))) (q:=fun b12_5 => by (try simp at b12_5); exact (jh hX (by simp [-atD_lt, -atL_lt]; rfl))) (k:=(jt 1 (k:=(jm 4 44 [48] (p:=fun b12_10 => by (try simp at b12_10); exact (jh hX (by simp [-atD_lt, -atL_lt, b12_10]; rfl))) (q:=fun b12_10 => by (try simp at b12_10); exact (jh hX (by simp [-atD_lt, -atL_lt]; rfl))) (k:=jr)))))))))))) ?_
                  refine W_ret (je0 ?_)
                  simp only [knownT]
                  (try simp_all) <;> grind
                · try simp at h11
                  refine W_skip (jq [4] ?_)
                  refine W_ret (je0 ?_)
                  simp only [knownT]
                  (try simp_all) <;> grind
        · try simp at h5
          refine W_reg jr ?_
          refine jd (fun h6 => ?_) (fun h6 => ?_)
          · try simp at h6
            refine W_rseqK [4] (jt 4 (k:=(jm 4 16 [20] (p:=fun b7_4 => by (try simp at b7_4); exact (jh hX (by simp [-atD_lt, -atL_lt]; rfl))) (q:=fun b7_4 => by (try simp at b7_4); exact (jh hX (by simp [-atD_lt, -atL_lt]; rfl))) (k:=jr)))) ?_
            refine W_ret (je0 ?_)
            simp only [knownT]
            (try simp_all) <;> grind
          · try simp at h6
            refine W_seq (jq [0, 3, 6, 21] ?_)
            refine jd (fun h8 => ?_) (fun h8 => ?_)
            · try simp at h8
              refine W_skip (jd (fun h8_1 => ?_) (fun h8_1 => ?_))
              · try simp at h8_1
                refine W_rseqK [4] (jt 3 (k:=(jc [] (c:=(by apply ct_spec_l05Known <;> first | assumption | omega | (simp at *; omega) | simp_all)) (a:=cb_spec_l05Known) (k:=(jt 1 (k:=(jm 4 28 [32] (p:=fun b10_5 => by (try simp at b10_5); exact (jh hX (by simp [-atD_lt, -atL_lt]; rfl))) (q:=fun b10_5 => by (try simp at b10_5); exact (jh hX (by simp [-atD_lt, -atL_lt]; rfl))) (k:=jr)))))))) ?_
                refine W_ret (je0 ?_)
                simp only [knownT]
                (try simp_all) <;> grind
              · try simp at h8_1
                refine jq [0, 3, 33] ?_
                refine jd (fun h11 => ?_) (fun h11 => ?_)
                · try simp at h11
                  refine W_rseqK [4] (jt 3 (k:=(jc [] (c:=(by apply ct_spec_l05Known <;> first | assumption | omega | (simp at *; omega) | simp_all)) (a:=cb_spec_l05Known) (k:=(jt 1 (k:=(jm 4 39 [3, 43] (p:=fun b12_5 => by (try simp at b12_5); exact (jh hX (by simp [-atD_lt, -atL_lt]; rfl))) (q:=fun b12_5 => by (try simp at b12_5); exact (jh hX (by simp [-atD_lt, -atL_lt]; rfl))) (k:=(jt 1 (k:=(jm 4 44 [48] (p:=fun b12_10 => by (try simp at b12_10); exact (jh hX (by simp [-atD_lt, -atL_lt, b12_10]; rfl))) (q:=fun b12_10 => by (try simp at b12_10); exact (jh hX (by simp [-atD_lt, -atL_lt]; rfl))) (k:=jr)))))))))))) ?_
                  refine W_ret (je0 ?_)
                  simp only [knownT]
                  (try simp_all) <;> grind
                · try simp at h11
                  refine W_skip (jq [4] ?_)
                  refine W_ret (je0 ?_)
                  simp only [knownT]
                  (try simp_all) <;> grind
            · try simp at h8
              refine W_reg jr ?_
              refine jd (fun h9 => ?_) (fun h9 => ?_)
              · try simp at h9
                refine W_rseqK [4] (jt 3 (k:=(jc [] (c:=(by apply ct_spec_l05Known <;> first | assumption | omega | (simp at *; omega) | simp_all)) (a:=cb_spec_l05Known) (k:=(jt 1 (k:=(jm 4 28 [32] (p:=fun b10_5 => by (try simp at b10_5); exact (jh hX (by simp [-atD_lt, -atL_lt]; rfl))) (q:=fun b10_5 => by (try simp at b10_5); exact (jh hX (by simp [-atD_lt, -atL_lt]; rfl))) (k:=jr)))))))) ?_
                refine W_ret (je0 ?_)
                simp only [knownT]
                (try simp_all) <;> grind
              · try simp at h9
                refine jq [0, 3, 33] ?_
                refine jd (fun h11 => ?_) (fun h11 => ?_)
                · try simp at h11
                  refine W_rseqK [4] (jt 3 (k:=(jc [] (c:=(by apply ct_spec_l05Known <;> first | assumption | omega | (simp at *; omega) | simp_all)) (a:=cb_spec_l05Known) (k:=(jt 1 (k:=(jm 4 39 [3, 43] (p:=fun b12_5 => by (try simp at b12_5); exact (jh hX (by simp [-atD_lt, -atL_lt]; rfl))) (q:=fun b12_5 => by (try simp at b12_5); exact (jh hX (by simp [-atD_lt, -atL_lt]; rfl))) (k:=(jt 1 (k:=(jm 4 44 [48] (p:=fun b12_10 => by (try simp at b12_10); exact (jh hX (by simp [-atD_lt, -atL_lt, b12_10]; rfl))) (q:=fun b12_10 => by (try simp at b12_10); exact (jh hX (by simp [-atD_lt, -atL_lt]; rfl))) (k:=jr)))))))))))) ?_
                  refine W_ret (je0 ?_)
                  simp only [knownT]
                  (try simp_all) <;> grind
                · try simp at h11
                  refine W_skip (jq [4] ?_)
                  refine W_ret (je0 ?_)
                  simp only [knownT]
                  (try simp_all) <;> grind
end Go.Proofs
namespace Go.Proofs
open Go Go.Ev


theorem cb_spec_TypeKnown : Callable Tryz.prog 72 := ⟨_, Tryz.func72, by kernel_rfl, by kernel_rfl⟩
theorem ct_spec_TypeKnown {l : List Cls} {t : Typ} (hl : sizeL l ≤ 1099511627776) : Ct Tryz.prog 72 [.lst false 6 (l.map eC), eT t] [] (.bool (typeKnownW l t)) [] := by
  have hll : l.length ≤ 1099511627776 := by unfold sizeL at hl; omega
  refine Ct_bodyS tok Tryz.func72 rfl 12 (by kernel_rfl) (by kernel_rfl) fun X hX => ?_
  refine jq [0, 3] ?_
  refine W_rseqK [4] (jt 1 (k:=(jc [] (c:=(by apply ct_spec_l05Right <;> first | assumption | omega | (simp at *; omega) | simp_all)) (a:=cb_spec_l05Right) (k:=(jt 1 (k:=(jm 4 7 [11] (p:=fun b1_3 => by (try simp at b1_3); exact (js hX 2 (by simp [-atD_lt, -atL_lt]; rfl) (Runs.call [] rfl (by simp) rfl (by simp [-atD_lt, -atL_lt]; rfl) (by simp; rfl) (by apply ct_spec_l06Known <;> first | assumption | omega | (simp at *; omega) | simp_all) cb_spec_l06Known (by simp) (by simp) (by simp [-atD_lt, -atL_lt]; rfl) (jh hX (by simp [-atD_lt, -atL_lt]; rfl))))) (q:=fun b1_3 => by (try simp at b1_3); exact (jh hX (by simp [-atD_lt, -atL_lt]; rfl))) (k:=jr)))))))) ?_
  refine W_ret (je0 ?_)
  simp only [typeKnownW]
end Go.Proofs
namespace Go.Proofs
open Go Go.Ev


theorem cb_spec_l06List : Callable Tryz.prog 126 := ⟨_, Tryz.func126, by kernel_rfl, by kernel_rfl⟩
theorem ct_spec_l06List {t : Typ} : Ct Tryz.prog 126 [eT t] [] (.bool (decide (t.k = 4 ∨ t.k = 5))) [] := by
  refine Ct_bodyS tok Tryz.func126 rfl 11 (by kernel_rfl) (by kernel_rfl) fun X hX => ?_
  refine jq [1] ?_
  refine W_rseqK [2] (jt 4 (k:=(jm 4 6 [10] (p:=fun b1_4 => by (try simp at b1_4); exact (jh hX (by simp [-atD_lt, -atL_lt]; rfl))) (q:=fun b1_4 => by (try simp at b1_4); exact (jh hX (by simp [-atD_lt, -atL_lt]; rfl))) (k:=jr)))) ?_
  refine W_ret (je0 ?_)
  simp
end Go.Proofs
namespace Go.Proofs
open Go Go.Ev


theorem cb_spec_l06Le : Callable Tryz.prog 74 := ⟨_, Tryz.func74, by kernel_rfl, by kernel_rfl⟩
theorem ct_spec_l06Le {l : List Cls} (hl : l.length ≤ 1099511627776) (hw : rightW l = true) {a b : Typ} : Ct Tryz.prog 74 [.lst false 6 (l.map eC), eT a, eT b] [] (.bool (leT l a b)) [] := by
  refine Ct_bodyS tok Tryz.func74 rfl 61 (by kernel_rfl) (by kernel_rfl) fun X hX => ?_
  refine jq [0, 4, 5] ?_
  refine W_seq (W_block (W_rseqK [0, 4, 5, 7] (jt 4 (k:=(jm 4 11 [0, 4, 5, 15] (p:=fun b1_4 => by (try simp at b1_4); exact (jh hX (by simp [-atD_lt, -atL_lt]; rfl))) (q:=fun b1_4 => by (try simp at b1_4); exact (jh hX (by simp [-atD_lt, -atL_lt]; rfl))) (k:=jr)))) ?_))
  refine jd (fun h1 => ?_) (fun h1 => ?_)
  · try simp at h1
    refine jq [6] ?_
    refine W_ret (je0 ?_)
    cases a; cases b; simp only [leT, sObject] at *
    (try simp_all) <;> grind
  · try simp at h1
    refine jq [0, 4, 5, 16] ?_
    refine jd (fun h3 => ?_) (fun h3 => ?_)
    · try simp at h3
      refine W_rseqK [6] (jt 4 (k:=(jm 3 23 [26] (p:=fun b4_4 => by (try simp at b4_4); exact (jh hX (by simp [-atD_lt, -atL_lt]; rfl))) (q:=fun b4_4 => by (try simp at b4_4); exact (js hX 1 (by simp [-atD_lt, -atL_lt]; rfl) (Runs.call [] rfl (by simp) rfl (by simp [-atD_lt, -atL_lt]; rfl) (by simp; rfl) (by apply ct_spec_l06List <;> first | assumption | omega | (simp at *; omega) | simp_all) cb_spec_l06List (by simp) (by simp) (by simp [-atD_lt, -atL_lt]; rfl) (jh hX (by simp [-atD_lt, -atL_lt]; rfl))))) (k:=jr)))) ?_
      refine W_ret (je0 ?_)
      cases a; cases b; simp only [leT, sObject] at *
      (try simp_all) <;> grind
    · try simp at h3
      refine W_seq (W_rseqK [0, 4, 5, 27] (jt 4 (k:=(jm 4 31 [0, 4, 5, 35] (p:=fun b5_4 => by (try simp at b5_4); exact (jh hX (by simp [-atD_lt, -atL_lt]; rfl))) (q:=fun b5_4 => by (try simp at b5_4); exact (jh hX (by simp [-atD_lt, -atL_lt]; rfl))) (k:=jr)))) ?_)
      refine jd (fun h5 => ?_) (fun h5 => ?_)
      · try simp at h5
        refine W_skip (jd (fun h5_1 => ?_) (fun h5_1 => ?_))
        · try simp at h5_1
          refine W_rseqK [6] (jt 5 (k:=(jc [] (c:=(by apply ct_spec_l05Sub <;> first | assumption | omega | (simp at *; omega) | simp_all)) (a:=cb_spec_l05Sub) (k:=jr)))) ?_
          refine W_ret (je0 ?_)
          cases a; cases b; simp only [leT, sObject] at *
          (try simp_all) <;> grind
        · try simp at h5_1
          refine W_rseqK [5, 50] (jt 1 (k:=(jc [] (c:=(by apply ct_spec_l06List <;> first | assumption | omega | (simp at *; omega) | simp_all)) (a:=cb_spec_l06List) (k:=(jt 1 (k:=(jm 4 53 [5, 57] (p:=fun b8_3 => by (try simp at b8_3); exact (jh hX (by simp [-atD_lt, -atL_lt]; rfl))) (q:=fun b8_3 => by (try simp at b8_3); exact (jh hX (by simp [-atD_lt, -atL_lt]; rfl))) (k:=jr)))))))) ?_
          refine jd (fun h8 => ?_) (fun h8 => ?_)
          · try simp at h8
            refine jq [6] ?_
            refine W_ret (je0 ?_)
            cases a; cases b; simp only [leT, sObject] at *
            (try simp_all) <;> grind
          · try simp at h8
            refine W_skip (jq [6] ?_)
            refine W_ret (je0 ?_)
            cases a; cases b; simp only [leT, sObject] at *
            (try simp_all) <;> grind
      · try simp at h5
        refine W_reg (jt 4 (k:=(jm 4 39 [0, 4, 5, 43] (p:=fun b6_4 => by (try simp at b6_4); exact (jh hX (by simp [-atD_lt, -atL_lt]; rfl))) (q:=fun b6_4 => by (try simp at b6_4); exact (jh hX (by simp [-atD_lt, -atL_lt]; rfl))) (k:=jr)))) ?_
        refine jd (fun h6 => ?_) (fun h6 => ?_)
        · try simp at h6
          refine W_rseqK [6] (jt 5 (k:=(jc [] (c:=(by apply ct_spec_l05Sub <;> first | assumption | omega | (simp at *; omega) | simp_all)) (a:=cb_spec_l05Sub) (k:=jr)))) ?_
          refine W_ret (je0 ?_)
          cases a; cases b; simp only [leT, sObject] at *
          (try simp_all) <;> grind
        · try simp at h6
          refine W_rseqK [5, 50] (jt 1 (k:=(jc [] (c:=(by apply ct_spec_l06List <;> first | assumption | omega | (simp at *; omega) | simp_all)) (a:=cb_spec_l06List) (k:=(jt 1 (k:=(jm 4 53 [5, 57] (p:=fun b8_3 => by (try simp at b8_3); exact (jh hX (by simp [-atD_lt, -atL_lt]; rfl))) (q:=fun b8_3 => by (try simp at b8_3); exact (jh hX (by simp [-atD_lt, -atL_lt]; rfl))) (k:=jr)))))))) ?_
          refine jd (fun h8 => ?_) (fun h8 => ?_)
          · try simp at h8
            refine jq [6] ?_
            refine W_ret (je0 ?_)
            cases a; cases b; simp only [leT, sObject] at *
            (try simp_all) <;> grind
          · try simp at h8
            refine W_skip (jq [6] ?_)
            refine W_ret (je0 ?_)
            cases a; cases b; simp only [leT, sObject] at *
            (try simp_all) <;> grind
end Go.Proofs
namespace Go.Proofs
open Go Go.Ev


theorem cb_spec_TypeLe : Callable Tryz.prog 24 := ⟨_, Tryz.func24, by kernel_rfl, by kernel_rfl⟩
theorem ct_spec_TypeLe {l : List Cls} {a b : Typ} (hl : sizeL l ≤ 1099511627776) : Ct Tryz.prog 24 [.lst false 6 (l.map eC), eT a, eT b] [] (.bool (leW l a b)) [] := by
  have hll : l.length ≤ 1099511627776 := by unfold sizeL at hl; omega
  refine Ct_bodyS tok Tryz.func24 rfl 21 (by kernel_rfl) (by kernel_rfl) fun X hX => ?_
  refine jq [0, 4, 5] ?_
  refine W_rseqK [6] (jt 2 (k:=(jc [] (c:=(by apply ct_spec_TypeKnown <;> first | assumption | omega | exact right_of_known (t := a) (by simp_all))) (a:=cb_spec_TypeKnown) (k:=(jt 1 (k:=(jm 4 10 [0, 4, 5, 14] (p:=fun b1_4 => by (try simp at b1_4); exact (js hX 2 (by simp [-atD_lt, -atL_lt]; rfl) (Runs.call [] rfl (by simp) rfl (by simp [-atD_lt, -atL_lt]; rfl) (by simp; rfl) (by apply ct_spec_l06Known <;> first | assumption | omega | exact right_of_known (t := a) (by simp_all)) cb_spec_l06Known (by simp) (by simp) (by simp [-atD_lt, -atL_lt]; rfl) (jh hX (by simp [-atD_lt, -atL_lt]; rfl))))) (q:=fun b1_4 => by (try simp at b1_4); exact (jh hX (by simp [-atD_lt, -atL_lt]; rfl))) (k:=(jt 1 (k:=(jm 5 15 [20] (p:=fun b1_9 => by (try simp at b1_9); exact (js hX 3 (by simp [-atD_lt, -atL_lt]; rfl) (Runs.call [] rfl (by simp) rfl (by simp [-atD_lt, -atL_lt]; rfl) (by simp; rfl) (by apply ct_spec_l06Le <;> first | assumption | omega | exact right_of_known (t := a) (by simp_all)) cb_spec_l06Le (by simp) (by simp) (by simp [-atD_lt, -atL_lt]; rfl) (jh hX (by simp [-atD_lt, -atL_lt]; rfl))))) (q:=fun b1_9 => by (try simp at b1_9); exact (jh hX (by simp [-atD_lt, -atL_lt]; rfl))) (k:=jr)))))))))))) ?_
  refine W_ret (je0 ?_)
  simp only [leW, typeKnownW] at *
  (try simp_all) <;> grind
end Go.Proofs
namespace Go.Proofs
open Go Go.Ev


theorem cb_laws_toType : Callable Tryz.prog 25 := ⟨_, Tryz.func25, by kernel_rfl, by kernel_rfl⟩
theorem ct_laws_toType {x : Typ} : Ct Tryz.prog 25 [eT x] [] (eT x) [] := by
  refine Ct_bodyS tok Tryz.func25 rfl 14 (by kernel_rfl) (by kernel_rfl) fun X hX => ?_
  refine jq [1, 2] ?_
  refine jq [1, 2, 3] ?_
  refine jq [1, 2, 3] ?_
  refine jq [1, 2, 3] ?_
  refine jq [2, 3] ?_
  refine jq [2] ?_
  refine W_ret (je0 ?_)
  simp
end Go.Proofs
namespace Go.Proofs
open Go Go.Ev


theorem cb_impl_world_typeKnown : Callable Tryz.prog 75 := ⟨_, Tryz.func75, by kernel_rfl, by kernel_rfl⟩
theorem ct_impl_world_typeKnown {l : List Cls} (hl : l.length ≤ 1099511627776) {t : Typ} : Ct Tryz.prog 75 [wv l, eT t] [] (.bool (knownT l t)) [] := by
  refine Ct_bodyS tok Tryz.func75 rfl 43 (by kernel_rfl) (by kernel_rfl) fun X hX => ?_
  refine jq [0, 3] ?_
  refine W_seq (jq [0, 3, 6] ?_)
  refine W_block (W_seq (jq [0, 3, 6, 7] ?_))
  refine' W_condS3 [0, 3, 6, 7] (by simp; rfl) (by rfl) (fun h2 => ?a1_1) (fun h2 => ?a0_1) ?ak_1
  case a1_1 =>
    try simp at h2
    refine W_skip ?_
    exact ⟨rfl, Eq.trans (by (try simp); rfl) (by rfl)⟩
  case a0_1 =>
    try simp at h2
    refine W_reg jr ?_
    exact ⟨rfl, Eq.trans (by (try simp); rfl) (by rfl)⟩
  case ak_1 =>
    refine W_le (Le.of_eq (by simp; rfl)) ?_
    refine jd (fun h2 => ?_) (fun h2 => ?_)
    · try simp at h2
      refine W_rseqK [4] (jt 3 (k:=(jc [] (c:=(by apply ct_impl_world_known <;> first | assumption | omega | (simp at *; omega) | simp_all)) (a:=cb_impl_world_known) (k:=(jt 1 (k:=(jm 4 14 [18] (p:=fun b4_5 => by (try simp at b4_5); exact (jh hX (by simp [-atD_lt, -atL_lt]; rfl))) (q:=fun b4_5 => by (try simp at b4_5); exact (jh hX (by simp [-atD_lt, -atL_lt]; rfl))) (k:=jr)))))))) ?_
      refine W_ret (je0 ?_)
      simp only [knownT]
      (try simp_all) <;> grind
    · try simp at h2
      refine jq [0, 3, 19] ?_
      refine jd (fun h5 => ?_) (fun h5 => ?_)
      · try simp at h5
        refine W_rseqK [4] (jt 3 (k:=(jc [] (c:=(by apply ct_impl_world_known <;> first | assumption | omega | (simp at *; omega) | simp_all)) (a:=cb_impl_world_known) (k:=(jt 1 (k:=(jm 4 25 [29] (p:=fun b6_5 => by (try simp at b6_5); exact (js hX 2 (by simp [-atD_lt, -atL_lt]; rfl) (Runs.call [] rfl (by simp) rfl (by simp [-atD_lt, -atL_lt]; rfl) (by simp; rfl) (by apply ct_impl_within <;> first | assumption | omega | (simp at *; omega) | simp_all) cb_impl_within (by simp) (by simp) (by simp [-atD_lt, -atL_lt]; rfl) (jh hX (by simp [-atD_lt, -atL_lt]; rfl))))) (q:=fun b6_5 => by (try simp at b6_5); exact (jh hX (by simp [-atD_lt, -atL_lt]; rfl))) (k:=jr)))))))) ?_
        refine W_ret (je0 ?_)
        simp only [knownT]
        (try simp_all) <;> grind
      · try simp at h5
        refine W_skip (W_rseqK [4] (jt 2 (k:=(jc [] (c:=(by apply ct_impl_within <;> first | assumption | omega | (simp at *; omega) | simp_all)) (a:=cb_impl_within) (k:=(jt 1 (k:=(jm 4 33 [3, 37] (p:=fun b7_4 => by (try simp at b7_4); exact (jh hX (by simp [-atD_lt, -atL_lt]; rfl))) (q:=fun b7_4 => by (try simp at b7_4); exact (jh hX (by simp [-atD_lt, -atL_lt]; rfl))) (k:=(jt 1 (k:=(jm 4 38 [42] (p:=fun b7_9 => by (try simp at b7_9); exact (jh hX (by simp [-atD_lt, -atL_lt]; rfl))) (q:=fun b7_9 => by (try simp at b7_9); exact (jh hX (by simp [-atD_lt, -atL_lt]; rfl))) (k:=jr)))))))))))) ?_)
        refine W_ret (je0 ?_)
        simp only [knownT]
        (try simp_all) <;> grind
end Go.Proofs
namespace Go.Proofs
open Go Go.Ev


theorem cb_impl_Type_isObject : Callable Tryz.prog 129 := ⟨_, Tryz.func129, by kernel_rfl, by kernel_rfl⟩
theorem ct_impl_Type_isObject {t : Typ} : Ct Tryz.prog 129 [eT t] [] (.bool (isObj t)) [] := by
  refine Ct_bodyS tok Tryz.func129 rfl 6 (by kernel_rfl) (by kernel_rfl) fun X hX => ?_
  refine jq [1] ?_
  refine W_rseqK [2] (jt 2 (k:=(jc [] (c:=(by apply ct_impl_within <;> first | assumption | omega | (simp at *; omega) | simp_all)) (a:=cb_impl_within) (k:=jr)))) ?_
  refine W_ret (je0 ?_)
  simp [isObj]
end Go.Proofs
namespace Go.Proofs
open Go Go.Ev


theorem cb_impl_ref : Callable Tryz.prog 130 := ⟨_, Tryz.func130, by kernel_rfl, by kernel_rfl⟩
theorem ct_impl_ref {c : Str} : Ct Tryz.prog 130 [.str c] [] (eT ⟨3, c, 0⟩) [] := by
  refine Ct_bodyS tok Tryz.func130 rfl 5 (by kernel_rfl) (by kernel_rfl) fun X hX => ?_
  refine jq [0, 2] ?_
  refine jq [2] ?_
  refine W_ret (je0 ?_)
  simp
end Go.Proofs
namespace Go.Proofs
open Go Go.Ev


theorem cb_impl_world_typeLe : Callable Tryz.prog 76 := ⟨_, Tryz.func76, by kernel_rfl, by kernel_rfl⟩
theorem ct_impl_world_typeLe {l : List Cls} (hl : l.length ≤ 1048576) {a b : Typ} : Ct Tryz.prog 76 [wv l, eT a, eT b] [] (.bool (leI l a b)) [] := by
  refine Ct_bodyS tok Tryz.func76 rfl 60 (by kernel_rfl) (by kernel_rfl) fun X hX => ?_
  refine jq [0, 4, 5] ?_
  refine W_seq (W_block (W_rseqK [0, 4, 5, 7] (jt 4 (k:=(jm 4 11 [0, 4, 5, 15] (p:=fun b1_4 => by (try simp at b1_4); exact (jh hX (by simp [-atD_lt, -atL_lt]; rfl))) (q:=fun b1_4 => by (try simp at b1_4); exact (jh hX (by simp [-atD_lt, -atL_lt]; rfl))) (k:=jr)))) ?_))
  refine jd (fun h1 => ?_) (fun h1 => ?_)
  · try simp at h1
    refine jq [6] ?_
    refine W_ret (je0 ?_)
    cases a; cases b; simp only [leI, isObj, objT, sObject] at *
    (try simp_all) <;> grind
  · try simp at h1
    refine jq [0, 4, 5, 16] ?_
    refine jd (fun h3 => ?_) (fun h3 => ?_)
    · try simp at h3
      refine W_rseqK [6] (jt 1 (k:=(jc [] (c:=(by apply ct_impl_Type_isObject <;> first | assumption | omega | (simp at *; omega) | simp_all)) (a:=cb_impl_Type_isObject) (k:=jr)))) ?_
      refine W_ret (je0 ?_)
      cases a; cases b; simp only [leI, isObj, objT, sObject] at *
      (try simp_all) <;> grind
    · try simp at h3
      refine W_rseqK [0, 4, 5, 22] (jt 4 (k:=(jm 4 26 [0, 4, 5, 30] (p:=fun b5_4 => by (try simp at b5_4); exact (jh hX (by simp [-atD_lt, -atL_lt]; rfl))) (q:=fun b5_4 => by (try simp at b5_4); exact (jh hX (by simp [-atD_lt, -atL_lt]; rfl))) (k:=(jt 1 (k:=(jm 9 31 [0, 4, 5, 40] (p:=fun b5_9 => by (try simp at b5_9); exact (jh hX (by simp [-atD_lt, -atL_lt]; rfl))) (q:=fun b5_9 => by (try simp at b5_9); exact (js hX 4 (by simp [-atD_lt, -atL_lt]; rfl) (jm 4 35 [0, 4, 5, 31, 39] (p:=fun b5_13 => by (try simp at b5_13); exact (jh hX (by simp [-atD_lt, -atL_lt]; rfl))) (q:=fun b5_13 => by (try simp at b5_13); exact (jh hX (by simp [-atD_lt, -atL_lt]; rfl))) (k:=(jh hX (by simp [-atD_lt, -atL_lt]; rfl)))))) (k:=jr)))))))) ?_
      refine jd (fun h5 => ?_) (fun h5 => ?_)
      · try simp at h5
        refine W_rseqK [6] (jt 5 (k:=(jc [] (c:=(by apply ct_impl_world_isSub <;> first | assumption | omega | (simp at *; omega) | simp_all)) (a:=cb_impl_world_isSub) (k:=jr)))) ?_
        refine W_ret (je0 ?_)
        cases a; cases b; simp only [leI, isObj, objT, sObject] at *
        (try simp_all) <;> grind
      · try simp at h5
        refine W_skip (jD [6] (jS 4 (by simp; rfl) (jM 4 50 [5, 54] (p:=fun b7_4 => by (try simp at b7_4); exact (jQ (by simp [-atD_lt, -atL_lt]; rfl))) (q:=fun b7_4 => by (try simp at b7_4); exact (jQ (by simp [-atD_lt, -atL_lt]; rfl))) (k:=(jS 1 (by simp; rfl) (jM 4 55 [59] (p:=fun b7_9 => by (try simp at b7_9); exact (jS 1 (by simp [-atD_lt, -atL_lt]; rfl) (jC (c:=by apply ct_impl_ref <;> first | assumption | omega | (simp at *; omega) | simp_all) (a:=cb_impl_ref) (k:=(jQ (by simp [-atD_lt, -atL_lt]; rfl)))))) (q:=fun b7_9 => by (try simp at b7_9); exact (jQ (by simp [-atD_lt, -atL_lt]; rfl))) (k:=(jQ (by simp; rfl)))))))) ?_)
        refine W_ret (je0 ?_)
        cases a; cases b; simp only [leI, isObj, objT, sObject] at *
        (try simp_all) <;> grind
end Go.Proofs
namespace Go.Proofs
open Go Go.Ev


theorem cb_impl_TypeLe : Callable Tryz.prog 26 := ⟨_, Tryz.func26, by kernel_rfl, by kernel_rfl⟩
theorem ct_impl_TypeLe {l : List Cls} (hl : l.length ≤ 1048576) (hs : sizeL l ≤ 1099511627776) {a b : Typ} : Ct Tryz.prog 26 [.lst false 6 (l.map eC), eT a, eT b] [] (.bool (leW l a b)) [] := by
  refine Ct_bodyS tok Tryz.func26 rfl 31 (by kernel_rfl) (by kernel_rfl) fun X hX => ?_
  refine jq [0, 4, 5] ?_
  refine W_rseqK [4, 5, 7, 8] (jt 1 (k:=(jc [] (c:=(by apply ct_impl_rightWorld <;> first | assumption | omega | (simp at *; omega) | simp_all)) (a:=cb_impl_rightWorld) (k:=jr)))) ?_
  refine W_rseqK [6] (jt 2 (k:=(jm 4 15 [4, 5, 7, 19] (p:=fun b2_2 => by (try simp at b2_2); exact (js hX 2 (by simp [-atD_lt, -atL_lt]; rfl) (Runs.call [] rfl (by simp) rfl (by simp [-atD_lt, -atL_lt]; rfl) (by simp; rfl) (by apply ct_impl_world_typeKnown <;> first | assumption | omega | (simp at *; omega) | simp_all) cb_impl_world_typeKnown (by simp) (by simp) (by simp [-atD_lt, -atL_lt]; rfl) (jh hX (by simp [-atD_lt, -atL_lt]; rfl))))) (q:=fun b2_2 => by (try simp at b2_2); exact (jh hX (by simp [-atD_lt, -atL_lt]; rfl))) (k:=(jt 1 (k:=(jm 4 20 [4, 5, 7, 24] (p:=fun b2_7 => by (try simp at b2_7); exact (js hX 2 (by simp [-atD_lt, -atL_lt]; rfl) (Runs.call [] rfl (by simp) rfl (by simp [-atD_lt, -atL_lt]; rfl) (by simp; rfl) (by apply ct_impl_world_typeKnown <;> first | assumption | omega | (simp at *; omega) | simp_all) cb_impl_world_typeKnown (by simp) (by simp) (by simp [-atD_lt, -atL_lt]; rfl) (jh hX (by simp [-atD_lt, -atL_lt]; rfl))))) (q:=fun b2_7 => by (try simp at b2_7); exact (jh hX (by simp [-atD_lt, -atL_lt]; rfl))) (k:=(jt 1 (k:=(jm 5 25 [30] (p:=fun b2_12 => by (try simp at b2_12); exact (js hX 3 (by simp [-atD_lt, -atL_lt]; rfl) (Runs.call [] rfl (by simp) rfl (by simp [-atD_lt, -atL_lt]; rfl) (by simp; rfl) (by apply ct_impl_world_typeLe <;> first | assumption | omega | (simp at *; omega) | simp_all) cb_impl_world_typeLe (by simp) (by simp) (by simp [-atD_lt, -atL_lt]; rfl) (jh hX (by simp [-atD_lt, -atL_lt]; rfl))))) (q:=fun b2_12 => by (try simp at b2_12); exact (jh hX (by simp [-atD_lt, -atL_lt]; rfl))) (k:=jr)))))))))))) ?_
  refine W_ret (je0 ?_)
  rw [← leW_of]
  (try simp [Bool.and_assoc])
end Go.Proofs
namespace Go.Proofs
open Go Go.Ev


theorem cb_laws_FnExactTypeLe : Callable Tryz.prog 5 := ⟨_, Tryz.func5, by kernel_rfl, by kernel_rfl⟩
theorem ct_laws_FnExactTypeLe {l : List Cls} {t1 : Typ} {t2 : Typ} (hl : l.length < 4611686018427387904) (bl : ∀ y ∈ l, bigC y) (ht1 : bigT t1) (ht2 : bigT t2) : Ct Tryz.prog 5 [.lst false 6 (l.map eC), eT t1, eT t2] [] (.bool true) [] := by
  refine Ct_bodyS tok Tryz.func5 rfl 49 (by kernel_rfl) (by kernel_rfl) fun X hX => ?_
  refine jq [0, 4, 5] ?_
  refine jq [0, 4, 5, 7] ?_
  refine W_rseqK [0, 4, 5, 7] (jt 2 (k:=(jc [] (c:=(by apply ct_laws_szClassS <;> first | assumption | omega)) (a:=cb_laws_szClassS) (k:=jr)))) ?_
  refine W_seq (jq [0, 4, 5, 7, 15] ?_)
  refine jd (fun h3 => ?_) (fun h3 => ?_)
  · try simp at h3
    refine jq [6] ?_
    refine W_ret (je (by simp [h3]; rfl) ?_)
    simp_all
  · try simp at h3
    have k3 := sub_ok h3
    have hsL : sizeL l ≤ 1048576 := by have := k3.1; unfold sizeL; omega
    refine W_skip (W_rseqK [0, 4, 5, 7] (js hX 2 (by simp [h3]; rfl) (jc [] (c:=(by apply ct_laws_szType <;> first | assumption | omega)) (a:=cb_laws_szType) (k:=jr))) ?_)
    refine W_seq (jq [0, 4, 5, 7, 20] ?_)
    refine jd (fun h6 => ?_) (fun h6 => ?_)
    · try simp at h6
      refine jq [6] ?_
      refine W_ret (je (by simp [h3, h6]; rfl) ?_)
      simp_all
    · try simp at h6
      have k6 := sub_ok h6
      refine W_skip (W_rseqK [0, 4, 5, 7] (js hX 2 (by simp [h3, h6]; rfl) (jc [] (c:=(by apply ct_laws_szType <;> first | assumption | omega)) (a:=cb_laws_szType) (k:=jr))) ?_)
      refine W_seq (jq [0, 4, 5, 25] ?_)
      refine jd (fun h9 => ?_) (fun h9 => ?_)
      · try simp at h9
        refine jq [6] ?_
        refine W_ret (je (by simp [h3, h6, h9]; rfl) ?_)
        simp_all
      · try simp at h9
        have k9 := sub_ok h9
        refine W_skip (jL 5 [0, 2, 4] [1, 3] [0, 4, 5, 8] ([0, 1]) hX (by simp [h3, h6, h9]; rfl) (jH (p:=fun X hX => (jF (c:=(by apply ct_laws_toClassS <;> first | assumption | omega | exact fun y hy => Nat.le_trans (mem_sum hy) (by omega))) (a:=cb_laws_toClassS) (k:=jf))) (k:=(jH (p:=fun X hX => (jF (c:=(by apply ct_laws_toType <;> first | assumption | omega | exact fun y hy => Nat.le_trans (mem_sum hy) (by omega))) (a:=cb_laws_toType) (k:=jf))) (k:=.nil)))) (jF (c:=(by apply ct_laws_toType <;> first | assumption | omega | exact fun y hy => Nat.le_trans (mem_sum hy) (by omega))) (a:=cb_laws_toType) (k:=(jc [] (c:=(by apply ct_spec_TypeLe <;> first | assumption | omega)) (a:=cb_spec_TypeLe) (k:=jr)))) ?_)
        refine W_rseqK [0, 4, 5, 8, 9] (jt 1 (k:=(jF (c:=(by apply ct_laws_toClassS <;> first | assumption | omega | exact fun y hy => Nat.le_trans (mem_sum hy) (by omega))) (a:=cb_laws_toClassS) (k:=jr)))) ?_
        refine jL 5 [0, 1, 3] [2, 4] [0, 8, 9, 10] ([0, 1]) hX (by simp [h3, h6, h9]; rfl) (jH (p:=fun X hX => (jF (c:=(by apply ct_laws_toType <;> first | assumption | omega | exact fun y hy => Nat.le_trans (mem_sum hy) (by omega))) (a:=cb_laws_toType) (k:=jf))) (k:=(jH (p:=fun X hX => (jF (c:=(by apply ct_laws_toType <;> first | assumption | omega | exact fun y hy => Nat.le_trans (mem_sum hy) (by omega))) (a:=cb_laws_toType) (k:=jf))) (k:=.nil)))) (jc [] (c:=(by apply ct_impl_TypeLe <;> first | assumption | omega)) (a:=cb_impl_TypeLe) (k:=jr)) ?_
        refine W_seq (jq [0, 9, 43] ?_)
        refine jd (fun h14 => ?_) (fun h14 => ?_)
        · try simp at h14
          all_goals
            refine jq [6] ?_
            refine W_ret (je (by simp [h3, h6, h9]; rfl) ?_)
            simp_all
        · try simp at h14
          all_goals
            refine W_skip (W_seq (W_rseqK [48] (jt 2 (k:=(jF (c:=(by apply ct_laws_toClassS <;> first | assumption | omega | exact fun y hy => Nat.le_trans (mem_sum hy) (by omega))) (a:=cb_laws_toClassS) (k:=(jc [] (c:=(by apply ct_laws_eqClassS <;> first | assumption | omega)) (a:=cb_laws_eqClassS) (k:=jr)))))) ?_))
            refine jd (fun h16 => ?_) (fun h16 => ?_)
            · try simp at h16
              all_goals
                refine jq [6] ?_
                refine W_ret (je (by simp [h3, h6, h9]; rfl) ?_)
                simp_all
            · try simp at h16
              all_goals
                refine W_skip (jq [6] ?_)
                refine W_ret (je (by simp [h3, h6, h9]; rfl) ?_)
                simp_all
end Go.Proofs
namespace Go.Proofs
open Go Go.Ev
abbrev tcT : List Tc := [.int .i64, .str, .int .i64]
theorem decT {vs : List V} (h : okL tcT vs) : ∃ x : Typ, V.agg vs = eT x ∧ bigT x := by
  obtain ⟨_, _, rfl, h0, h⟩ := okL_cons h
  obtain ⟨_, _, rfl, h1, h⟩ := okL_cons h
  obtain ⟨_, _, rfl, h2, h⟩ := okL_cons h
  obtain rfl := okL_nil h
  obtain ⟨a, rfl, _⟩ := okC_int h0
  obtain ⟨b, rfl, hb⟩ := okC_str h1
  obtain ⟨c, rfl, _⟩ := okC_int h2
  exact ⟨⟨a, b, c⟩, rfl, by simp only [bigT]; omega⟩
abbrev aT : Bool × List Tc := (false, tcT)
theorem okA_T {r : List (Bool × List Tc)} {vs : List V} (h : okA (aT :: r) vs) : ∃ (t : Typ) (ws : List V), vs = eT t :: ws ∧ bigT t ∧ okA r ws := by
  obtain ⟨v, ws, rfl, h1, h2⟩ := okA_cons h
  simp only [Bool.false_eq_true, if_false] at h1
  obtain ⟨us, rfl, h1⟩ := h1
  obtain ⟨t, e, hb⟩ := decT h1
  exact ⟨t, ws, by rw [e], hb, h2⟩
end Go.Proofs
namespace Go.Proofs
open Go Go.Ev


theorem cb_spec_l06Lub : Callable Tryz.prog 84 := ⟨_, Tryz.func84, by kernel_rfl, by kernel_rfl⟩
theorem ct_spec_l06Lub {l : List Cls} (hl : l.length ≤ 1099511627776) (hw : rightW l = true) {a b : Typ} : Ct Tryz.prog 84 [.lst false 6 (l.map eC), eT a, eT b] [] (eT (lubT l a b)) [] := by
  refine Ct_bodyS tok Tryz.func84 rfl 78 (by kernel_rfl) (by kernel_rfl) fun X hX => ?_
  refine jq [0, 4, 5, 6] ?_
  refine jq [0, 4, 5, 6, 7] ?_
  refine W_rseqK [0, 4, 5, 6, 7, 8] (jt 4 (k:=(jm 3 14 [0, 4, 5, 6, 7, 17] (p:=fun b2_4 => by (try simp at b2_4); exact (jh hX (by simp [-atD_lt, -atL_lt]; rfl))) (q:=fun b2_4 => by (try simp at b2_4); exact (js hX 1 (by simp [-atD_lt, -atL_lt]; rfl) (Runs.call [] rfl (by simp) rfl (by simp [-atD_lt, -atL_lt]; rfl) (by simp; rfl) (by apply ct_spec_l06List <;> first | assumption | omega | (simp at *; omega) | simp_all) cb_spec_l06List (by simp) (by simp) (by simp [-atD_lt, -atL_lt]; rfl) (jh hX (by simp [-atD_lt, -atL_lt]; rfl))))) (k:=jr)))) ?_
  refine W_rseqK [0, 4, 5, 6, 7, 8, 9] (jt 4 (k:=(jm 3 21 [0, 4, 5, 6, 7, 8, 24] (p:=fun b3_4 => by (try simp at b3_4); exact (jh hX (by simp [-atD_lt, -atL_lt]; rfl))) (q:=fun b3_4 => by (try simp at b3_4); exact (js hX 1 (by simp [-atD_lt, -atL_lt]; rfl) (Runs.call [] rfl (by simp) rfl (by simp [-atD_lt, -atL_lt]; rfl) (by simp; rfl) (by apply ct_spec_l06List <;> first | assumption | omega | (simp at *; omega) | simp_all) cb_spec_l06List (by simp) (by simp) (by simp [-atD_lt, -atL_lt]; rfl) (jh hX (by simp [-atD_lt, -atL_lt]; rfl))))) (k:=jr)))) ?_
  refine W_seq (W_block (jq [0, 4, 5, 6, 7, 8, 9, 25] ?_))
  refine jd (fun h4 => ?_) (fun h4 => ?_)
  · try simp at h4
    refine jq [6] ?_
    refine W_ret (je0 ?_)
    cases a; cases b; simp only [lubT, objT, zT, sObject, eT] at *
    (try simp_all) <;> grind
  · try simp at h4
    refine W_rseqK [0, 4, 5, 6, 7, 8, 9, 30] (jt 4 (k:=(jm 2 34 [0, 4, 5, 6, 7, 8, 9, 36] (p:=fun b6_4 => by (try simp at b6_4); exact (jh hX (by simp [-atD_lt, -atL_lt]; rfl))) (q:=fun b6_4 => by (try simp at b6_4); exact (jh hX (by simp [-atD_lt, -atL_lt]; rfl))) (k:=jr)))) ?_
    refine jd (fun h6 => ?_) (fun h6 => ?_)
    · try simp at h6
      refine jq [6] ?_
      refine W_ret (je0 ?_)
      cases a; cases b; simp only [lubT, objT, zT, sObject, eT] at *
      (try simp_all) <;> grind
    · try simp at h6
      refine W_rseqK [0, 4, 5, 6, 7, 8, 9, 38] (jt 4 (k:=(jm 2 42 [0, 4, 5, 6, 7, 8, 9, 44] (p:=fun b8_4 => by (try simp at b8_4); exact (jh hX (by simp [-atD_lt, -atL_lt]; rfl))) (q:=fun b8_4 => by (try simp at b8_4); exact (jh hX (by simp [-atD_lt, -atL_lt]; rfl))) (k:=jr)))) ?_
      refine jd (fun h8 => ?_) (fun h8 => ?_)
      · try simp at h8
        refine jq [6] ?_
        refine W_ret (je0 ?_)
        cases a; cases b; simp only [lubT, objT, zT, sObject, eT] at *
        (try simp_all) <;> grind
      · try simp at h8
        refine W_rseqK [0, 4, 5, 6, 7, 8, 9, 46] (jt 6 (k:=(jm 9 52 [0, 4, 5, 6, 7, 8, 9, 61] (p:=fun b10_6 => by (try simp at b10_6); exact (js hX 4 (by simp [-atD_lt, -atL_lt]; rfl) (jm 4 56 [0, 4, 5, 6, 7, 8, 9, 52, 60] (p:=fun b10_10 => by (try simp at b10_10); exact (jh hX (by simp [-atD_lt, -atL_lt]; rfl))) (q:=fun b10_10 => by (try simp at b10_10); exact (jh hX (by simp [-atD_lt, -atL_lt]; rfl))) (k:=(jh hX (by simp [-atD_lt, -atL_lt]; rfl)))))) (q:=fun b10_6 => by (try simp at b10_6); exact (jh hX (by simp [-atD_lt, -atL_lt]; rfl))) (k:=jr)))) ?_
        refine jd (fun h10 => ?_) (fun h10 => ?_)
        · try simp at h10
          refine jL 8 [0, 1, 2, 3, 4, 5, 6] [7] [6] ([0, 1]) hX (by simp; rfl) (jH (p:=fun X hX => (jc [] (c:=(by apply ct_spec_l05Common <;> first | assumption | omega | (simp at *; omega) | simp_all)) (a:=cb_spec_l05Common) (k:=jf))) (k:=.nil)) jr ?_
          refine W_ret (je0 ?_)
          cases a; cases b; simp only [lubT, objT, zT, sObject, eT] at *
          (try simp_all) <;> grind
        · try simp at h10
          refine W_rseqK [6, 7, 71] (jt 2 (k:=(jm 2 73 [6, 7, 75] (p:=fun b12_2 => by (try simp at b12_2); exact (jh hX (by simp [-atD_lt, -atL_lt]; rfl))) (q:=fun b12_2 => by (try simp at b12_2); exact (jh hX (by simp [-atD_lt, -atL_lt]; rfl))) (k:=jr)))) ?_
          refine jd (fun h12 => ?_) (fun h12 => ?_)
          · try simp at h12
            refine jq [6] ?_
            refine W_ret (je0 ?_)
            cases a; cases b; simp only [lubT, objT, zT, sObject, eT] at *
            (try simp_all) <;> grind
          · try simp at h12
            refine W_skip (jq [6] ?_)
            refine W_ret (je0 ?_)
            cases a; cases b; simp only [lubT, objT, zT, sObject, eT] at *
            (try simp_all) <;> grind
end Go.Proofs
namespace Go.Proofs
open Go Go.Ev


theorem cb_spec_TypeLub : Callable Tryz.prog 34 := ⟨_, Tryz.func34, by kernel_rfl, by kernel_rfl⟩
theorem ct_spec_TypeLub {l : List Cls} {a b : Typ} (hl : sizeL l ≤ 1099511627776) : Ct Tryz.prog 34 [.lst false 6 (l.map eC), eT a, eT b] [] (eT (lubW l a b)) [] := by
  have hll : l.length ≤ 1099511627776 := by unfold sizeL at hl; omega
  refine Ct_bodyS tok Tryz.func34 rfl 22 (by kernel_rfl) (by kernel_rfl) fun X hX => ?_
  refine jq [0, 4, 5, 6] ?_
  refine W_seq (W_rseqK [0, 4, 5, 6, 16] (jt 2 (k:=(jc [] (c:=(by apply ct_spec_TypeKnown <;> first | assumption | omega | exact right_of_known (t := a) (by simp_all))) (a:=cb_spec_TypeKnown) (k:=(jt 2 (k:=(jm 5 11 [0, 4, 5, 6, 16] (p:=fun b1_5 => by (try simp at b1_5); exact (jh hX (by simp [-atD_lt, -atL_lt]; rfl))) (q:=fun b1_5 => by (try simp at b1_5); exact (js hX 2 (by simp [-atD_lt, -atL_lt]; rfl) (Runs.call [] rfl (by simp) rfl (by simp [-atD_lt, -atL_lt]; rfl) (by simp; rfl) (by apply ct_spec_l06Known <;> first | assumption | omega | exact right_of_known (t := a) (by simp_all)) cb_spec_l06Known (by simp) (by simp) (by simp [-atD_lt, -atL_lt]; rfl) (jh hX (by simp [-atD_lt, -atL_lt]; rfl))))) (k:=jf)))))))) ?_)
  refine jd (fun h1 => ?_) (fun h1 => ?_)
  · try simp at h1
    refine jq [6] ?_
    refine W_ret (je0 ?_)
    simp only [lubW, typeKnownW, zT] at *
    (try simp_all) <;> grind
  · try simp at h1
    refine W_skip (W_rseqK [6] (jt 3 (k:=(jc [] (c:=(by apply ct_spec_l06Lub <;> first | assumption | omega | exact right_of_known (t := a) (by simp_all))) (a:=cb_spec_l06Lub) (k:=jr)))) ?_)
    refine W_ret (je0 ?_)
    simp only [lubW, typeKnownW, zT] at *
    (try simp_all) <;> grind
end Go.Proofs
namespace Go.Proofs
open Go Go.Ev


theorem cb_impl_world_typeLub : Callable Tryz.prog 85 := ⟨_, Tryz.func85, by kernel_rfl, by kernel_rfl⟩
theorem ct_impl_world_typeLub {l : List Cls} (hl : l.length ≤ 1048576) {a b : Typ} : Ct Tryz.prog 85 [wv l, eT a, eT b] [] (eT (lubI l a b)) [] := by
  refine Ct_bodyS tok Tryz.func85 rfl 48 (by kernel_rfl) (by kernel_rfl) fun X hX => ?_
  refine jq [0, 4, 5, 6] ?_
  refine W_seq (W_block (jq [0, 4, 5, 6, 7] ?_))
  refine jd (fun h1 => ?_) (fun h1 => ?_)
  · try simp at h1
    refine jq [6] ?_
    refine W_ret (je0 ?_)
    cases a; cases b; simp only [lubI, isObj, objT, sObject, zT, eT] at *
    (try simp_all) <;> grind
  · try simp at h1
    refine W_rseqK [0, 4, 5, 6, 12] (jt 1 (k:=(jc [] (c:=(by apply ct_impl_Type_isObject <;> first | assumption | omega | (simp at *; omega) | simp_all)) (a:=cb_impl_Type_isObject) (k:=(jt 2 (k:=(jm 4 16 [0, 4, 5, 6, 20] (p:=fun b3_4 => by (try simp at b3_4); exact (jh hX (by simp [-atD_lt, -atL_lt]; rfl))) (q:=fun b3_4 => by (try simp at b3_4); exact (js hX 1 (by simp [-atD_lt, -atL_lt]; rfl) (Runs.call [] rfl (by simp) rfl (by simp [-atD_lt, -atL_lt]; rfl) (by simp; rfl) (by apply ct_impl_Type_isObject <;> first | assumption | omega | (simp at *; omega) | simp_all) cb_impl_Type_isObject (by simp) (by simp) (by simp [-atD_lt, -atL_lt]; rfl) (jh hX (by simp [-atD_lt, -atL_lt]; rfl))))) (k:=jr)))))))) ?_
    refine jd (fun h3 => ?_) (fun h3 => ?_)
    · try simp at h3
      refine jq [6] ?_
      refine W_ret (je0 ?_)
      cases a; cases b; simp only [lubI, isObj, objT, sObject, zT, eT] at *
      (try simp_all) <;> grind
    · try simp at h3
      refine jq [0, 4, 5, 6, 22] ?_
      refine jd (fun h5 => ?_) (fun h5 => ?_)
      · try simp at h5
        refine jq [6] ?_
        refine W_ret (je0 ?_)
        cases a; cases b; simp only [lubI, isObj, objT, sObject, zT, eT] at *
        (try simp_all) <;> grind
      · try simp at h5
        refine jq [0, 4, 5, 6, 27] ?_
        refine jd (fun h7 => ?_) (fun h7 => ?_)
        · try simp at h7
          refine jq [6] ?_
          refine W_ret (je0 ?_)
          cases a; cases b; simp only [lubI, isObj, objT, sObject, zT, eT] at *
          (try simp_all) <;> grind
        · try simp at h7
          refine jq [0, 4, 5, 6, 32] ?_
          refine jd (fun h9 => ?_) (fun h9 => ?_)
          · try simp at h9
            refine jL 8 [0, 1, 2, 3, 4, 5, 6] [7] [6] ([0, 1]) hX (by simp; rfl) (jH (p:=fun X hX => (jc [] (c:=(by apply ct_impl_world_common <;> first | assumption | omega | (simp at *; omega) | simp_all)) (a:=cb_impl_world_common) (k:=jf))) (k:=.nil)) jr ?_
            refine W_ret (je0 ?_)
            cases a; cases b; simp only [lubI, isObj, objT, sObject, zT, eT] at *
            (try simp_all) <;> grind
          · try simp at h9
            refine W_skip (W_rseqK [6] (jc [] (c:=(by apply ct_impl_ref <;> first | assumption | omega | (simp at *; omega) | simp_all)) (a:=cb_impl_ref) (k:=jr)) ?_)
            refine W_ret (je0 ?_)
            cases a; cases b; simp only [lubI, isObj, objT, sObject, zT, eT] at *
            (try simp_all) <;> grind
end Go.Proofs
namespace Go.Proofs
open Go Go.Ev


theorem cb_impl_TypeLub : Callable Tryz.prog 35 := ⟨_, Tryz.func35, by kernel_rfl, by kernel_rfl⟩
theorem ct_impl_TypeLub {l : List Cls} (hl : l.length ≤ 1048576) (hs : sizeL l ≤ 1099511627776) {a b : Typ} : Ct Tryz.prog 35 [.lst false 6 (l.map eC), eT a, eT b] [] (eT (lubW l a b)) [] := by
  refine Ct_bodyS tok Tryz.func35 rfl 33 (by kernel_rfl) (by kernel_rfl) fun X hX => ?_
  refine jq [0, 4, 5, 6] ?_
  refine W_rseqK [4, 5, 6, 7, 8] (jt 1 (k:=(jc [] (c:=(by apply ct_impl_rightWorld <;> first | assumption | omega | (simp at *; omega) | simp_all)) (a:=cb_impl_rightWorld) (k:=jr)))) ?_
  refine W_seq (W_rseqK [4, 5, 6, 7, 27] (jt 3 (k:=(jm 5 16 [4, 5, 6, 7, 21] (p:=fun b2_3 => by (try simp at b2_3); exact (jh hX (by simp [-atD_lt, -atL_lt]; rfl))) (q:=fun b2_3 => by (try simp at b2_3); exact (js hX 2 (by simp [-atD_lt, -atL_lt]; rfl) (Runs.call [] rfl (by simp) rfl (by simp [-atD_lt, -atL_lt]; rfl) (by simp; rfl) (by apply ct_impl_world_typeKnown <;> first | assumption | omega | (simp at *; omega) | simp_all) cb_impl_world_typeKnown (by simp) (by simp) (by simp [-atD_lt, -atL_lt]; rfl) (jh hX (by simp [-atD_lt, -atL_lt]; rfl))))) (k:=(jt 1 (k:=(jm 5 22 [4, 5, 6, 7, 27] (p:=fun b2_9 => by (try simp at b2_9); exact (jh hX (by simp [-atD_lt, -atL_lt]; rfl))) (q:=fun b2_9 => by (try simp at b2_9); exact (js hX 2 (by simp [-atD_lt, -atL_lt]; rfl) (Runs.call [] rfl (by simp) rfl (by simp [-atD_lt, -atL_lt]; rfl) (by simp; rfl) (by apply ct_impl_world_typeKnown <;> first | assumption | omega | (simp at *; omega) | simp_all) cb_impl_world_typeKnown (by simp) (by simp) (by simp [-atD_lt, -atL_lt]; rfl) (jh hX (by simp [-atD_lt, -atL_lt]; rfl))))) (k:=jf)))))))) ?_)
  refine jd (fun h2 => ?_) (fun h2 => ?_)
  · try simp at h2
    refine jq [6] ?_
    refine W_ret (je0 ?_)
    have h2b : (rightW l && knownT l a && knownT l b) = false := by grind
    simp only [lubW, h2b]; rfl
  · try simp at h2
    refine W_skip (W_rseqK [6] (jt 3 (k:=(jc [] (c:=(by apply ct_impl_world_typeLub <;> first | assumption | omega | (simp at *; omega) | simp_all)) (a:=cb_impl_world_typeLub) (k:=jr)))) ?_)
    refine W_ret (je0 ?_)
    have h2b : knownT l a = true ∧ knownT l b = true ∧ (rightW l && knownT l a && knownT l b) = true := by grind
    simp only [lubW, h2b.2.2, if_true, lub_eq h2b.1 h2b.2.1]; rfl
end Go.Proofs
namespace Go.Proofs
open Go Go.Ev


theorem cb_laws_eqType : Callable Tryz.prog 36 := ⟨_, Tryz.func36, by kernel_rfl, by kernel_rfl⟩
theorem ct_laws_eqType {x y : Typ} : Ct Tryz.prog 36 [eT x, eT y] [] (.bool (decide (x = y))) [] := by
  refine Ct_bodyS tok Tryz.func36 rfl 20 (by kernel_rfl) (by kernel_rfl) fun X hX => ?_
  refine jq [2, 3] ?_
  refine W_seq (jq [2, 3, 9] ?_)
  refine jd (fun h1 => ?_) (fun h1 => ?_)
  · try simp at h1
    refine jq [4] ?_
    refine W_ret (je0 ?_)
    (try simp at *) <;> cases x <;> cases y <;> simp_all
  · try simp at h1
    refine W_skip (W_seq (jq [2, 3, 14] ?_))
    refine jd (fun h3 => ?_) (fun h3 => ?_)
    · try simp at h3
      refine jq [4] ?_
      refine W_ret (je0 ?_)
      (try simp at *) <;> cases x <;> cases y <;> simp_all
    · try simp at h3
      refine W_skip (W_seq (jq [19] ?_))
      refine jd (fun h5 => ?_) (fun h5 => ?_)
      · try simp at h5
        refine jq [4] ?_
        refine W_ret (je0 ?_)
        (try simp at *) <;> cases x <;> cases y <;> simp_all
      · try simp at h5
        refine W_skip (jq [4] ?_)
        refine W_ret (je0 ?_)
        (try simp at *) <;> cases x <;> cases y <;> simp_all
end Go.Proofs
namespace Go.Proofs
open Go Go.Ev


theorem cb_laws_FnExactTypeLub : Callable Tryz.prog 8 := ⟨_, Tryz.func8, by kernel_rfl, by kernel_rfl⟩
theorem ct_laws_FnExactTypeLub {l : List Cls} {t1 : Typ} {t2 : Typ} (hl : l.length < 4611686018427387904) (bl : ∀ y ∈ l, bigC y) (ht1 : bigT t1) (ht2 : bigT t2) : Ct Tryz.prog 8 [.lst false 6 (l.map eC), eT t1, eT t2] [] (.bool true) [] := by
  refine Ct_bodyS tok Tryz.func8 rfl 50 (by kernel_rfl) (by kernel_rfl) fun X hX => ?_
  refine jq [0, 4, 5] ?_
  refine jq [0, 4, 5, 7] ?_
  refine W_rseqK [0, 4, 5, 7] (jt 2 (k:=(jc [] (c:=(by apply ct_laws_szClassS <;> first | assumption | omega)) (a:=cb_laws_szClassS) (k:=jr)))) ?_
  refine W_seq (jq [0, 4, 5, 7, 15] ?_)
  refine jd (fun h3 => ?_) (fun h3 => ?_)
  · try simp at h3
    refine jq [6] ?_
    refine W_ret (je (by simp [h3]; rfl) ?_)
    simp_all
  · try simp at h3
    have k3 := sub_ok h3
    have hsL : sizeL l ≤ 1048576 := by have := k3.1; unfold sizeL; omega
    refine W_skip (W_rseqK [0, 4, 5, 7] (js hX 2 (by simp [h3]; rfl) (jc [] (c:=(by apply ct_laws_szType <;> first | assumption | omega)) (a:=cb_laws_szType) (k:=jr))) ?_)
    refine W_seq (jq [0, 4, 5, 7, 20] ?_)
    refine jd (fun h6 => ?_) (fun h6 => ?_)
    · try simp at h6
      refine jq [6] ?_
      refine W_ret (je (by simp [h3, h6]; rfl) ?_)
      simp_all
    · try simp at h6
      have k6 := sub_ok h6
      refine W_skip (W_rseqK [0, 4, 5, 7] (js hX 2 (by simp [h3, h6]; rfl) (jc [] (c:=(by apply ct_laws_szType <;> first | assumption | omega)) (a:=cb_laws_szType) (k:=jr))) ?_)
      refine W_seq (jq [0, 4, 5, 25] ?_)
      refine jd (fun h9 => ?_) (fun h9 => ?_)
      · try simp at h9
        refine jq [6] ?_
        refine W_ret (je (by simp [h3, h6, h9]; rfl) ?_)
        simp_all
      · try simp at h9
        have k9 := sub_ok h9
        refine W_skip (jK 8 [0, 2, 4] (.two 1 7 (.two 3 7 (.two 5 7 (.two 6 7 (.one 7 .tail) (.one 6 .tail)) (.one 5 (.one 6 .tail))) (.one 3 (.one 5 (.one 6 .tail)))) (.one 1 (.one 3 (.one 5 (.one 6 .tail))))) [0, 4, 5, 8] ([0, 1]) hX (by simp [h3, h6, h9]; rfl) (.two (jN (p:=fun X hX => (jF (c:=(by apply ct_laws_toClassS <;> first | assumption | omega | exact fun y hy => Nat.le_trans (mem_sum hy) (by omega))) (a:=cb_laws_toClassS) (k:=jf))) (k:=(.two (jN (p:=fun X hX => (jF (c:=(by apply ct_laws_toType <;> first | assumption | omega | exact fun y hy => Nat.le_trans (mem_sum hy) (by omega))) (a:=cb_laws_toType) (k:=jf))) (k:=(.two (jN (p:=fun X hX => (jF (c:=(by apply ct_laws_toType <;> first | assumption | omega | exact fun y hy => Nat.le_trans (mem_sum hy) (by omega))) (a:=cb_laws_toType) (k:=jf))) (k:=(.two (jN (p:=fun X hX => (jc [] (c:=(by apply ct_spec_TypeLub <;> first | assumption | omega)) (a:=cb_spec_TypeLub) (k:=jf))) (k:=(jN (p:=fun X hX => jr) (k:=.tail)))) (jN (p:=fun X hX => jr) (k:=(jN (p:=fun X hX => (jc [] (c:=(by apply ct_spec_TypeLub <;> first | assumption | omega)) (a:=cb_spec_TypeLub) (k:=jf))) (k:=.tail))))))) (jN (p:=fun X hX => jr) (k:=(jN (p:=fun X hX => (jF (c:=(by apply ct_laws_toType <;> first | assumption | omega | exact fun y hy => Nat.le_trans (mem_sum hy) (by omega))) (a:=cb_laws_toType) (k:=jf))) (k:=(jN (p:=fun X hX => (jc [] (c:=(by apply ct_spec_TypeLub <;> first | assumption | omega)) (a:=cb_spec_TypeLub) (k:=jf))) (k:=.tail))))))))) (jN (p:=fun X hX => jr) (k:=(jN (p:=fun X hX => (jF (c:=(by apply ct_laws_toType <;> first | assumption | omega | exact fun y hy => Nat.le_trans (mem_sum hy) (by omega))) (a:=cb_laws_toType) (k:=jf))) (k:=(jN (p:=fun X hX => (jF (c:=(by apply ct_laws_toType <;> first | assumption | omega | exact fun y hy => Nat.le_trans (mem_sum hy) (by omega))) (a:=cb_laws_toType) (k:=jf))) (k:=(jN (p:=fun X hX => (jc [] (c:=(by apply ct_spec_TypeLub <;> first | assumption | omega)) (a:=cb_spec_TypeLub) (k:=jf))) (k:=.tail))))))))))) (jN (p:=fun X hX => jr) (k:=(jN (p:=fun X hX => (jF (c:=(by apply ct_laws_toClassS <;> first | assumption | omega | exact fun y hy => Nat.le_trans (mem_sum hy) (by omega))) (a:=cb_laws_toClassS) (k:=jf))) (k:=(jN (p:=fun X hX => (jF (c:=(by apply ct_laws_toType <;> first | assumption | omega | exact fun y hy => Nat.le_trans (mem_sum hy) (by omega))) (a:=cb_laws_toType) (k:=jf))) (k:=(jN (p:=fun X hX => (jF (c:=(by apply ct_laws_toType <;> first | assumption | omega | exact fun y hy => Nat.le_trans (mem_sum hy) (by omega))) (a:=cb_laws_toType) (k:=jf))) (k:=(jN (p:=fun X hX => (jc [] (c:=(by apply ct_spec_TypeLub <;> first | assumption | omega)) (a:=cb_spec_TypeLub) (k:=jf))) (k:=.tail))))))))))) (jh hX (by simp [h3, h6, h9]; rfl)) ?_)
        refine W_rseqK [0, 4, 5, 8, 9] (jt 1 (k:=(jF (c:=(by apply ct_laws_toClassS <;> first | assumption | omega | exact fun y hy => Nat.le_trans (mem_sum hy) (by omega))) (a:=cb_laws_toClassS) (k:=jr)))) ?_
        refine jK 7 [0, 1, 3] (.two 2 6 (.two 4 6 (.two 5 6 (.one 6 .tail) (.one 5 .tail)) (.one 4 (.one 5 .tail))) (.one 2 (.one 4 (.one 5 .tail)))) [0, 8, 9, 10] ([0, 1]) hX (by simp [h3, h6, h9]; rfl) (.two (jN (p:=fun X hX => (jF (c:=(by apply ct_laws_toType <;> first | assumption | omega | exact fun y hy => Nat.le_trans (mem_sum hy) (by omega))) (a:=cb_laws_toType) (k:=jf))) (k:=(.two (jN (p:=fun X hX => (jF (c:=(by apply ct_laws_toType <;> first | assumption | omega | exact fun y hy => Nat.le_trans (mem_sum hy) (by omega))) (a:=cb_laws_toType) (k:=jf))) (k:=(.two (jN (p:=fun X hX => (jc [] (c:=(by apply ct_impl_TypeLub <;> first | assumption | omega)) (a:=cb_impl_TypeLub) (k:=jf))) (k:=(jN (p:=fun X hX => jr) (k:=.tail)))) (jN (p:=fun X hX => jr) (k:=(jN (p:=fun X hX => (jc [] (c:=(by apply ct_impl_TypeLub <;> first | assumption | omega)) (a:=cb_impl_TypeLub) (k:=jf))) (k:=.tail))))))) (jN (p:=fun X hX => jr) (k:=(jN (p:=fun X hX => (jF (c:=(by apply ct_laws_toType <;> first | assumption | omega | exact fun y hy => Nat.le_trans (mem_sum hy) (by omega))) (a:=cb_laws_toType) (k:=jf))) (k:=(jN (p:=fun X hX => (jc [] (c:=(by apply ct_impl_TypeLub <;> first | assumption | omega)) (a:=cb_impl_TypeLub) (k:=jf))) (k:=.tail))))))))) (jN (p:=fun X hX => jr) (k:=(jN (p:=fun X hX => (jF (c:=(by apply ct_laws_toType <;> first | assumption | omega | exact fun y hy => Nat.le_trans (mem_sum hy) (by omega))) (a:=cb_laws_toType) (k:=jf))) (k:=(jN (p:=fun X hX => (jF (c:=(by apply ct_laws_toType <;> first | assumption | omega | exact fun y hy => Nat.le_trans (mem_sum hy) (by omega))) (a:=cb_laws_toType) (k:=jf))) (k:=(jN (p:=fun X hX => (jc [] (c:=(by apply ct_impl_TypeLub <;> first | assumption | omega)) (a:=cb_impl_TypeLub) (k:=jf))) (k:=.tail))))))))) (jh hX (by simp [h3, h6, h9]; rfl)) ?_
        refine W_seq (W_rseqK [0, 9, 44] (js hX 2 (by simp [h3, h6, h9]; rfl) (jc [] (c:=(by apply ct_laws_eqType <;> first | assumption | omega)) (a:=cb_laws_eqType) (k:=jr))) ?_)
        refine jd (fun h14 => ?_) (fun h14 => ?_)
        · try simp at h14
          all_goals
            refine jq [6] ?_
            refine W_ret (je (by simp [h3, h6, h9]; rfl) ?_)
            simp_all
        · try simp at h14
          all_goals
            refine W_skip (W_seq (W_rseqK [49] (jt 2 (k:=(jF (c:=(by apply ct_laws_toClassS <;> first | assumption | omega | exact fun y hy => Nat.le_trans (mem_sum hy) (by omega))) (a:=cb_laws_toClassS) (k:=(jc [] (c:=(by apply ct_laws_eqClassS <;> first | assumption | omega)) (a:=cb_laws_eqClassS) (k:=jr)))))) ?_))
            refine jd (fun h16 => ?_) (fun h16 => ?_)
            · try simp at h16
              all_goals
                refine jq [6] ?_
                refine W_ret (je (by simp [h3, h6, h9]; rfl) ?_)
                simp_all
            · try simp at h16
              all_goals
                refine W_skip (jq [6] ?_)
                refine W_ret (je (by simp [h3, h6, h9]; rfl) ?_)
                simp_all
end Go.Proofs
namespace Go.Proofs
open Go Go.Ev


theorem cb_laws_szTypeS : Callable Tryz.prog 77 := ⟨_, Tryz.func77, by kernel_rfl, by kernel_rfl⟩
theorem ct_laws_szTypeS {l : List Typ} {z : Int} (h : l.length < 4611686018427387904) (hb : ∀ y ∈ l, bigT y) (h0 : 0 ≤ z) (h1 : z ≤ 1099511627776) : Ct Tryz.prog 77 [.lst false 3 (l.map eT), .int .i64 z] [] (.int .i64 (sub z (l.length + (l.map sizeT).sum))) [] := by
  refine Ct_bodyS tok Tryz.func77 rfl 27 (by kernel_rfl) (by kernel_rfl) fun X hX => ?_
  refine jq [0, 1] ?_
  refine W_rseqK [0, 1] (jh hX (by simp; (try (simp (disch := omega) only [wrap_i64]; (try simp))); rfl)) ?_
  refine W_seq (jq [0, 1, 11] ?_)
  refine jd (fun h2 => ?_) (fun h2 => ?_)
  · try simp at h2
    refine jq [4] ?_
    refine W_ret (je (by simp [h2]; rfl) ?_)
    grind [sub]
  · try simp at h2
    refine W_skip (W_seq (jq [0, 1, 5] ?_))
    refine W_block (W_loopU (α := Nat × Int) [0, 1, 5] (fun p => [(1, .int .i64 p.2), (5, .int .i64 p.1)]) (fun p => []) (fun p => p.1 ≤ l.length ∧ 0 ≤ p.2 ∧ p.2 ≤ 1099511627776 ∧ sub p.2 ((l.drop p.1).map sizeT).sum = sub z (l.length + (l.map sizeT).sum)) (fun p => l.length - p.1) ((0, z - l.length)) (fun p => by simp; rfl) (by simp) ?_ ?_)
    · exact ⟨by simp, by simp; omega, by simp; omega, by simp [sub]; grind⟩
    rintro ⟨i, y⟩ ⟨hi, hy0, hy1, hI⟩
    simp only at hi hy0 hy1 hI
    refine W_seq (W_rseqK [0, 1, 5, 15] (jh hX (by simp [h2]; rfl)) ?_)
    refine jd (fun h5 => ?_) (fun h5 => ?_)
    · try simp at h5
      rw [List.drop_eq_getElem_cons h5] at hI
      simp only [List.map_cons, List.sum_cons] at hI
      refine W_skip (W_seq (W_block (W_rseqK [0, 1, 5] (js hX 5 (by simp [h2, h5]; rfl) (jc [] (c:=(by apply ct_laws_szType <;> first | assumption | omega | exact hb _ (List.getElem_mem _))) (a:=cb_laws_szType) (k:=jr))) ?_)))
      refine jq [0, 1, 5, 25] ?_
      refine jd (fun h8 => ?_) (fun h8 => ?_)
      · try simp at h8
        refine jq [4] ?_
        refine W_ret (je (by simp [h2, h5, h8]; rfl) ?_)
        grind [sub]
      · try simp at h8
        refine W_skip (W_reg (jh hX (by simp; (try (simp (disch := omega) only [wrap_i64]; (try simp))); rfl)) ?_)
        refine round_end ((i + 1, sub y (sizeT l[i]))) [0, 1, 5] (by simp [h2, h5, h8]; try (simp (disch := omega) only [wrap_i64])) ?_ ?_
        · exact ⟨by simp; omega, by simp; grind [sub], by simp; grind [sub], by grind [sub]⟩
        · simp; omega
    · try simp at h5
      refine W_exit (jq [4] ?_)
      refine W_ret (je (by simp [h2, h5]; rfl) ?_)
      grind [sub]
end Go.Proofs
namespace Go.Proofs
open Go Go.Ev


theorem cb_laws_szFrame : Callable Tryz.prog 27 := ⟨_, Tryz.func27, by kernel_rfl, by kernel_rfl⟩
theorem ct_laws_szFrame {x : Frm} {z : Int} (h : bigFr x) (h0 : 0 ≤ z) (h1 : z ≤ 1099511627776) : Ct Tryz.prog 27 [eFr x, .int .i64 z] [] (.int .i64 (sub z (sizeFr x))) [] := by
  simp only [bigFr] at h
  obtain ⟨g0, g1, g2, g3⟩ := h
  refine Ct_bodyS tok Tryz.func27 rfl 18 (by kernel_rfl) (by kernel_rfl) fun X hX => ?_
  refine jq [1, 2] ?_
  refine W_rseqK [1, 2] (jt 3 (k:=(jc [] (c:=(by apply ct_laws_szTypeS <;> first | assumption | omega | grind [sub])) (a:=cb_laws_szTypeS) (k:=jr)))) ?_
  refine W_seq (jq [1, 2, 10] ?_)
  refine jd (fun h2 => ?_) (fun h2 => ?_)
  · try simp at h2
    refine jq [4] ?_
    refine W_ret (je (by simp [h2]; rfl) ?_)
    grind [sub, sizeFr]
  · try simp at h2
    refine W_skip (W_rseqK [1] (js hX 3 (by simp [h2]; rfl) (jc [] (c:=(by apply ct_laws_szTypeS <;> first | assumption | omega | grind [sub])) (a:=cb_laws_szTypeS) (k:=jr))) ?_)
    refine W_seq (jq [1, 16] ?_)
    refine jd (fun h5 => ?_) (fun h5 => ?_)
    · try simp at h5
      refine jq [4] ?_
      refine W_ret (je (by simp [h2, h5]; rfl) ?_)
      grind [sub, sizeFr]
    · try simp at h5
      refine W_skip (jq [4] ?_)
      refine W_ret (je (by simp [h2, h5]; rfl) ?_)
      grind [sub, sizeFr]
end Go.Proofs
namespace Go.Proofs
open Go Go.Ev


theorem cb_spec_l07Frame : Callable Tryz.prog 78 := ⟨_, Tryz.func78, by kernel_rfl, by kernel_rfl⟩
theorem ct_spec_l07Frame {l : List Cls} {f : Frm} (hl : l.length ≤ 1099511627776) : Ct Tryz.prog 78 [.lst false 6 (l.map eC), eFr f] [] (.bool (frmR l f)) [] := by
  refine Ct_bodyS tok Tryz.func78 rfl 47 (by kernel_rfl) (by kernel_rfl) fun X hX => ?_
  refine jq [0, 3] ?_
  refine W_seq (W_rseqK [0, 3, 16] (jt 5 (k:=(jm 5 11 [0, 3, 16] (p:=fun b1_5 => by (try simp at b1_5); exact (jh hX (by simp [-atD_lt, -atL_lt]; rfl))) (q:=fun b1_5 => by (try simp at b1_5); exact (jh hX (by simp [-atD_lt, -atL_lt, b1_5]; rfl))) (k:=jf)))) ?_)
  refine jd (fun h1 => ?_) (fun h1 => ?_)
  · try simp at h1
    refine jq [4] ?_
    refine W_ret (je (by simp [h1]; rfl) ?_)
    unfold frmR; grind
  · try simp at h1
    refine W_skip (W_seq (jq [0, 3, 5] ?_))
    refine W_block (W_loopU (α := Nat) [0, 3, 5] (fun i => [(5, .int .i64 i)]) (fun i => []) (fun i => i ≤ f.stack.length ∧ (f.stack.drop i).all (knownT l) = f.stack.all (knownT l)) (fun i => f.stack.length - i) (0) (fun i => by simp; rfl) (by simp) ?_ ?_)
    · simp
    rintro i ⟨hi, hI⟩
    refine W_seq (W_rseqK [0, 3, 5, 21] (jh hX (by simp [h1]; rfl)) ?_)
    refine jd (fun h4 => ?_) (fun h4 => ?_)
    · try simp at h4
      rw [all_drop h4] at hI
      refine W_skip (W_seq (W_block (W_rseqK [0, 3, 5, 31] (js hX 6 (by simp [h1, h4]; rfl) (jc [] (c:=(by apply ct_spec_l06Known <;> first | assumption | omega | (simp at *; omega) | simp_all)) (a:=cb_spec_l06Known) (k:=jr))) ?_)))
      refine jd (fun h6 => ?_) (fun h6 => ?_)
      · try simp at h6
        refine jq [4] ?_
        refine W_ret (je (by simp [h1, h4]; rfl) ?_)
        unfold frmR; rw [← hI, h6]; simp
      · try simp at h6
        rw [h6, Bool.true_and] at hI
        refine W_skip (W_reg (jh hX (by simp; (try (simp (disch := omega) only [wrap_i64]; (try simp))); rfl)) ?_)
        refine round_end (i + 1) [0, 3, 5] (by simp [h1, h4]; try (simp (disch := omega) only [wrap_i64])) ?_ ?_
        · exact ⟨by omega, hI⟩
        · omega
    · try simp at h4
      rw [List.drop_eq_nil_of_le h4] at hI
      refine W_exit (W_seq (jq [0, 3, 6] ?_))
      refine W_block (W_loopU (α := Nat) [0, 3, 6] (fun i => [(6, .int .i64 i)]) (fun i => []) (fun i => i ≤ f.locals.length ∧ (f.locals.drop i).all (knownT l) = f.locals.all (knownT l)) (fun i => f.locals.length - i) (0) (fun i => by simp; rfl) (by simp) ?_ ?_)
      · simp
      rintro i ⟨hj, hJ⟩
      refine W_seq (W_rseqK [0, 3, 6, 36] (jh hX (by simp [h1, h4]; rfl)) ?_)
      refine jd (fun h9 => ?_) (fun h9 => ?_)
      · try simp at h9
        rw [all_drop h9] at hJ
        refine W_skip (W_seq (W_block (W_rseqK [0, 3, 6, 46] (js hX 6 (by simp [h1, h4, h9]; rfl) (jc [] (c:=(by apply ct_spec_l06Known <;> first | assumption | omega | (simp at *; omega) | simp_all)) (a:=cb_spec_l06Known) (k:=jr))) ?_)))
        refine jd (fun h11 => ?_) (fun h11 => ?_)
        · try simp at h11
          refine jq [4] ?_
          refine W_ret (je (by simp [h1, h4, h9]; rfl) ?_)
          unfold frmR; rw [← hJ, h11]; simp
        · try simp at h11
          rw [h11, Bool.true_and] at hJ
          refine W_skip (W_reg (jh hX (by simp; (try (simp (disch := omega) only [wrap_i64]; (try simp))); rfl)) ?_)
          refine round_end (i + 1) [0, 3, 6] (by simp [h1, h4, h9]; try (simp (disch := omega) only [wrap_i64])) ?_ ?_
          · exact ⟨by omega, hJ⟩
          · omega
      · try simp at h9
        rw [List.drop_eq_nil_of_le h9] at hJ
        refine W_exit (jq [4] ?_)
        refine W_ret (je (by simp [h1, h4, h9]; rfl) ?_)
        unfold frmR; rw [← hI, ← hJ]; grind
end Go.Proofs
namespace Go.Proofs
open Go Go.Ev


theorem cb_spec_FrameRight : Callable Tryz.prog 28 := ⟨_, Tryz.func28, by kernel_rfl, by kernel_rfl⟩
theorem ct_spec_FrameRight {l : List Cls} {f : Frm} (hl : sizeL l ≤ 1099511627776) : Ct Tryz.prog 28 [.lst false 6 (l.map eC), eFr f] [] (.bool (frmRightW l f)) [] := by
  have hll : l.length ≤ 1099511627776 := by unfold sizeL at hl; omega
  refine Ct_bodyS tok Tryz.func28 rfl 12 (by kernel_rfl) (by kernel_rfl) fun X hX => ?_
  refine jq [0, 3] ?_
  refine W_rseqK [4] (jt 1 (k:=(jc [] (c:=(by apply ct_spec_l05Right <;> first | assumption | omega | (simp at *; omega) | simp_all)) (a:=cb_spec_l05Right) (k:=(jt 1 (k:=(jm 4 7 [11] (p:=fun b1_3 => by (try simp at b1_3); exact (js hX 2 (by simp [-atD_lt, -atL_lt]; rfl) (Runs.call [] rfl (by simp) rfl (by simp [-atD_lt, -atL_lt]; rfl) (by simp; rfl) (by apply ct_spec_l07Frame <;> first | assumption | omega | (simp at *; omega) | simp_all) cb_spec_l07Frame (by simp) (by simp) (by simp [-atD_lt, -atL_lt]; rfl) (jh hX (by simp [-atD_lt, -atL_lt]; rfl))))) (q:=fun b1_3 => by (try simp at b1_3); exact (jh hX (by simp [-atD_lt, -atL_lt]; rfl))) (k:=jr)))))))) ?_
  refine W_ret (je0 ?_)
  simp only [frmRightW]
end Go.Proofs
