/- Part 12 of what the proofs lean on: what the functions of the program and of the reference compute. Conditions: none. -/
import Derived.Test.YtebbhmbngfpkaaaGreatK10
import Derived.Test.YtebbhmbngfpkaaaGreatRows
set_option linter.all false
set_option linter.unusedVariables false
set_option linter.unusedSimpArgs false
set_option maxHeartbeats 2000000
set_option maxRecDepth 100000
namespace Go.Proofs
open Go Go.Ev


theorem cb_impl_HeapGet : Callable Tryz.prog 13 := ⟨_, Tryz.func13, by kernel_rfl, by kernel_rfl⟩
theorem ct_impl_HeapGet_e {l : List Cls} (hl : l.length ≤ 1048576) (hs : sizeL l ≤ 1048576) {h : Hep} (ho : sizeHp h ≤ 1048576) {a p c : Int} (hc : c ≠ 0) (hV : hpOfV l h [] = .tup [nilP, nilP, .int .i64 c]) : Ct Tryz.prog 13 [.lst false 6 (l.map eC), eHp h, .int .i64 a, .int .i64 p] [] (oHo (zHo c)) [] := by
  refine Ct_bodyS tok Tryz.func13 rfl 43 (by kernel_rfl) (by kernel_rfl) fun X hX => ?_
  refine W_rseqK [0, 2, 3, 5, 8] (jh hX (by simp [hV, nilP, hc]; rfl)) ?_
  refine W_rseqK [2, 3, 8, 10, 11] (js hX 2 (by simp [hV, nilP, hc]; rfl) (Runs.call [] rfl (by simp) rfl (by simp [hV, nilP, hc]; rfl) (by simp; rfl) (by apply ct_impl_heapOf_0 <;> first | assumption | omega | (simp; done) | exact hY3 3 | exact hZ3 3 | (simp; omega)) cb_impl_heapOf (by simp) (by simp) (by simp [hV, nilP, hc]; rfl) (jh hX (by simp [hV, nilP, hc]; rfl)))) ?_
  refine W_seq (W_rseqK [2, 3, 8, 10, 11, 22] (jh hX (by simp [hV, nilP, hc]; rfl)) ?_)
  refine jd (fun h2 => ?_) (fun h2 => ?_)
  · try simp at h2
    refine W_rseqK [8] (jh hX (by simp [hV, nilP, hc]; rfl)) ?_
    refine W_ret (W_retR (by simp [hV, nilP, hc]; rfl) ?_ rfl)
    exact zHo_wk _
  · try simp at h2
    all_goals skip --done
theorem ct_impl_HeapGet_no {l : List Cls} (hl : l.length ≤ 1048576) (hs : sizeL l ≤ 1048576) {h : Hep} (ho : sizeHp h ≤ 1048576) {a p : Int} (hV : hpOfV l h [] = .tup [wv l, .bx 2 (oHp h), .int .i64 0]) (hn : placeR h a p = false) : Ct Tryz.prog 13 [.lst false 6 (l.map eC), eHp h, .int .i64 a, .int .i64 p] [] (oHo (zHo 8)) [] := by
  refine Ct_bodyS tok Tryz.func13 rfl 43 (by kernel_rfl) (by kernel_rfl) fun X hX => ?_
  refine W_rseqK [0, 2, 3, 5, 8] (jh hX (by simp [hV]; rfl)) ?_
  refine W_rseqK [2, 3, 8, 10, 11] (js hX 2 (by simp [hV]; rfl) (Runs.call [] rfl (by simp) rfl (by simp [hV]; rfl) (by simp; rfl) (by apply ct_impl_heapOf_0 <;> first | assumption | omega) cb_impl_heapOf (by simp) (by simp) (by simp [hV]; rfl) (jh hX (by simp [hV]; rfl)))) ?_
  refine W_seq (W_rseqK [2, 3, 8, 10, 11, 22] (jh hX (by simp [hV]; rfl)) ?_)
  refine jd (fun h2 => ?_) (fun h2 => ?_)
  · try simp at h2
    all_goals skip --done
  · try simp at h2
    refine W_skip (W_rseqK [3, 8, 10, 12, 13] (js hX 3 (by simp [hV]; rfl) (Runs.callB rfl (by simp) rfl (by simp [hV]; rfl) (by apply ct_impl_Heap_place_no <;> first | assumption | omega) cb_impl_Heap_place (by simp) (by simp [hV]; rfl) (jh hX (by simp [hV]; rfl)))) ?_)
    refine W_seq (W_rseqK [3, 8, 10, 12, 33] (jh hX (by simp [hV]; rfl)) ?_)
    refine jd (fun h5 => ?_) (fun h5 => ?_)
    · try simp at h5
      refine W_rseqK [8] (jh hX (by simp [hV]; rfl)) ?_
      refine W_ret (W_retR (by simp [hV]; rfl) ?_ rfl)
      exact zHo_wk _
    · try simp at h5
      all_goals skip --done
theorem ct_impl_HeapGet_yes {l : List Cls} (hl : l.length ≤ 1048576) (hs : sizeL l ≤ 1048576) {h : Hep} (ho : sizeHp h ≤ 1048576) {a p : Int} (hW : hpRightW l h = true) (hl4 : l.length ≤ 400) (hp : placeR h a p = true) : Ct Tryz.prog 13 [.lst false 6 (l.map eC), eHp h, .int .i64 a, .int .i64 p] [] (oHo (getW l h a p)) [] := by
  have hV : hpOfV l h [] = .tup [wv l, .bx 2 (oHp h), .int .i64 0] := by rw [hpOfV, if_neg (by simp; omega), if_pos hW]
  have hG : getW l h a p = ⟨h, atL (atL h.objs (a - 1).toNat).vals p.toNat, 0⟩ := by rw [getW, if_neg (by omega), if_pos hW, if_pos hp]
  rw [hG]
  have hol : h.objs.length ≤ 1048576 := by unfold sizeHp at ho; omega
  obtain ⟨j, q, hj, rfl, rfl, hq⟩ := placeR_iff hp
  have hjn : ((j : Int) + 1 - 1).toNat = j := by omega
  rw [hjn, atL_lt hj, Int.toNat_natCast, atL_lt hq]
  have hvl : h.objs[j].vals.length ≤ 1048576 := by
    have := Nat.le_trans (sizeHp_at hj) ho
    unfold sizeOb at this; omega
  obtain ⟨Y, Z, hS, hS2, hYl, hN, hY1, hZ1, hY3, hZ3, hYj, hZj, hYp, hZp, Y', Z', hYb, hZb, hfold⟩ := obs_YZ hj
  have m1 := fun x => midG hYl x Z
  have m2 := fun x y => midS hYl x y Z
  have hT : ∀ x, (Y ++ x :: Z).take h.objs.length = Y ++ x :: Z := fun x => List.take_of_length_le (by simp [hYl]; omega)
  have hjN : j < h.objs.length := hj
  refine Ct_bodyS tok Tryz.func13 rfl 43 (by kernel_rfl) (by kernel_rfl) fun X hX => ?_
  refine W_rseqK [0, 2, 3, 5, 8] (jh hX (by simp [m1, hYl, hN, hT, hY1, hZ1, hYj, hZj, hYp, hZp, hq, hV]; rfl)) ?_
  refine W_rseqK [2, 3, 8, 10, 11] (js hX 2 (by simp [m1, hYl, hN, hT, hY1, hZ1, hYj, hZj, hYp, hZp, hq, hV]; rfl) (Runs.call [] rfl (by simp) rfl (by simp [m1, hYl, hN, hT, hY1, hZ1, hYj, hZj, hYp, hZp, hq, hV]; rfl) (by simp; rfl) (by apply ct_impl_heapOf_0 <;> first | assumption | omega | (simp; done) | exact hY3 3 | exact hZ3 3 | (simp; omega)) cb_impl_heapOf (by simp) (by simp) (by simp [m1, hYl, hN, hT, hY1, hZ1, hYj, hZj, hYp, hZp, hq, hV]; rfl) (jh hX (by simp [m1, hYl, hN, hT, hY1, hZ1, hYj, hZj, hYp, hZp, hq, hV]; rfl)))) ?_
  refine W_seq (W_rseqK [2, 3, 8, 10, 11, 22] (jh hX (by simp [m1, hYl, hN, hT, hY1, hZ1, hYj, hZj, hYp, hZp, hq, hV]; rfl)) ?_)
  refine jd (fun h2 => ?_) (fun h2 => ?_)
  · try simp at h2
    all_goals skip --done
  · try simp at h2
    refine W_le (Le.expose 2 0 0 (by simp [St.expose]; rfl)) ?_
    rw [hS]
    refine W_le (Le.expose 3 j 3 (by simp [St.expose, m1, m2, hYl]; rfl)) ?_
    refine W_skip (W_rseqK [3, 8, 10, 12, 13] (js hX 3 (by simp [m1, hYl, hN, hT, hY1, hZ1, hYj, hZj, hYp, hZp, hq, hV]; rfl) (Runs.call [2, 3, 4] rfl (by simp) rfl (by simp [m1, hYl, hN, hT, hY1, hZ1, hYj, hZj, hYp, hZp, hq, hV]; rfl) (by simp; rfl) (by (try simp only [hY1, hZ1]); apply (ct_impl_Heap_place (Y := Y) (Z := Z) (ys := h.objs[j].vals.map eVl) (K := h.objs[j].kind) (C := h.objs[j].cls) (rd := h.objs[j].ready) (room := h.room)) <;> first | assumption | omega | (simp; done) | exact hY3 3 | exact hZ3 3 | (simp; omega)) cb_impl_Heap_place (by simp) (by simp) (by simp [m1, hYl, hN, hT, hY1, hZ1, hYj, hZj, hYp, hZp, hq, hV]; rfl) (jh hX (by simp [m1, hYl, hN, hT, hY1, hZ1, hYj, hZj, hYp, hZp, hq, hV]; rfl)))) ?_)
    refine W_seq (W_rseqK [3, 8, 10, 12, 33] (jh hX (by simp [m1, hYl, hN, hT, hY1, hZ1, hYj, hZj, hYp, hZp, hq, hV]; rfl)) ?_)
    refine jd (fun h5 => ?_) (fun h5 => ?_)
    · try simp at h5
      all_goals skip --done
    · try simp at h5
      refine W_skip (jL 7 [0, 1, 2, 3, 4, 5, 6] [] [8] ([2, 4]) hX (by simp [m1, hYl, hN, hT, hY1, hZ1, hYj, hZj, hYp, hZp, hq, hV]; rfl) .nil (jh hX (by simp [m1, hYl, hN, hT, hY1, hZ1, hYj, hZj, hYp, hZp, hq, hV]; rfl)) ?_)
      refine W_le (Le.absorb 3 j 3 (by simp [m1, m2, hYl]; rfl)) ?_
      refine W_ret (W_retR (by simp [m1, hYl, hN, hT, hY1, hZ1, hYj, hZj, hYp, hZp, hq, hV]; rfl) ?_ rfl)
      simp only [oHo]
      rw [hS]
      exact Wk.refl _
theorem ct_impl_HeapGet {l : List Cls} (hl : l.length ≤ 1048576) (hs : sizeL l ≤ 1048576) {h : Hep} (ho : sizeHp h ≤ 1048576) {a p : Int} : Ct Tryz.prog 13 [.lst false 6 (l.map eC), eHp h, .int .i64 a, .int .i64 p] [] (oHo (getW l h a p)) [] := by
  by_cases hl4 : l.length ≤ 400
  · cases hW : hpRightW l h
    · rw [getW, if_neg (by omega), if_neg (by simp [hW])]
      exact ct_impl_HeapGet_e hl hs ho (by decide) (by rw [hpOfV, if_neg (by simp; omega), if_neg (by simp [hW])])
    · cases hp : placeR h a p
      · rw [getW, if_neg (by omega), if_pos hW, if_neg (by simp [hp])]
        exact ct_impl_HeapGet_no hl hs ho (by rw [hpOfV, if_neg (by simp; omega), if_pos hW]) hp
      · exact ct_impl_HeapGet_yes hl hs ho hW hl4 hp
  · rw [getW, if_pos (by omega)]
    exact ct_impl_HeapGet_e hl hs ho (by decide) (by rw [hpOfV, if_pos (.inl (by omega))])
end Go.Proofs
namespace Go.Proofs
open Go Go.Ev


theorem cb_laws_eqVal : Callable Tryz.prog 42 := ⟨_, Tryz.func42, by kernel_rfl, by kernel_rfl⟩
theorem ct_laws_eqVal {x y : Vl} : Ct Tryz.prog 42 [eVl x, eVl y] [] (.bool (decide (x = y))) [] := by
  refine Ct_bodyS tok Tryz.func42 rfl 15 (by kernel_rfl) (by kernel_rfl) fun X hX => ?_
  refine jq [2, 3] ?_
  refine W_seq (jq [2, 3, 9] ?_)
  refine jd (fun h1 => ?_) (fun h1 => ?_)
  · try simp at h1
    refine jq [4] ?_
    refine W_ret (je0 ?_)
    (try simp at *) <;> cases x <;> cases y <;> simp_all
  · try simp at h1
    refine W_skip (W_seq (jq [14] ?_))
    refine jd (fun h3 => ?_) (fun h3 => ?_)
    · try simp at h3
      refine jq [4] ?_
      refine W_ret (je0 ?_)
      (try simp at *) <;> cases x <;> cases y <;> simp_all
    · try simp at h3
      refine W_skip (jq [4] ?_)
      refine W_ret (je0 ?_)
      (try simp at *) <;> cases x <;> cases y <;> simp_all
end Go.Proofs
namespace Go.Proofs
open Go Go.Ev


theorem cb_laws_eqValS : Callable Tryz.prog 135 := ⟨_, Tryz.func135, by kernel_rfl, by kernel_rfl⟩
theorem ct_laws_eqValS {l1 l2 : List Vl} (q1 : l1.length < 4611686018427387904) (q2 : l2.length < 4611686018427387904) : Ct Tryz.prog 135 [.lst false 2 (l1.map eVl), .lst false 2 (l2.map eVl)] [] (.bool (decide (l1 = l2))) [] := by
  refine Ct_bodyS tok Tryz.func135 rfl 27 (by kernel_rfl) (by kernel_rfl) fun X hX => ?_
  refine jq [0, 1] ?_
  refine W_seq (jq [0, 1, 10] ?_)
  refine jd (fun h1 => ?_) (fun h1 => ?_)
  · try simp at h1
    replace h1 : ¬ l1.length = l2.length := by omega
    refine jq [4] ?_
    refine W_ret (je0 ?_)
    have : ¬ l1 = l2 := fun e => h1 (by rw [e])
    simp [this]
  · try simp at h1
    replace h1 : l1.length = l2.length := by omega
    refine W_skip (W_seq (jq [0, 1, 5] ?_))
    refine W_block (W_loopU (α := Nat) [0, 1, 5] (fun i => [(5, .int .i64 i)]) (fun i => []) (fun i => i ≤ l1.length ∧ (l1.drop i = l2.drop i ↔ l1 = l2)) (fun i => l1.length - i) (0) (fun i => by simp; rfl) (by simp) ?_ ?_)
    · simp
    rintro i ⟨hi, hI⟩
    refine W_seq (jq [0, 1, 5, 14] ?_)
    refine jd (fun h4 => ?_) (fun h4 => ?_)
    · try simp at h4
      have h4b : i < l1.length := by omega
      have h4c : i < l2.length := by omega
      rw [List.drop_eq_getElem_cons h4b, List.drop_eq_getElem_cons h4c, List.cons.injEq] at hI
      refine W_skip (W_seq (W_block (jD [0, 1, 5, 26] (jS 8 (by simp [h4, h4b, h4c]; rfl) (jC (c:=by apply ct_laws_eqVal <;> first | assumption | omega | exact hb1 _ (List.getElem_mem _) | exact hb2 _ (List.getElem_mem _)) (a:=cb_laws_eqVal) (k:=(jQ (by simp; rfl))))) ?_)))
      refine jd (fun h6 => ?_) (fun h6 => ?_)
      · try simp at h6
        refine jq [4] ?_
        refine W_ret (je (by simp [h4, h4b, h4c]; rfl) ?_)
        simp_all
      · try simp at h6
        refine W_skip (W_reg (jh hX (by simp; (try (simp (disch := omega) only [wrap_i64]; (try simp))); rfl)) ?_)
        refine round_end (i + 1) [0, 1, 5] (by simp [h4, h4b, h4c]; try (simp (disch := omega) only [wrap_i64])) ?_ ?_
        · exact ⟨by omega, by simp_all⟩
        · omega
    · try simp at h4
      refine W_exit (jq [4] ?_)
      refine W_ret (je (by simp [h4]; rfl) ?_)
      have : l1.drop i = [] := List.drop_eq_nil_of_le (by omega)
      have e2 : l2.drop i = [] := List.drop_eq_nil_of_le (by omega)
      simp_all
end Go.Proofs
namespace Go.Proofs
open Go Go.Ev


theorem cb_laws_eqObj : Callable Tryz.prog 86 := ⟨_, Tryz.func86, by kernel_rfl, by kernel_rfl⟩
theorem ct_laws_eqObj {x y : HOb} (hx : bigOb x) (hy : bigOb y) : Ct Tryz.prog 86 [eOb x, eOb y] [] (.bool (decide (x = y))) [] := by
  simp only [bigOb] at hx hy
  obtain ⟨p0, p1⟩ := hx
  obtain ⟨q0, q1⟩ := hy
  refine Ct_bodyS tok Tryz.func86 rfl 26 (by kernel_rfl) (by kernel_rfl) fun X hX => ?_
  refine jq [2, 3] ?_
  refine W_seq (jq [2, 3, 9] ?_)
  refine jd (fun h1 => ?_) (fun h1 => ?_)
  · try simp at h1
    refine jq [4] ?_
    refine W_ret (je0 ?_)
    (try simp at *) <;> cases x <;> cases y <;> simp_all
  · try simp at h1
    refine W_skip (W_seq (jq [2, 3, 14] ?_))
    refine jd (fun h3 => ?_) (fun h3 => ?_)
    · try simp at h3
      refine jq [4] ?_
      refine W_ret (je0 ?_)
      (try simp at *) <;> cases x <;> cases y <;> simp_all
    · try simp at h3
      refine W_skip (W_seq (jq [2, 3, 19] ?_))
      refine jd (fun h5 => ?_) (fun h5 => ?_)
      · try simp at h5
        refine jq [4] ?_
        refine W_ret (je0 ?_)
        (try simp at *) <;> cases x <;> cases y <;> simp_all
      · try simp at h5
        refine W_skip (W_seq (W_rseqK [25] (jt 4 (k:=(jc [] (c:=(by apply ct_laws_eqValS <;> first | assumption | omega)) (a:=cb_laws_eqValS) (k:=jr)))) ?_))
        refine jd (fun h7 => ?_) (fun h7 => ?_)
        · try simp at h7
          refine jq [4] ?_
          refine W_ret (je0 ?_)
          (try simp at *) <;> cases x <;> cases y <;> simp_all
        · try simp at h7
          refine W_skip (jq [4] ?_)
          refine W_ret (je0 ?_)
          (try simp at *) <;> cases x <;> cases y <;> simp_all
end Go.Proofs
namespace Go.Proofs
open Go Go.Ev


theorem cb_laws_eqObjS : Callable Tryz.prog 44 := ⟨_, Tryz.func44, by kernel_rfl, by kernel_rfl⟩
theorem ct_laws_eqObjS {l1 l2 : List HOb} (q1 : l1.length < 4611686018427387904) (q2 : l2.length < 4611686018427387904) (hb1 : ∀ y ∈ l1, bigOb y) (hb2 : ∀ y ∈ l2, bigOb y) : Ct Tryz.prog 44 [.lst false 4 (l1.map eOb), .lst false 4 (l2.map eOb)] [] (.bool (decide (l1 = l2))) [] := by
  refine Ct_bodyS tok Tryz.func44 rfl 27 (by kernel_rfl) (by kernel_rfl) fun X hX => ?_
  refine jq [0, 1] ?_
  refine W_seq (jq [0, 1, 10] ?_)
  refine jd (fun h1 => ?_) (fun h1 => ?_)
  · try simp at h1
    replace h1 : ¬ l1.length = l2.length := by omega
    refine jq [4] ?_
    refine W_ret (je0 ?_)
    have : ¬ l1 = l2 := fun e => h1 (by rw [e])
    simp [this]
  · try simp at h1
    replace h1 : l1.length = l2.length := by omega
    refine W_skip (W_seq (jq [0, 1, 5] ?_))
    refine W_block (W_loopU (α := Nat) [0, 1, 5] (fun i => [(5, .int .i64 i)]) (fun i => []) (fun i => i ≤ l1.length ∧ (l1.drop i = l2.drop i ↔ l1 = l2)) (fun i => l1.length - i) (0) (fun i => by simp; rfl) (by simp) ?_ ?_)
    · simp
    rintro i ⟨hi, hI⟩
    refine W_seq (jq [0, 1, 5, 14] ?_)
    refine jd (fun h4 => ?_) (fun h4 => ?_)
    · try simp at h4
      have h4b : i < l1.length := by omega
      have h4c : i < l2.length := by omega
      rw [List.drop_eq_getElem_cons h4b, List.drop_eq_getElem_cons h4c, List.cons.injEq] at hI
      refine W_skip (W_seq (W_block (jD [0, 1, 5, 26] (jS 8 (by simp [h4, h4b, h4c]; rfl) (jC (c:=by apply ct_laws_eqObj <;> first | assumption | omega | exact hb1 _ (List.getElem_mem _) | exact hb2 _ (List.getElem_mem _)) (a:=cb_laws_eqObj) (k:=(jQ (by simp; rfl))))) ?_)))
      refine jd (fun h6 => ?_) (fun h6 => ?_)
      · try simp at h6
        refine jq [4] ?_
        refine W_ret (je (by simp [h4, h4b, h4c]; rfl) ?_)
        simp_all
      · try simp at h6
        refine W_skip (W_reg (jh hX (by simp; (try (simp (disch := omega) only [wrap_i64]; (try simp))); rfl)) ?_)
        refine round_end (i + 1) [0, 1, 5] (by simp [h4, h4b, h4c]; try (simp (disch := omega) only [wrap_i64])) ?_ ?_
        · exact ⟨by omega, by simp_all⟩
        · omega
    · try simp at h4
      refine W_exit (jq [4] ?_)
      refine W_ret (je (by simp [h4]; rfl) ?_)
      have : l1.drop i = [] := List.drop_eq_nil_of_le (by omega)
      have e2 : l2.drop i = [] := List.drop_eq_nil_of_le (by omega)
      simp_all
end Go.Proofs
namespace Go.Proofs
open Go Go.Ev


theorem cb_laws_eqHeap : Callable Tryz.prog 16 := ⟨_, Tryz.func16, by kernel_rfl, by kernel_rfl⟩
theorem ct_laws_eqHeap {x y : Hep} (hx : bigHp x) (hy : bigHp y) : Ct Tryz.prog 16 [eHp x, eHp y] [] (.bool (decide (x = y))) [] := by
  simp only [bigHp] at hx hy
  obtain ⟨p0, p1⟩ := hx
  obtain ⟨q0, q1⟩ := hy
  refine Ct_bodyS tok Tryz.func16 rfl 16 (by kernel_rfl) (by kernel_rfl) fun X hX => ?_
  refine jq [2, 3] ?_
  refine W_seq (W_rseqK [2, 3, 10] (jt 4 (k:=(jc [] (c:=(by apply ct_laws_eqObjS <;> first | assumption | omega)) (a:=cb_laws_eqObjS) (k:=jr)))) ?_)
  refine jd (fun h1 => ?_) (fun h1 => ?_)
  · try simp at h1
    refine jq [4] ?_
    refine W_ret (je0 ?_)
    (try simp at *) <;> cases x <;> cases y <;> simp_all
  · try simp at h1
    refine W_skip (W_seq (jq [15] ?_))
    refine jd (fun h3 => ?_) (fun h3 => ?_)
    · try simp at h3
      refine jq [4] ?_
      refine W_ret (je0 ?_)
      (try simp at *) <;> cases x <;> cases y <;> simp_all
    · try simp at h3
      refine W_skip (jq [4] ?_)
      refine W_ret (je0 ?_)
      (try simp at *) <;> cases x <;> cases y <;> simp_all
end Go.Proofs
namespace Go.Proofs
open Go Go.Ev


theorem cb_laws_eqHeapOut : Callable Tryz.prog 14 := ⟨_, Tryz.func14, by kernel_rfl, by kernel_rfl⟩
theorem ct_laws_eqHeapOut {x y : HpO} (hx : bigHp x.h) (hy : bigHp y.h) : Ct Tryz.prog 14 [eHo x, eHo y] [] (.bool (decide (x = y))) [] := by
  refine Ct_bodyS tok Tryz.func14 rfl 22 (by kernel_rfl) (by kernel_rfl) fun X hX => ?_
  refine jq [2, 3] ?_
  refine W_seq (W_rseqK [2, 3, 10] (jt 4 (k:=(jc [] (c:=(by apply (ct_laws_eqHeap (x := x.h) (y := y.h)) <;> first | assumption | omega)) (a:=cb_laws_eqHeap) (k:=jr)))) ?_)
  refine jd (fun h1 => ?_) (fun h1 => ?_)
  · try simp at h1
    refine jq [4] ?_
    refine W_ret (je0 ?_)
    (try simp at *) <;> cases x <;> cases y <;> simp_all
  · try simp at h1
    refine W_skip (W_seq (W_rseqK [2, 3, 16] (jt 4 (k:=(jc [] (c:=(by apply ct_laws_eqVal <;> first | assumption | omega)) (a:=cb_laws_eqVal) (k:=jr)))) ?_))
    refine jd (fun h3 => ?_) (fun h3 => ?_)
    · try simp at h3
      refine jq [4] ?_
      refine W_ret (je0 ?_)
      (try simp at *) <;> cases x <;> cases y <;> simp_all
    · try simp at h3
      refine W_skip (W_seq (jq [21] ?_))
      refine jd (fun h5 => ?_) (fun h5 => ?_)
      · try simp at h5
        refine jq [4] ?_
        refine W_ret (je0 ?_)
        (try simp at *) <;> cases x <;> cases y <;> simp_all
      · try simp at h5
        refine W_skip (jq [4] ?_)
        refine W_ret (je0 ?_)
        (try simp at *) <;> cases x <;> cases y <;> simp_all
end Go.Proofs
namespace Go.Proofs
open Go Go.Ev


theorem cb_laws_eqField : Callable Tryz.prog 133 := ⟨_, Tryz.func133, by kernel_rfl, by kernel_rfl⟩
theorem ct_laws_eqField {x y : Fld} : Ct Tryz.prog 133 [eF x, eF y] [] (.bool (decide (x = y))) [] := by
  refine Ct_bodyS tok Tryz.func133 rfl 20 (by kernel_rfl) (by kernel_rfl) fun X hX => ?_
  refine jq [2, 3] ?_
  refine W_seq (jq [2, 3, 9] ?_)
  refine jd (fun h1 => ?_) (fun h1 => ?_)
  · try simp at h1
    refine jq [4] ?_
    refine W_ret (je0 ?_)
    (try simp at *) <;> cases x <;> cases y <;> simp_all
  · try simp at h1
    refine W_skip (W_seq (jq [2, 3, 14] ?_))
    refine jd (fun h3 => ?_) (fun h3 => ?_)
    · try simp at h3
      refine jq [4] ?_
      refine W_ret (je0 ?_)
      (try simp at *) <;> cases x <;> cases y <;> simp_all
    · try simp at h3
      refine W_skip (W_seq (jq [19] ?_))
      refine jd (fun h5 => ?_) (fun h5 => ?_)
      · try simp at h5
        refine jq [4] ?_
        refine W_ret (je0 ?_)
        (try simp at *) <;> cases x <;> cases y <;> simp_all
      · try simp at h5
        refine W_skip (jq [4] ?_)
        refine W_ret (je0 ?_)
        (try simp at *) <;> cases x <;> cases y <;> simp_all
end Go.Proofs
namespace Go.Proofs
open Go Go.Ev


theorem cb_laws_eqFieldS : Callable Tryz.prog 84 := ⟨_, Tryz.func84, by kernel_rfl, by kernel_rfl⟩
theorem ct_laws_eqFieldS {l1 l2 : List Fld} (q1 : l1.length < 4611686018427387904) (q2 : l2.length < 4611686018427387904) : Ct Tryz.prog 84 [.lst false 3 (l1.map eF), .lst false 3 (l2.map eF)] [] (.bool (decide (l1 = l2))) [] := by
  refine Ct_bodyS tok Tryz.func84 rfl 27 (by kernel_rfl) (by kernel_rfl) fun X hX => ?_
  refine jq [0, 1] ?_
  refine W_seq (jq [0, 1, 10] ?_)
  refine jd (fun h1 => ?_) (fun h1 => ?_)
  · try simp at h1
    replace h1 : ¬ l1.length = l2.length := by omega
    refine jq [4] ?_
    refine W_ret (je0 ?_)
    have : ¬ l1 = l2 := fun e => h1 (by rw [e])
    simp [this]
  · try simp at h1
    replace h1 : l1.length = l2.length := by omega
    refine W_skip (W_seq (jq [0, 1, 5] ?_))
    refine W_block (W_loopU (α := Nat) [0, 1, 5] (fun i => [(5, .int .i64 i)]) (fun i => []) (fun i => i ≤ l1.length ∧ (l1.drop i = l2.drop i ↔ l1 = l2)) (fun i => l1.length - i) (0) (fun i => by simp; rfl) (by simp) ?_ ?_)
    · simp
    rintro i ⟨hi, hI⟩
    refine W_seq (jq [0, 1, 5, 14] ?_)
    refine jd (fun h4 => ?_) (fun h4 => ?_)
    · try simp at h4
      have h4b : i < l1.length := by omega
      have h4c : i < l2.length := by omega
      rw [List.drop_eq_getElem_cons h4b, List.drop_eq_getElem_cons h4c, List.cons.injEq] at hI
      refine W_skip (W_seq (W_block (jD [0, 1, 5, 26] (jS 8 (by simp [h4, h4b, h4c]; rfl) (jC (c:=by apply ct_laws_eqField <;> first | assumption | omega | exact hb1 _ (List.getElem_mem _) | exact hb2 _ (List.getElem_mem _)) (a:=cb_laws_eqField) (k:=(jQ (by simp; rfl))))) ?_)))
      refine jd (fun h6 => ?_) (fun h6 => ?_)
      · try simp at h6
        refine jq [4] ?_
        refine W_ret (je (by simp [h4, h4b, h4c]; rfl) ?_)
        simp_all
      · try simp at h6
        refine W_skip (W_reg (jh hX (by simp; (try (simp (disch := omega) only [wrap_i64]; (try simp))); rfl)) ?_)
        refine round_end (i + 1) [0, 1, 5] (by simp [h4, h4b, h4c]; try (simp (disch := omega) only [wrap_i64])) ?_ ?_
        · exact ⟨by omega, by simp_all⟩
        · omega
    · try simp at h4
      refine W_exit (jq [4] ?_)
      refine W_ret (je (by simp [h4]; rfl) ?_)
      have : l1.drop i = [] := List.drop_eq_nil_of_le (by omega)
      have e2 : l2.drop i = [] := List.drop_eq_nil_of_le (by omega)
      simp_all
end Go.Proofs
namespace Go.Proofs
open Go Go.Ev


theorem cb_laws_eqIns : Callable Tryz.prog 217 := ⟨_, Tryz.func217, by kernel_rfl, by kernel_rfl⟩
theorem ct_laws_eqIns {x y : Ins} : Ct Tryz.prog 217 [eI x, eI y] [] (.bool (decide (x = y))) [] := by
  refine Ct_bodyS tok Tryz.func217 rfl 30 (by kernel_rfl) (by kernel_rfl) fun X hX => ?_
  refine jq [2, 3] ?_
  refine W_seq (jq [2, 3, 9] ?_)
  refine jd (fun h1 => ?_) (fun h1 => ?_)
  · try simp at h1
    refine jq [4] ?_
    refine W_ret (je0 ?_)
    (try simp at *) <;> cases x <;> cases y <;> simp_all
  · try simp at h1
    refine W_skip (W_seq (jq [2, 3, 14] ?_))
    refine jd (fun h3 => ?_) (fun h3 => ?_)
    · try simp at h3
      refine jq [4] ?_
      refine W_ret (je0 ?_)
      (try simp at *) <;> cases x <;> cases y <;> simp_all
    · try simp at h3
      refine W_skip (W_seq (jq [2, 3, 19] ?_))
      refine jd (fun h5 => ?_) (fun h5 => ?_)
      · try simp at h5
        refine jq [4] ?_
        refine W_ret (je0 ?_)
        (try simp at *) <;> cases x <;> cases y <;> simp_all
      · try simp at h5
        refine W_skip (W_seq (jq [2, 3, 24] ?_))
        refine jd (fun h7 => ?_) (fun h7 => ?_)
        · try simp at h7
          refine jq [4] ?_
          refine W_ret (je0 ?_)
          (try simp at *) <;> cases x <;> cases y <;> simp_all
        · try simp at h7
          refine W_skip (W_seq (jq [29] ?_))
          refine jd (fun h9 => ?_) (fun h9 => ?_)
          · try simp at h9
            refine jq [4] ?_
            refine W_ret (je0 ?_)
            (try simp at *) <;> cases x <;> cases y <;> simp_all
          · try simp at h9
            refine W_skip (jq [4] ?_)
            refine W_ret (je0 ?_)
            (try simp at *) <;> cases x <;> cases y <;> simp_all
end Go.Proofs
namespace Go.Proofs
open Go Go.Ev


theorem cb_laws_eqInsS : Callable Tryz.prog 182 := ⟨_, Tryz.func182, by kernel_rfl, by kernel_rfl⟩
theorem ct_laws_eqInsS {l1 l2 : List Ins} (q1 : l1.length < 4611686018427387904) (q2 : l2.length < 4611686018427387904) : Ct Tryz.prog 182 [.lst false 5 (l1.map eI), .lst false 5 (l2.map eI)] [] (.bool (decide (l1 = l2))) [] := by
  refine Ct_bodyS tok Tryz.func182 rfl 27 (by kernel_rfl) (by kernel_rfl) fun X hX => ?_
  refine jq [0, 1] ?_
  refine W_seq (jq [0, 1, 10] ?_)
  refine jd (fun h1 => ?_) (fun h1 => ?_)
  · try simp at h1
    replace h1 : ¬ l1.length = l2.length := by omega
    refine jq [4] ?_
    refine W_ret (je0 ?_)
    have : ¬ l1 = l2 := fun e => h1 (by rw [e])
    simp [this]
  · try simp at h1
    replace h1 : l1.length = l2.length := by omega
    refine W_skip (W_seq (jq [0, 1, 5] ?_))
    refine W_block (W_loopU (α := Nat) [0, 1, 5] (fun i => [(5, .int .i64 i)]) (fun i => []) (fun i => i ≤ l1.length ∧ (l1.drop i = l2.drop i ↔ l1 = l2)) (fun i => l1.length - i) (0) (fun i => by simp; rfl) (by simp) ?_ ?_)
    · simp
    rintro i ⟨hi, hI⟩
    refine W_seq (jq [0, 1, 5, 14] ?_)
    refine jd (fun h4 => ?_) (fun h4 => ?_)
    · try simp at h4
      have h4b : i < l1.length := by omega
      have h4c : i < l2.length := by omega
      rw [List.drop_eq_getElem_cons h4b, List.drop_eq_getElem_cons h4c, List.cons.injEq] at hI
      refine W_skip (W_seq (W_block (jD [0, 1, 5, 26] (jS 8 (by simp [h4, h4b, h4c]; rfl) (jC (c:=by apply ct_laws_eqIns <;> first | assumption | omega | exact hb1 _ (List.getElem_mem _) | exact hb2 _ (List.getElem_mem _)) (a:=cb_laws_eqIns) (k:=(jQ (by simp; rfl))))) ?_)))
      refine jd (fun h6 => ?_) (fun h6 => ?_)
      · try simp at h6
        refine jq [4] ?_
        refine W_ret (je (by simp [h4, h4b, h4c]; rfl) ?_)
        simp_all
      · try simp at h6
        refine W_skip (W_reg (jh hX (by simp; (try (simp (disch := omega) only [wrap_i64]; (try simp))); rfl)) ?_)
        refine round_end (i + 1) [0, 1, 5] (by simp [h4, h4b, h4c]; try (simp (disch := omega) only [wrap_i64])) ?_ ?_
        · exact ⟨by omega, by simp_all⟩
        · omega
    · try simp at h4
      refine W_exit (jq [4] ?_)
      refine W_ret (je (by simp [h4]; rfl) ?_)
      have : l1.drop i = [] := List.drop_eq_nil_of_le (by omega)
      have e2 : l2.drop i = [] := List.drop_eq_nil_of_le (by omega)
      simp_all
end Go.Proofs
namespace Go.Proofs
open Go Go.Ev


theorem cb_laws_eqHandler : Callable Tryz.prog 218 := ⟨_, Tryz.func218, by kernel_rfl, by kernel_rfl⟩
theorem ct_laws_eqHandler {x y : Hdl} : Ct Tryz.prog 218 [eH x, eH y] [] (.bool (decide (x = y))) [] := by
  refine Ct_bodyS tok Tryz.func218 rfl 25 (by kernel_rfl) (by kernel_rfl) fun X hX => ?_
  refine jq [2, 3] ?_
  refine W_seq (jq [2, 3, 9] ?_)
  refine jd (fun h1 => ?_) (fun h1 => ?_)
  · try simp at h1
    refine jq [4] ?_
    refine W_ret (je0 ?_)
    (try simp at *) <;> cases x <;> cases y <;> simp_all
  · try simp at h1
    refine W_skip (W_seq (jq [2, 3, 14] ?_))
    refine jd (fun h3 => ?_) (fun h3 => ?_)
    · try simp at h3
      refine jq [4] ?_
      refine W_ret (je0 ?_)
      (try simp at *) <;> cases x <;> cases y <;> simp_all
    · try simp at h3
      refine W_skip (W_seq (jq [2, 3, 19] ?_))
      refine jd (fun h5 => ?_) (fun h5 => ?_)
      · try simp at h5
        refine jq [4] ?_
        refine W_ret (je0 ?_)
        (try simp at *) <;> cases x <;> cases y <;> simp_all
      · try simp at h5
        refine W_skip (W_seq (jq [24] ?_))
        refine jd (fun h7 => ?_) (fun h7 => ?_)
        · try simp at h7
          refine jq [4] ?_
          refine W_ret (je0 ?_)
          (try simp at *) <;> cases x <;> cases y <;> simp_all
        · try simp at h7
          refine W_skip (jq [4] ?_)
          refine W_ret (je0 ?_)
          (try simp at *) <;> cases x <;> cases y <;> simp_all
end Go.Proofs
namespace Go.Proofs
open Go Go.Ev


theorem cb_laws_eqHandlerS : Callable Tryz.prog 183 := ⟨_, Tryz.func183, by kernel_rfl, by kernel_rfl⟩
theorem ct_laws_eqHandlerS {l1 l2 : List Hdl} (q1 : l1.length < 4611686018427387904) (q2 : l2.length < 4611686018427387904) : Ct Tryz.prog 183 [.lst false 4 (l1.map eH), .lst false 4 (l2.map eH)] [] (.bool (decide (l1 = l2))) [] := by
  refine Ct_bodyS tok Tryz.func183 rfl 27 (by kernel_rfl) (by kernel_rfl) fun X hX => ?_
  refine jq [0, 1] ?_
  refine W_seq (jq [0, 1, 10] ?_)
  refine jd (fun h1 => ?_) (fun h1 => ?_)
  · try simp at h1
    replace h1 : ¬ l1.length = l2.length := by omega
    refine jq [4] ?_
    refine W_ret (je0 ?_)
    have : ¬ l1 = l2 := fun e => h1 (by rw [e])
    simp [this]
  · try simp at h1
    replace h1 : l1.length = l2.length := by omega
    refine W_skip (W_seq (jq [0, 1, 5] ?_))
    refine W_block (W_loopU (α := Nat) [0, 1, 5] (fun i => [(5, .int .i64 i)]) (fun i => []) (fun i => i ≤ l1.length ∧ (l1.drop i = l2.drop i ↔ l1 = l2)) (fun i => l1.length - i) (0) (fun i => by simp; rfl) (by simp) ?_ ?_)
    · simp
    rintro i ⟨hi, hI⟩
    refine W_seq (jq [0, 1, 5, 14] ?_)
    refine jd (fun h4 => ?_) (fun h4 => ?_)
    · try simp at h4
      have h4b : i < l1.length := by omega
      have h4c : i < l2.length := by omega
      rw [List.drop_eq_getElem_cons h4b, List.drop_eq_getElem_cons h4c, List.cons.injEq] at hI
      refine W_skip (W_seq (W_block (jD [0, 1, 5, 26] (jS 8 (by simp [h4, h4b, h4c]; rfl) (jC (c:=by apply ct_laws_eqHandler <;> first | assumption | omega | exact hb1 _ (List.getElem_mem _) | exact hb2 _ (List.getElem_mem _)) (a:=cb_laws_eqHandler) (k:=(jQ (by simp; rfl))))) ?_)))
      refine jd (fun h6 => ?_) (fun h6 => ?_)
      · try simp at h6
        refine jq [4] ?_
        refine W_ret (je (by simp [h4, h4b, h4c]; rfl) ?_)
        simp_all
      · try simp at h6
        refine W_skip (W_reg (jh hX (by simp; (try (simp (disch := omega) only [wrap_i64]; (try simp))); rfl)) ?_)
        refine round_end (i + 1) [0, 1, 5] (by simp [h4, h4b, h4c]; try (simp (disch := omega) only [wrap_i64])) ?_ ?_
        · exact ⟨by omega, by simp_all⟩
        · omega
    · try simp at h4
      refine W_exit (jq [4] ?_)
      refine W_ret (je (by simp [h4]; rfl) ?_)
      have : l1.drop i = [] := List.drop_eq_nil_of_le (by omega)
      have e2 : l2.drop i = [] := List.drop_eq_nil_of_le (by omega)
      simp_all
end Go.Proofs
namespace Go.Proofs
open Go Go.Ev


theorem cb_laws_eqMethod : Callable Tryz.prog 134 := ⟨_, Tryz.func134, by kernel_rfl, by kernel_rfl⟩
theorem ct_laws_eqMethod {x y : Mth} (hx : bigM x) (hy : bigM y) : Ct Tryz.prog 134 [eM x, eM y] [] (.bool (decide (x = y))) [] := by
  simp only [bigM] at hx hy
  obtain ⟨p0, p1, p2, p3, p4, p5⟩ := hx
  obtain ⟨q0, q1, q2, q3, q4, q5⟩ := hy
  refine Ct_bodyS tok Tryz.func134 rfl 52 (by kernel_rfl) (by kernel_rfl) fun X hX => ?_
  refine jq [2, 3] ?_
  refine W_seq (jq [2, 3, 9] ?_)
  refine jd (fun h1 => ?_) (fun h1 => ?_)
  · try simp at h1
    refine jq [4] ?_
    refine W_ret (je0 ?_)
    (try simp at *) <;> cases x <;> cases y <;> simp_all
  · try simp at h1
    refine W_skip (W_seq (jq [2, 3, 14] ?_))
    refine jd (fun h3 => ?_) (fun h3 => ?_)
    · try simp at h3
      refine jq [4] ?_
      refine W_ret (je0 ?_)
      (try simp at *) <;> cases x <;> cases y <;> simp_all
    · try simp at h3
      refine W_skip (W_seq (jq [2, 3, 19] ?_))
      refine jd (fun h5 => ?_) (fun h5 => ?_)
      · try simp at h5
        refine jq [4] ?_
        refine W_ret (je0 ?_)
        (try simp at *) <;> cases x <;> cases y <;> simp_all
      · try simp at h5
        refine W_skip (W_seq (jq [2, 3, 24] ?_))
        refine jd (fun h7 => ?_) (fun h7 => ?_)
        · try simp at h7
          refine jq [4] ?_
          refine W_ret (je0 ?_)
          (try simp at *) <;> cases x <;> cases y <;> simp_all
        · try simp at h7
          refine W_skip (W_seq (jq [2, 3, 29] ?_))
          refine jd (fun h9 => ?_) (fun h9 => ?_)
          · try simp at h9
            refine jq [4] ?_
            refine W_ret (je0 ?_)
            (try simp at *) <;> cases x <;> cases y <;> simp_all
          · try simp at h9
            refine W_skip (W_seq (jq [2, 3, 34] ?_))
            refine jd (fun h11 => ?_) (fun h11 => ?_)
            · try simp at h11
              refine jq [4] ?_
              refine W_ret (je0 ?_)
              (try simp at *) <;> cases x <;> cases y <;> simp_all
            · try simp at h11
              refine W_skip (W_seq (jq [2, 3, 39] ?_))
              refine jd (fun h13 => ?_) (fun h13 => ?_)
              · try simp at h13
                refine jq [4] ?_
                refine W_ret (je0 ?_)
                (try simp at *) <;> cases x <;> cases y <;> simp_all
              · try simp at h13
                refine W_skip (W_seq (W_rseqK [2, 3, 45] (jt 4 (k:=(jc [] (c:=(by apply ct_laws_eqInsS <;> first | assumption | omega)) (a:=cb_laws_eqInsS) (k:=jr)))) ?_))
                refine jd (fun h15 => ?_) (fun h15 => ?_)
                · try simp at h15
                  refine jq [4] ?_
                  refine W_ret (je0 ?_)
                  (try simp at *) <;> cases x <;> cases y <;> simp_all
                · try simp at h15
                  refine W_skip (W_seq (W_rseqK [51] (jt 4 (k:=(jc [] (c:=(by apply ct_laws_eqHandlerS <;> first | assumption | omega)) (a:=cb_laws_eqHandlerS) (k:=jr)))) ?_))
                  refine jd (fun h17 => ?_) (fun h17 => ?_)
                  · try simp at h17
                    refine jq [4] ?_
                    refine W_ret (je0 ?_)
                    (try simp at *) <;> cases x <;> cases y <;> simp_all
                  · try simp at h17
                    refine W_skip (jq [4] ?_)
                    refine W_ret (je0 ?_)
                    (try simp at *) <;> cases x <;> cases y <;> simp_all
end Go.Proofs
namespace Go.Proofs
open Go Go.Ev


theorem cb_laws_eqMethodS : Callable Tryz.prog 85 := ⟨_, Tryz.func85, by kernel_rfl, by kernel_rfl⟩
theorem ct_laws_eqMethodS {l1 l2 : List Mth} (q1 : l1.length < 4611686018427387904) (q2 : l2.length < 4611686018427387904) (hb1 : ∀ y ∈ l1, bigM y) (hb2 : ∀ y ∈ l2, bigM y) : Ct Tryz.prog 85 [.lst false 9 (l1.map eM), .lst false 9 (l2.map eM)] [] (.bool (decide (l1 = l2))) [] := by
  refine Ct_bodyS tok Tryz.func85 rfl 27 (by kernel_rfl) (by kernel_rfl) fun X hX => ?_
  refine jq [0, 1] ?_
  refine W_seq (jq [0, 1, 10] ?_)
  refine jd (fun h1 => ?_) (fun h1 => ?_)
  · try simp at h1
    replace h1 : ¬ l1.length = l2.length := by omega
    refine jq [4] ?_
    refine W_ret (je0 ?_)
    have : ¬ l1 = l2 := fun e => h1 (by rw [e])
    simp [this]
  · try simp at h1
    replace h1 : l1.length = l2.length := by omega
    refine W_skip (W_seq (jq [0, 1, 5] ?_))
    refine W_block (W_loopU (α := Nat) [0, 1, 5] (fun i => [(5, .int .i64 i)]) (fun i => []) (fun i => i ≤ l1.length ∧ (l1.drop i = l2.drop i ↔ l1 = l2)) (fun i => l1.length - i) (0) (fun i => by simp; rfl) (by simp) ?_ ?_)
    · simp
    rintro i ⟨hi, hI⟩
    refine W_seq (jq [0, 1, 5, 14] ?_)
    refine jd (fun h4 => ?_) (fun h4 => ?_)
    · try simp at h4
      have h4b : i < l1.length := by omega
      have h4c : i < l2.length := by omega
      rw [List.drop_eq_getElem_cons h4b, List.drop_eq_getElem_cons h4c, List.cons.injEq] at hI
      refine W_skip (W_seq (W_block (jD [0, 1, 5, 26] (jS 8 (by simp [h4, h4b, h4c]; rfl) (jC (c:=by apply ct_laws_eqMethod <;> first | assumption | omega | exact hb1 _ (List.getElem_mem _) | exact hb2 _ (List.getElem_mem _)) (a:=cb_laws_eqMethod) (k:=(jQ (by simp; rfl))))) ?_)))
      refine jd (fun h6 => ?_) (fun h6 => ?_)
      · try simp at h6
        refine jq [4] ?_
        refine W_ret (je (by simp [h4, h4b, h4c]; rfl) ?_)
        simp_all
      · try simp at h6
        refine W_skip (W_reg (jh hX (by simp; (try (simp (disch := omega) only [wrap_i64]; (try simp))); rfl)) ?_)
        refine round_end (i + 1) [0, 1, 5] (by simp [h4, h4b, h4c]; try (simp (disch := omega) only [wrap_i64])) ?_ ?_
        · exact ⟨by omega, by simp_all⟩
        · omega
    · try simp at h4
      refine W_exit (jq [4] ?_)
      refine W_ret (je (by simp [h4]; rfl) ?_)
      have : l1.drop i = [] := List.drop_eq_nil_of_le (by omega)
      have e2 : l2.drop i = [] := List.drop_eq_nil_of_le (by omega)
      simp_all
end Go.Proofs
namespace Go.Proofs
open Go Go.Ev


theorem cb_laws_eqClass : Callable Tryz.prog 43 := ⟨_, Tryz.func43, by kernel_rfl, by kernel_rfl⟩
theorem ct_laws_eqClass {x y : Cls} (hx : bigC x) (hy : bigC y) : Ct Tryz.prog 43 [eC x, eC y] [] (.bool (decide (x = y))) [] := by
  simp only [bigC] at hx hy
  obtain ⟨p0, p1, p2, p3, p4, p5⟩ := hx
  obtain ⟨q0, q1, q2, q3, q4, q5⟩ := hy
  refine Ct_bodyS tok Tryz.func43 rfl 37 (by kernel_rfl) (by kernel_rfl) fun X hX => ?_
  refine jq [2, 3] ?_
  refine W_seq (jq [2, 3, 9] ?_)
  refine jd (fun h1 => ?_) (fun h1 => ?_)
  · try simp at h1
    refine jq [4] ?_
    refine W_ret (je0 ?_)
    (try simp at *) <;> cases x <;> cases y <;> simp_all
  · try simp at h1
    refine W_skip (W_seq (jq [2, 3, 14] ?_))
    refine jd (fun h3 => ?_) (fun h3 => ?_)
    · try simp at h3
      refine jq [4] ?_
      refine W_ret (je0 ?_)
      (try simp at *) <;> cases x <;> cases y <;> simp_all
    · try simp at h3
      refine W_skip (W_seq (jq [2, 3, 19] ?_))
      refine jd (fun h5 => ?_) (fun h5 => ?_)
      · try simp at h5
        refine jq [4] ?_
        refine W_ret (je0 ?_)
        (try simp at *) <;> cases x <;> cases y <;> simp_all
      · try simp at h5
        refine W_skip (W_seq (jq [2, 3, 24] ?_))
        refine jd (fun h7 => ?_) (fun h7 => ?_)
        · try simp at h7
          refine jq [4] ?_
          refine W_ret (je0 ?_)
          (try simp at *) <;> cases x <;> cases y <;> simp_all
        · try simp at h7
          refine W_skip (W_seq (W_rseqK [2, 3, 30] (jt 4 (k:=(jc [] (c:=(by apply ct_laws_eqFieldS <;> first | assumption | omega)) (a:=cb_laws_eqFieldS) (k:=jr)))) ?_))
          refine jd (fun h9 => ?_) (fun h9 => ?_)
          · try simp at h9
            refine jq [4] ?_
            refine W_ret (je0 ?_)
            (try simp at *) <;> cases x <;> cases y <;> simp_all
          · try simp at h9
            refine W_skip (W_seq (W_rseqK [36] (jt 4 (k:=(jc [] (c:=(by apply ct_laws_eqMethodS <;> first | assumption | omega)) (a:=cb_laws_eqMethodS) (k:=jr)))) ?_))
            refine jd (fun h11 => ?_) (fun h11 => ?_)
            · try simp at h11
              refine jq [4] ?_
              refine W_ret (je0 ?_)
              (try simp at *) <;> cases x <;> cases y <;> simp_all
            · try simp at h11
              refine W_skip (jq [4] ?_)
              refine W_ret (je0 ?_)
              (try simp at *) <;> cases x <;> cases y <;> simp_all
end Go.Proofs
namespace Go.Proofs
open Go Go.Ev


theorem cb_laws_eqClassS : Callable Tryz.prog 15 := ⟨_, Tryz.func15, by kernel_rfl, by kernel_rfl⟩
theorem ct_laws_eqClassS {l1 l2 : List Cls} (q1 : l1.length < 4611686018427387904) (q2 : l2.length < 4611686018427387904) (hb1 : ∀ y ∈ l1, bigC y) (hb2 : ∀ y ∈ l2, bigC y) : Ct Tryz.prog 15 [.lst false 6 (l1.map eC), .lst false 6 (l2.map eC)] [] (.bool (decide (l1 = l2))) [] := by
  refine Ct_bodyS tok Tryz.func15 rfl 27 (by kernel_rfl) (by kernel_rfl) fun X hX => ?_
  refine jq [0, 1] ?_
  refine W_seq (jq [0, 1, 10] ?_)
  refine jd (fun h1 => ?_) (fun h1 => ?_)
  · try simp at h1
    replace h1 : ¬ l1.length = l2.length := by omega
    refine jq [4] ?_
    refine W_ret (je0 ?_)
    have : ¬ l1 = l2 := fun e => h1 (by rw [e])
    simp [this]
  · try simp at h1
    replace h1 : l1.length = l2.length := by omega
    refine W_skip (W_seq (jq [0, 1, 5] ?_))
    refine W_block (W_loopU (α := Nat) [0, 1, 5] (fun i => [(5, .int .i64 i)]) (fun i => []) (fun i => i ≤ l1.length ∧ (l1.drop i = l2.drop i ↔ l1 = l2)) (fun i => l1.length - i) (0) (fun i => by simp; rfl) (by simp) ?_ ?_)
    · simp
    rintro i ⟨hi, hI⟩
    refine W_seq (jq [0, 1, 5, 14] ?_)
    refine jd (fun h4 => ?_) (fun h4 => ?_)
    · try simp at h4
      have h4b : i < l1.length := by omega
      have h4c : i < l2.length := by omega
      rw [List.drop_eq_getElem_cons h4b, List.drop_eq_getElem_cons h4c, List.cons.injEq] at hI
      refine W_skip (W_seq (W_block (jD [0, 1, 5, 26] (jS 8 (by simp [h4, h4b, h4c]; rfl) (jC (c:=by apply ct_laws_eqClass <;> first | assumption | omega | exact hb1 _ (List.getElem_mem _) | exact hb2 _ (List.getElem_mem _)) (a:=cb_laws_eqClass) (k:=(jQ (by simp; rfl))))) ?_)))
      refine jd (fun h6 => ?_) (fun h6 => ?_)
      · try simp at h6
        refine jq [4] ?_
        refine W_ret (je (by simp [h4, h4b, h4c]; rfl) ?_)
        simp_all
      · try simp at h6
        refine W_skip (W_reg (jh hX (by simp; (try (simp (disch := omega) only [wrap_i64]; (try simp))); rfl)) ?_)
        refine round_end (i + 1) [0, 1, 5] (by simp [h4, h4b, h4c]; try (simp (disch := omega) only [wrap_i64])) ?_ ?_
        · exact ⟨by omega, by simp_all⟩
        · omega
    · try simp at h4
      refine W_exit (jq [4] ?_)
      refine W_ret (je (by simp [h4]; rfl) ?_)
      have : l1.drop i = [] := List.drop_eq_nil_of_le (by omega)
      have e2 : l2.drop i = [] := List.drop_eq_nil_of_le (by omega)
      simp_all
end Go.Proofs
namespace Go.Proofs
open Go Go.Ev


theorem cb_laws_markText : Callable Tryz.prog 45 := ⟨_, Tryz.func45, by kernel_rfl, by kernel_rfl⟩
theorem ct_laws_markText {k : Nat} (hk : k < 4611686018427387904) : Ct Tryz.prog 45 [.int .i64 k] [] (.str (mText k)) [] := by
  refine Ct_bodyS tok Tryz.func45 rfl 20 (by kernel_rfl) (by kernel_rfl) fun X hX => ?_
  refine jq [0] ?_
  refine W_seq (jq [0, 5] ?_)
  refine jd (fun h1 => ?_) (fun h1 => ?_)
  · try simp at h1
    refine W_rseqK [2] (jh hX (by simp [h1]; rfl)) ?_
    refine W_ret (je (by simp [h1]; rfl) ?_)
    simp [mText]; omega
  · try simp at h1
    refine W_skip (W_rseqK [0, 3] (jh hX (by simp [h1]; rfl)) ?_)
    refine W_seq (W_block (W_loopU (α := Nat × Str) [0, 3] (fun p => [(0, .int .i64 p.1), (3, .str p.2)]) (fun p => []) (fun p => p.1 ≤ k ∧ mDig p.1 p.2 = mDig k [] ∧ p.2.length + p.1 ≤ k) (fun p => p.1) ((k, [])) (fun p => by simp; rfl) (by simp) ?_ ?_))
    · simp
    rintro ⟨j, o⟩ ⟨hj, hI, hl⟩
    simp only at hj hI hl
    have hb0 : o.length < 9223372036854775806 := by omega
    have hb1 : 1 + o.length < 9223372036854775807 := by omega
    have hb2 := dig_wrap j
    refine W_seq (W_rseqK [0, 3, 7] (jh hX (by simp [h1, hb1, hb2, hb0]; rfl)) ?_)
    refine jd (fun h4 => ?_) (fun h4 => ?_)
    · try simp at h4
      refine W_skip (W_block (W_rseqK [0, 3] (jh hX (by simp [h1, hb1, hb2, hb0, h4]; (try (simp (disch := omega) only [wrap_i64]; (try simp [h1, hb1, hb2, hb0, h4]))); rfl)) ?_))
      refine W_reg (jh hX (by simp [h1, hb1, hb2, hb0, h4]; rfl)) ?_
      refine round_endT ((j / 10, UInt8.ofNat (48 + j % 10) :: o)) [0, 3] 0 (by simp [hX]) (by simp) (by simp [h1, hb1, hb2, hb0, h4]; try (simp (disch := omega) only [wrap_i64])) ?_ ?_
      · exact ⟨by simp only; omega, by rw [← hI, mDig_go h4], by simp only [List.length_cons]; omega⟩
      · simp only; omega
    · try simp at h4
      refine W_exit (W_rseqK [2] (jh hX (by simp [h1, hb1, hb2, hb0, h4]; (try (simp (disch := omega) only [wrap_i64]; (try simp [h1, hb1, hb2, hb0, h4]))); rfl)) ?_)
      refine W_ret (je (by simp [h1, hb1, hb2, hb0, h4]; rfl) ?_)
      obtain rfl : j = 0 := by omega
      rw [mDig_zero] at hI
      simp [mText, h1, ← hI]
end Go.Proofs
namespace Go.Proofs
open Go Go.Ev


theorem cb_laws_markFieldS : Callable Tryz.prog 46 := ⟨_, Tryz.func46, by kernel_rfl, by kernel_rfl⟩
theorem ct_laws_markFieldS {l : List Fld} {k : Nat} (hl : l.length ≤ 1099511627776) (hk : k ≤ 1099511627776) : Ct Tryz.prog 46 [.arr 0 0 l.length, .int .i64 k] [some (3, l.map eF)] (.int .i64 ((k + 3 * l.length : Nat) : Int)) [some (3, (mks mkF 3 k l.length).map eF)] := by
  refine Ct_bodyS tok Tryz.func46 rfl 38 (by kernel_rfl) (by kernel_rfl) fun X hX => ?_
  refine jq [0, 1] ?_
  refine W_seq (jq [0, 1, 5] ?_)
  refine W_block (W_loopU (α := Nat × Nat) [0, 1, 5] (fun p => [(1, .int .i64 (p.2 : Nat)), (5, .int .i64 (p.1 : Nat))]) (fun p => [(0, some (3, (mks mkF 3 k p.1).map eF ++ (l.map eF).drop p.1))]) (fun p => p.1 ≤ l.length ∧ p.2 = k + 3 * p.1) (fun p => l.length - p.1) ((0, k)) (fun p => by simp; rfl) (by simp [mks]) ?_ ?_)
  · simp
  rintro ⟨i, q⟩ ⟨hi, hq⟩
  simp only at hi hq
  obtain ⟨q1, e1⟩ : ∃ x, x = q + 1 := ⟨_, rfl⟩
  have w1 : IntKind.i64.wrap ((q : Int) + 1) = (q1 : Int) := by rw [wrap_i64 (by omega) (by omega)]; omega
  obtain ⟨q2, e2⟩ : ∃ x, x = q1 + 1 := ⟨_, rfl⟩
  have w2 : IntKind.i64.wrap ((q1 : Int) + 1) = (q2 : Int) := by rw [wrap_i64 (by omega) (by omega)]; omega
  obtain ⟨q3, e3⟩ : ∃ x, x = q2 + 1 := ⟨_, rfl⟩
  have w3 : IntKind.i64.wrap ((q2 : Int) + 1) = (q3 : Int) := by rw [wrap_i64 (by omega) (by omega)]; omega
  have v2 := mod3 q2
  refine W_seq (W_rseqK [0, 1, 5, 9] (jh hX (by simp [w1, w2, w3, v2]; rfl)) ?_)
  refine jd (fun h2 => ?_) (fun h2 => ?_)
  · try simp at h2
    rw [List.drop_eq_getElem_cons (show i < (l.map eF).length by simpa using h2), List.getElem_map]
    generalize hZ : (l.map eF).drop (i + 1) = Z
    obtain ⟨Y, hY⟩ : ∃ Y, Y = (mks mkF 3 k i).map eF := ⟨_, rfl⟩
    rw [← hY]
    have hYl : Y.length = i := by simp [hY, mks_len]
    have m1 := fun x => midG hYl x Z
    have m2 := fun x y => midS hYl x y Z
    have hnext : (mks mkF 3 k (i + 1)).map eF ++ (l.map eF).drop (i + 1) = Y ++ .agg [.str (mText q), .str (mText q1), .bool (decide (q2 % 3 = 0))] :: Z := by
      rw [mks_succ, ← hq, hZ, hY]
      simp [mkF, e1, e2, e3]
      try omega
    refine W_skip (W_seq (W_block (W_rseqK [0, 1, 5] (js hX 3 (by simp [w1, w2, w3, v2, h2, m1, m2, hYl]; rfl) (jc [] (c:=(by apply ct_laws_markText <;> first | omega | assumption)) (a:=cb_laws_markText) (k:=(jh hX (by simp [w1, w2, w3, v2, h2, m1, m2, hYl]; rfl))))) ?_)))
    refine W_rseqK [0, 1, 5] (jh hX (by simp [w1, w2, w3, v2, h2, m1, m2, hYl]; (try (simp (disch := omega) only [wrap_i64]; (try simp [w1, w2, w3, v2, h2, m1, m2, hYl]))); rfl)) ?_
    refine W_rseqK [0, 1, 5] (js hX 3 (by simp [w1, w2, w3, v2, h2, m1, m2, hYl]; rfl) (jc [] (c:=(by apply ct_laws_markText <;> first | omega | assumption)) (a:=cb_laws_markText) (k:=(jh hX (by simp [w1, w2, w3, v2, h2, m1, m2, hYl]; rfl))))) ?_
    refine W_rseqK [0, 1, 5] (jh hX (by simp [w1, w2, w3, v2, h2, m1, m2, hYl]; (try (simp (disch := omega) only [wrap_i64]; (try simp [w1, w2, w3, v2, h2, m1, m2, hYl]))); rfl)) ?_
    refine W_rseqK [0, 1, 5] (jh hX (by simp [w1, w2, w3, v2, h2, m1, m2, hYl]; rfl)) ?_
    refine W_reg (jh hX (by simp [w1, w2, w3, v2, h2, m1, m2, hYl]; (try (simp (disch := omega) only [wrap_i64]; (try simp [w1, w2, w3, v2, h2, m1, m2, hYl]))); rfl)) ?_
    refine W_reg (jh hX (by simp [w1, w2, w3, v2, h2, m1, m2, hYl]; (try (simp (disch := omega) only [wrap_i64]; (try simp [w1, w2, w3, v2, h2, m1, m2, hYl]))); rfl)) ?_
    refine round_end ((i + 1, q3)) [0, 1, 5] (by simp [hnext, w1, w2, w3]; try (simp (disch := omega) only [wrap_i64]); try omega) ?_ ?_
    · exact ⟨by simp only; omega, by simp only; omega⟩
    · simp only; omega
  · try simp at h2
    have hil : i = l.length := by omega
    subst hil
    rw [List.drop_eq_nil_of_le (by simp), List.append_nil]
    refine W_exit (W_rseqK [4] (jh hX (by simp [w1, w2, w3, v2, h2]; rfl)) ?_)
    refine W_ret (W_retR2 (by simp [w1, w2, w3, v2, h2]; rfl) (by rfl) (.of_eq ?_) ?_)
    all_goals clear hX
    · skip
      simp; omega
    · skip
      simp
end Go.Proofs
namespace Go.Proofs
open Go Go.Ev


theorem cb_laws_markInsS : Callable Tryz.prog 87 := ⟨_, Tryz.func87, by kernel_rfl, by kernel_rfl⟩
theorem ct_laws_markInsS {l : List Ins} {k : Nat} (hl : l.length ≤ 1099511627776) (hk : k ≤ 1099511627776) : Ct Tryz.prog 87 [.arr 0 0 l.length, .int .i64 k] [some (5, l.map eI)] (.int .i64 ((k + 5 * l.length : Nat) : Int)) [some (5, (mks mkI 5 k l.length).map eI)] := by
  refine Ct_bodyS tok Tryz.func87 rfl 51 (by kernel_rfl) (by kernel_rfl) fun X hX => ?_
  refine jq [0, 1] ?_
  refine W_seq (jq [0, 1, 5] ?_)
  refine W_block (W_loopU (α := Nat × Nat) [0, 1, 5] (fun p => [(1, .int .i64 (p.2 : Nat)), (5, .int .i64 (p.1 : Nat))]) (fun p => [(0, some (5, (mks mkI 5 k p.1).map eI ++ (l.map eI).drop p.1))]) (fun p => p.1 ≤ l.length ∧ p.2 = k + 5 * p.1) (fun p => l.length - p.1) ((0, k)) (fun p => by simp; rfl) (by simp [mks]) ?_ ?_)
  · simp
  rintro ⟨i, q⟩ ⟨hi, hq⟩
  simp only at hi hq
  obtain ⟨q1, e1⟩ : ∃ x, x = q + 1 := ⟨_, rfl⟩
  have w1 : IntKind.i64.wrap ((q : Int) + 1) = (q1 : Int) := by rw [wrap_i64 (by omega) (by omega)]; omega
  obtain ⟨q2, e2⟩ : ∃ x, x = q1 + 1 := ⟨_, rfl⟩
  have w2 : IntKind.i64.wrap ((q1 : Int) + 1) = (q2 : Int) := by rw [wrap_i64 (by omega) (by omega)]; omega
  obtain ⟨q3, e3⟩ : ∃ x, x = q2 + 1 := ⟨_, rfl⟩
  have w3 : IntKind.i64.wrap ((q2 : Int) + 1) = (q3 : Int) := by rw [wrap_i64 (by omega) (by omega)]; omega
  obtain ⟨q4, e4⟩ : ∃ x, x = q3 + 1 := ⟨_, rfl⟩
  have w4 : IntKind.i64.wrap ((q3 : Int) + 1) = (q4 : Int) := by rw [wrap_i64 (by omega) (by omega)]; omega
  obtain ⟨q5, e5⟩ : ∃ x, x = q4 + 1 := ⟨_, rfl⟩
  have w5 : IntKind.i64.wrap ((q4 : Int) + 1) = (q5 : Int) := by rw [wrap_i64 (by omega) (by omega)]; omega
  refine W_seq (W_rseqK [0, 1, 5, 9] (jh hX (by simp [w1, w2, w3, w4, w5]; rfl)) ?_)
  refine jd (fun h2 => ?_) (fun h2 => ?_)
  · try simp at h2
    rw [List.drop_eq_getElem_cons (show i < (l.map eI).length by simpa using h2), List.getElem_map]
    generalize hZ : (l.map eI).drop (i + 1) = Z
    obtain ⟨Y, hY⟩ : ∃ Y, Y = (mks mkI 5 k i).map eI := ⟨_, rfl⟩
    rw [← hY]
    have hYl : Y.length = i := by simp [hY, mks_len]
    have m1 := fun x => midG hYl x Z
    have m2 := fun x y => midS hYl x y Z
    have hnext : (mks mkI 5 k (i + 1)).map eI ++ (l.map eI).drop (i + 1) = Y ++ .agg [.int .i64 (q : Nat), .int .i64 (q1 : Nat), .str (mText q2), .str (mText q3), .str (mText q4)] :: Z := by
      rw [mks_succ, ← hq, hZ, hY]
      simp [mkI, e1, e2, e3, e4, e5]
      try omega
    refine W_skip (W_seq (W_block (W_rseqK [0, 1, 5] (jh hX (by simp [w1, w2, w3, w4, w5, h2, m1, m2, hYl]; rfl)) ?_)))
    refine W_rseqK [0, 1, 5] (jh hX (by simp [w1, w2, w3, w4, w5, h2, m1, m2, hYl]; (try (simp (disch := omega) only [wrap_i64]; (try simp [w1, w2, w3, w4, w5, h2, m1, m2, hYl]))); rfl)) ?_
    refine W_rseqK [0, 1, 5] (jh hX (by simp [w1, w2, w3, w4, w5, h2, m1, m2, hYl]; rfl)) ?_
    refine W_rseqK [0, 1, 5] (jh hX (by simp [w1, w2, w3, w4, w5, h2, m1, m2, hYl]; (try (simp (disch := omega) only [wrap_i64]; (try simp [w1, w2, w3, w4, w5, h2, m1, m2, hYl]))); rfl)) ?_
    refine W_rseqK [0, 1, 5] (js hX 3 (by simp [w1, w2, w3, w4, w5, h2, m1, m2, hYl]; rfl) (jc [] (c:=(by apply ct_laws_markText <;> first | omega | assumption)) (a:=cb_laws_markText) (k:=(jh hX (by simp [w1, w2, w3, w4, w5, h2, m1, m2, hYl]; rfl))))) ?_
    refine W_rseqK [0, 1, 5] (jh hX (by simp [w1, w2, w3, w4, w5, h2, m1, m2, hYl]; (try (simp (disch := omega) only [wrap_i64]; (try simp [w1, w2, w3, w4, w5, h2, m1, m2, hYl]))); rfl)) ?_
    refine W_rseqK [0, 1, 5] (js hX 3 (by simp [w1, w2, w3, w4, w5, h2, m1, m2, hYl]; rfl) (jc [] (c:=(by apply ct_laws_markText <;> first | omega | assumption)) (a:=cb_laws_markText) (k:=(jh hX (by simp [w1, w2, w3, w4, w5, h2, m1, m2, hYl]; rfl))))) ?_
    refine W_rseqK [0, 1, 5] (jh hX (by simp [w1, w2, w3, w4, w5, h2, m1, m2, hYl]; (try (simp (disch := omega) only [wrap_i64]; (try simp [w1, w2, w3, w4, w5, h2, m1, m2, hYl]))); rfl)) ?_
    refine W_rseqK [0, 1, 5] (js hX 3 (by simp [w1, w2, w3, w4, w5, h2, m1, m2, hYl]; rfl) (jc [] (c:=(by apply ct_laws_markText <;> first | omega | assumption)) (a:=cb_laws_markText) (k:=(jh hX (by simp [w1, w2, w3, w4, w5, h2, m1, m2, hYl]; rfl))))) ?_
    refine W_reg (jh hX (by simp [w1, w2, w3, w4, w5, h2, m1, m2, hYl]; (try (simp (disch := omega) only [wrap_i64]; (try simp [w1, w2, w3, w4, w5, h2, m1, m2, hYl]))); rfl)) ?_
    refine W_reg (jh hX (by simp [w1, w2, w3, w4, w5, h2, m1, m2, hYl]; (try (simp (disch := omega) only [wrap_i64]; (try simp [w1, w2, w3, w4, w5, h2, m1, m2, hYl]))); rfl)) ?_
    refine round_end ((i + 1, q5)) [0, 1, 5] (by simp [hnext, w1, w2, w3, w4, w5]; try (simp (disch := omega) only [wrap_i64]); try omega) ?_ ?_
    · exact ⟨by simp only; omega, by simp only; omega⟩
    · simp only; omega
  · try simp at h2
    have hil : i = l.length := by omega
    subst hil
    rw [List.drop_eq_nil_of_le (by simp), List.append_nil]
    refine W_exit (W_rseqK [4] (jh hX (by simp [w1, w2, w3, w4, w5, h2]; rfl)) ?_)
    refine W_ret (W_retR2 (by simp [w1, w2, w3, w4, w5, h2]; rfl) (by rfl) (.of_eq ?_) ?_)
    all_goals clear hX
    · skip
      simp; omega
    · skip
      simp
end Go.Proofs
namespace Go.Proofs
open Go Go.Ev


theorem cb_laws_markHandlerS : Callable Tryz.prog 88 := ⟨_, Tryz.func88, by kernel_rfl, by kernel_rfl⟩
theorem ct_laws_markHandlerS {l : List Hdl} {k : Nat} (hl : l.length ≤ 1099511627776) (hk : k ≤ 1099511627776) : Ct Tryz.prog 88 [.arr 0 0 l.length, .int .i64 k] [some (4, l.map eH)] (.int .i64 ((k + 4 * l.length : Nat) : Int)) [some (4, (mks mkH 4 k l.length).map eH)] := by
  refine Ct_bodyS tok Tryz.func88 rfl 42 (by kernel_rfl) (by kernel_rfl) fun X hX => ?_
  refine jq [0, 1] ?_
  refine W_seq (jq [0, 1, 5] ?_)
  refine W_block (W_loopU (α := Nat × Nat) [0, 1, 5] (fun p => [(1, .int .i64 (p.2 : Nat)), (5, .int .i64 (p.1 : Nat))]) (fun p => [(0, some (4, (mks mkH 4 k p.1).map eH ++ (l.map eH).drop p.1))]) (fun p => p.1 ≤ l.length ∧ p.2 = k + 4 * p.1) (fun p => l.length - p.1) ((0, k)) (fun p => by simp; rfl) (by simp [mks]) ?_ ?_)
  · simp
  rintro ⟨i, q⟩ ⟨hi, hq⟩
  simp only at hi hq
  obtain ⟨q1, e1⟩ : ∃ x, x = q + 1 := ⟨_, rfl⟩
  have w1 : IntKind.i64.wrap ((q : Int) + 1) = (q1 : Int) := by rw [wrap_i64 (by omega) (by omega)]; omega
  obtain ⟨q2, e2⟩ : ∃ x, x = q1 + 1 := ⟨_, rfl⟩
  have w2 : IntKind.i64.wrap ((q1 : Int) + 1) = (q2 : Int) := by rw [wrap_i64 (by omega) (by omega)]; omega
  obtain ⟨q3, e3⟩ : ∃ x, x = q2 + 1 := ⟨_, rfl⟩
  have w3 : IntKind.i64.wrap ((q2 : Int) + 1) = (q3 : Int) := by rw [wrap_i64 (by omega) (by omega)]; omega
  obtain ⟨q4, e4⟩ : ∃ x, x = q3 + 1 := ⟨_, rfl⟩
  have w4 : IntKind.i64.wrap ((q3 : Int) + 1) = (q4 : Int) := by rw [wrap_i64 (by omega) (by omega)]; omega
  refine W_seq (W_rseqK [0, 1, 5, 9] (jh hX (by simp [w1, w2, w3, w4]; rfl)) ?_)
  refine jd (fun h2 => ?_) (fun h2 => ?_)
  · try simp at h2
    rw [List.drop_eq_getElem_cons (show i < (l.map eH).length by simpa using h2), List.getElem_map]
    generalize hZ : (l.map eH).drop (i + 1) = Z
    obtain ⟨Y, hY⟩ : ∃ Y, Y = (mks mkH 4 k i).map eH := ⟨_, rfl⟩
    rw [← hY]
    have hYl : Y.length = i := by simp [hY, mks_len]
    have m1 := fun x => midG hYl x Z
    have m2 := fun x y => midS hYl x y Z
    have hnext : (mks mkH 4 k (i + 1)).map eH ++ (l.map eH).drop (i + 1) = Y ++ .agg [.int .i64 (q : Nat), .int .i64 (q1 : Nat), .int .i64 (q2 : Nat), .str (mText q3)] :: Z := by
      rw [mks_succ, ← hq, hZ, hY]
      simp [mkH, e1, e2, e3, e4]
      try omega
    refine W_skip (W_seq (W_block (W_rseqK [0, 1, 5] (jh hX (by simp [w1, w2, w3, w4, h2, m1, m2, hYl]; rfl)) ?_)))
    refine W_rseqK [0, 1, 5] (jh hX (by simp [w1, w2, w3, w4, h2, m1, m2, hYl]; (try (simp (disch := omega) only [wrap_i64]; (try simp [w1, w2, w3, w4, h2, m1, m2, hYl]))); rfl)) ?_
    refine W_rseqK [0, 1, 5] (jh hX (by simp [w1, w2, w3, w4, h2, m1, m2, hYl]; rfl)) ?_
    refine W_rseqK [0, 1, 5] (jh hX (by simp [w1, w2, w3, w4, h2, m1, m2, hYl]; (try (simp (disch := omega) only [wrap_i64]; (try simp [w1, w2, w3, w4, h2, m1, m2, hYl]))); rfl)) ?_
    refine W_rseqK [0, 1, 5] (jh hX (by simp [w1, w2, w3, w4, h2, m1, m2, hYl]; rfl)) ?_
    refine W_rseqK [0, 1, 5] (jh hX (by simp [w1, w2, w3, w4, h2, m1, m2, hYl]; (try (simp (disch := omega) only [wrap_i64]; (try simp [w1, w2, w3, w4, h2, m1, m2, hYl]))); rfl)) ?_
    refine W_rseqK [0, 1, 5] (js hX 3 (by simp [w1, w2, w3, w4, h2, m1, m2, hYl]; rfl) (jc [] (c:=(by apply ct_laws_markText <;> first | omega | assumption)) (a:=cb_laws_markText) (k:=(jh hX (by simp [w1, w2, w3, w4, h2, m1, m2, hYl]; rfl))))) ?_
    refine W_reg (jh hX (by simp [w1, w2, w3, w4, h2, m1, m2, hYl]; (try (simp (disch := omega) only [wrap_i64]; (try simp [w1, w2, w3, w4, h2, m1, m2, hYl]))); rfl)) ?_
    refine W_reg (jh hX (by simp [w1, w2, w3, w4, h2, m1, m2, hYl]; (try (simp (disch := omega) only [wrap_i64]; (try simp [w1, w2, w3, w4, h2, m1, m2, hYl]))); rfl)) ?_
    refine round_end ((i + 1, q4)) [0, 1, 5] (by simp [hnext, w1, w2, w3, w4]; try (simp (disch := omega) only [wrap_i64]); try omega) ?_ ?_
    · exact ⟨by simp only; omega, by simp only; omega⟩
    · simp only; omega
  · try simp at h2
    have hil : i = l.length := by omega
    subst hil
    rw [List.drop_eq_nil_of_le (by simp), List.append_nil]
    refine W_exit (W_rseqK [4] (jh hX (by simp [w1, w2, w3, w4, h2]; rfl)) ?_)
    refine W_ret (W_retR2 (by simp [w1, w2, w3, w4, h2]; rfl) (by rfl) (.of_eq ?_) ?_)
    all_goals clear hX
    · skip
      simp; omega
    · skip
      simp
end Go.Proofs
namespace Go.Proofs
open Go Go.Ev


theorem cb_laws_markMethodS : Callable Tryz.prog 47 := ⟨_, Tryz.func47, by kernel_rfl, by kernel_rfl⟩
theorem ct_laws_markMethodS {l : List Mth} {k : Nat} (hk : k + cntMs l ≤ 1073741824) : Ct Tryz.prog 47 [.arr 0 0 l.length, .int .i64 k] [some (9, l.map oM)] (.int .i64 ((k + cntMs l : Nat) : Int)) [some (9, (mkMs k l).map oM)] := by
  have hl : l.length ≤ 1073741824 := by have := cntMs_len l; omega
  refine Ct_bodyS tok Tryz.func47 rfl 84 (by kernel_rfl) (by kernel_rfl) fun X hX => ?_
  refine jq [0, 1] ?_
  refine W_seq (jq [0, 1, 5] ?_)
  refine W_block (W_loopU (α := Nat × Nat) [0, 1, 5] (fun p => [(1, .int .i64 (p.2 : Nat)), (5, .int .i64 (p.1 : Nat))]) (fun p => [(0, some (9, (mkMs k (l.take p.1)).map oM ++ (l.map oM).drop p.1))]) (fun p => p.1 ≤ l.length ∧ p.2 = k + cntMs (l.take p.1)) (fun p => l.length - p.1) ((0, k)) (fun p => by simp; rfl) (by simp [mkMs]) ?_ ?_)
  · simp [cntMs]
  rintro ⟨i, q⟩ ⟨hi, hq⟩
  simp only at hi hq
  have hqB : q ≤ 1073741824 := by have := cntMs_take l i; omega
  obtain ⟨q1, e1⟩ : ∃ x, x = q + 1 := ⟨_, rfl⟩
  have w1 : IntKind.i64.wrap ((q : Int) + 1) = (q1 : Int) := by rw [wrap_i64 (by omega) (by omega)]; omega
  obtain ⟨q2, e2⟩ : ∃ x, x = q1 + 1 := ⟨_, rfl⟩
  have w2 : IntKind.i64.wrap ((q1 : Int) + 1) = (q2 : Int) := by rw [wrap_i64 (by omega) (by omega)]; omega
  obtain ⟨q3, e3⟩ : ∃ x, x = q2 + 1 := ⟨_, rfl⟩
  have w3 : IntKind.i64.wrap ((q2 : Int) + 1) = (q3 : Int) := by rw [wrap_i64 (by omega) (by omega)]; omega
  obtain ⟨q4, e4⟩ : ∃ x, x = q3 + 1 := ⟨_, rfl⟩
  have w4 : IntKind.i64.wrap ((q3 : Int) + 1) = (q4 : Int) := by rw [wrap_i64 (by omega) (by omega)]; omega
  obtain ⟨q5, e5⟩ : ∃ x, x = q4 + 1 := ⟨_, rfl⟩
  have w5 : IntKind.i64.wrap ((q4 : Int) + 1) = (q5 : Int) := by rw [wrap_i64 (by omega) (by omega)]; omega
  obtain ⟨q6, e6⟩ : ∃ x, x = q5 + 1 := ⟨_, rfl⟩
  have w6 : IntKind.i64.wrap ((q5 : Int) + 1) = (q6 : Int) := by rw [wrap_i64 (by omega) (by omega)]; omega
  obtain ⟨q7, e7⟩ : ∃ x, x = q6 + 1 := ⟨_, rfl⟩
  have w7 : IntKind.i64.wrap ((q6 : Int) + 1) = (q7 : Int) := by rw [wrap_i64 (by omega) (by omega)]; omega
  have v2 := mod3 q2
  have v3 := mod3 q3
  have v4 := mod3 q4
  refine W_seq (W_rseqK [0, 1, 5, 9] (jh hX (by simp [w1, w2, w3, w4, w5, w6, w7, v2, v3, v4]; rfl)) ?_)
  refine jd (fun h2 => ?_) (fun h2 => ?_)
  · try simp at h2
    have hB := cntMs_at l i h2
    simp only [cntM] at hB
    rw [List.drop_eq_getElem_cons (show i < (l.map oM).length by simpa using h2), List.getElem_map]
    obtain ⟨Z, hZ⟩ : ∃ Z, Z = (l.map oM).drop (i + 1) := ⟨_, rfl⟩
    rw [← hZ]
    obtain ⟨Y, hY⟩ : ∃ Y, Y = (mkMs k (l.take i)).map oM := ⟨_, rfl⟩
    rw [← hY]
    have hYl : Y.length = i := by rw [hY, List.length_map, mkMs_len, List.length_take]; omega
    have hYZ : ∀ x, i < (Y ++ x :: Z).length := fun x => by simp [hYl]
    have m1 := fun x => midG hYl x Z
    have m2 := fun x y => midS hYl x y Z
    have m3 := fun p x => mid_jk (p := p) (x := x) (Y := Y) (Z := Z) (by rw [hY]; simp) (by rw [hZ, ← List.map_drop]; exact jk_oM p _)
    have hnext : (mkMs k (l.take (i + 1))).map oM ++ (l.map oM).drop (i + 1) = Y ++ .agg [.str (mText q), .str (mText q1), .bool (decide (q2 % 3 = 0)), .bool (decide (q3 % 3 = 0)), .bool (decide (q4 % 3 = 0)), .int .i64 (q5 : Nat), .int .i64 (q6 : Nat), .lst true 5 ((mks mkI 5 q7 l[i].code.length).map eI), .lst true 4 ((mks mkH 4 (q7 + 5 * l[i].code.length) l[i].hdls.length).map eH)] :: Z := by
      rw [mkMs_snoc h2, ← hq, ← hZ, hY]
      simp only [List.map_append, List.map_cons, List.map_nil, List.append_assoc, List.singleton_append, oM, mkM]
      simp [e1, e2, e3, e4, e5, e6, e7]
      try omega
    refine W_le (Le.expose 0 i 7 (by simp [St.expose, m1, m2, hYl]; rfl)) ?_
    refine W_le (Le.expose 0 i 8 (by simp [St.expose, m1, m2, hYl]; rfl)) ?_
    refine W_skip (W_seq (W_block (W_rseqK [0, 1, 5] (js hX 3 (by simp [w1, w2, w3, w4, w5, w6, w7, v2, v3, v4, h2, m1, m2, hYl, hYZ]; rfl) (jc [] (c:=(by apply ct_laws_markText <;> first | omega | assumption | (simp; omega))) (a:=cb_laws_markText) (k:=(jh hX (by simp [w1, w2, w3, w4, w5, w6, w7, v2, v3, v4, h2, m1, m2, hYl, hYZ]; rfl))))) ?_)))
    refine W_rseqK [0, 1, 5] (jh hX (by simp [w1, w2, w3, w4, w5, w6, w7, v2, v3, v4, h2, m1, m2, hYl, hYZ]; (try (simp (disch := omega) only [wrap_i64]; (try simp [w1, w2, w3, w4, w5, w6, w7, v2, v3, v4, h2, m1, m2, hYl, hYZ]))); rfl)) ?_
    refine W_rseqK [0, 1, 5] (js hX 3 (by simp [w1, w2, w3, w4, w5, w6, w7, v2, v3, v4, h2, m1, m2, hYl, hYZ]; rfl) (jc [] (c:=(by apply ct_laws_markText <;> first | omega | assumption | (simp; omega))) (a:=cb_laws_markText) (k:=(jh hX (by simp [w1, w2, w3, w4, w5, w6, w7, v2, v3, v4, h2, m1, m2, hYl, hYZ]; rfl))))) ?_
    refine W_rseqK [0, 1, 5] (jh hX (by simp [w1, w2, w3, w4, w5, w6, w7, v2, v3, v4, h2, m1, m2, hYl, hYZ]; (try (simp (disch := omega) only [wrap_i64]; (try simp [w1, w2, w3, w4, w5, w6, w7, v2, v3, v4, h2, m1, m2, hYl, hYZ]))); rfl)) ?_
    refine W_rseqK [0, 1, 5] (jh hX (by simp [w1, w2, w3, w4, w5, w6, w7, v2, v3, v4, h2, m1, m2, hYl, hYZ]; rfl)) ?_
    refine W_rseqK [0, 1, 5] (jh hX (by simp [w1, w2, w3, w4, w5, w6, w7, v2, v3, v4, h2, m1, m2, hYl, hYZ]; (try (simp (disch := omega) only [wrap_i64]; (try simp [w1, w2, w3, w4, w5, w6, w7, v2, v3, v4, h2, m1, m2, hYl, hYZ]))); rfl)) ?_
    refine W_rseqK [0, 1, 5] (jh hX (by simp [w1, w2, w3, w4, w5, w6, w7, v2, v3, v4, h2, m1, m2, hYl, hYZ]; rfl)) ?_
    refine W_rseqK [0, 1, 5] (jh hX (by simp [w1, w2, w3, w4, w5, w6, w7, v2, v3, v4, h2, m1, m2, hYl, hYZ]; (try (simp (disch := omega) only [wrap_i64]; (try simp [w1, w2, w3, w4, w5, w6, w7, v2, v3, v4, h2, m1, m2, hYl, hYZ]))); rfl)) ?_
    refine W_rseqK [0, 1, 5] (jh hX (by simp [w1, w2, w3, w4, w5, w6, w7, v2, v3, v4, h2, m1, m2, hYl, hYZ]; rfl)) ?_
    refine W_rseqK [0, 1, 5] (jh hX (by simp [w1, w2, w3, w4, w5, w6, w7, v2, v3, v4, h2, m1, m2, hYl, hYZ]; (try (simp (disch := omega) only [wrap_i64]; (try simp [w1, w2, w3, w4, w5, w6, w7, v2, v3, v4, h2, m1, m2, hYl, hYZ]))); rfl)) ?_
    refine W_rseqK [0, 1, 5] (jh hX (by simp [w1, w2, w3, w4, w5, w6, w7, v2, v3, v4, h2, m1, m2, hYl, hYZ]; rfl)) ?_
    refine W_rseqK [0, 1, 5] (jh hX (by simp [w1, w2, w3, w4, w5, w6, w7, v2, v3, v4, h2, m1, m2, hYl, hYZ]; (try (simp (disch := omega) only [wrap_i64]; (try simp [w1, w2, w3, w4, w5, w6, w7, v2, v3, v4, h2, m1, m2, hYl, hYZ]))); rfl)) ?_
    refine W_rseqK [0, 1, 5] (jh hX (by simp [w1, w2, w3, w4, w5, w6, w7, v2, v3, v4, h2, m1, m2, hYl, hYZ]; rfl)) ?_
    refine W_rseqK [0, 1, 5] (jh hX (by simp [w1, w2, w3, w4, w5, w6, w7, v2, v3, v4, h2, m1, m2, hYl, hYZ]; (try (simp (disch := omega) only [wrap_i64]; (try simp [w1, w2, w3, w4, w5, w6, w7, v2, v3, v4, h2, m1, m2, hYl, hYZ]))); rfl)) ?_
    refine W_rseqK [0, 1, 5] (js hX 6 (by simp [w1, w2, w3, w4, w5, w6, w7, v2, v3, v4, h2, m1, m2, hYl, hYZ]; rfl) (jc [1] (c:=(by (try simp only [mapL_T, mapL_F, mapL_I, mapL_H, mapL_M, mapL_C]); apply ct_laws_markInsS <;> first | omega | assumption | (simp; omega))) (a:=cb_laws_markInsS) (k:=(jh hX (by simp [w1, w2, w3, w4, w5, w6, w7, v2, v3, v4, h2, m1, m2, hYl, hYZ]; rfl))))) ?_
    refine W_reg (js hX 6 (by simp [w1, w2, w3, w4, w5, w6, w7, v2, v3, v4, h2, m1, m2, hYl, hYZ]; rfl) (jc [2] (c:=(by (try simp only [mapL_T, mapL_F, mapL_I, mapL_H, mapL_M, mapL_C]); apply ct_laws_markHandlerS <;> first | omega | assumption | (simp; omega))) (a:=cb_laws_markHandlerS) (k:=(jh hX (by simp [w1, w2, w3, w4, w5, w6, w7, v2, v3, v4, h2, m1, m2, hYl, hYZ]; rfl))))) ?_
    refine W_reg (jh hX (by simp [w1, w2, w3, w4, w5, w6, w7, v2, v3, v4, h2, m1, m2, hYl, hYZ]; (try (simp (disch := omega) only [wrap_i64]; (try simp [w1, w2, w3, w4, w5, w6, w7, v2, v3, v4, h2, m1, m2, hYl, hYZ]))); rfl)) ?_
    refine ⟨(i + 1, (q7 + 5 * l[i].code.length) + 4 * l[i].hdls.length), Le.trans (Le.keep [0, 1, 5] _) (Le.trans (Le.absorb 0 i 7 (by simp [m1, m2, m3, hYl, hYZ, mks_len, mkMs_len, take_mks, take_mkMs]; rfl)) (Le.trans (Le.absorb 0 i 8 (by simp [m1, m2, m3, hYl, hYZ, mks_len, mkMs_len, take_mks, take_mkMs]; rfl)) (Le.trans (Le.trim 1 (by simp [hX]) _ (by simp)) (Le.of_eq (by simp [hnext, m1, m2, m3, hYl, hYZ, mks_len, mkMs_len, take_mks, take_mkMs, V.jk, jkL, w1, w2, w3, w4, w5, w6, w7]; try omega))))), ?_, ?_⟩
    · exact ⟨by simp only; omega, by simp only; rw [cntMs_snoc h2]; simp only [cntM]; omega⟩
    · simp only; omega
  · try simp at h2
    have hil : i = l.length := by omega
    subst hil
    rw [List.drop_eq_nil_of_le (by simp), List.append_nil, List.take_of_length_le (Nat.le_refl _)]
    rw [List.take_of_length_le (Nat.le_refl _)] at hq
    refine W_exit (W_rseqK [4] (jh hX (by simp [w1, w2, w3, w4, w5, w6, w7, v2, v3, v4, h2]; rfl)) ?_)
    refine W_ret (W_retR2 (by simp [w1, w2, w3, w4, w5, w6, w7, v2, v3, v4, h2]; rfl) (by rfl) (.of_eq ?_) ?_)
    all_goals clear hX
    · skip
      simp; omega
    · skip
      simp
end Go.Proofs
namespace Go.Proofs
open Go Go.Ev


theorem cb_laws_markClassS : Callable Tryz.prog 17 := ⟨_, Tryz.func17, by kernel_rfl, by kernel_rfl⟩
theorem ct_laws_markClassS {l : List Cls} {k : Nat} (hk : k + cntCs l ≤ 1073741824) : Ct Tryz.prog 17 [.arr 0 0 l.length, .int .i64 k] [some (6, l.map oC)] (.int .i64 ((k + cntCs l : Nat) : Int)) [some (6, (mkCs k l).map oC)] := by
  have hl : l.length ≤ 1073741824 := by have := cntCs_len l; omega
  refine Ct_bodyS tok Tryz.func17 rfl 61 (by kernel_rfl) (by kernel_rfl) fun X hX => ?_
  refine jq [0, 1] ?_
  refine W_seq (jq [0, 1, 5] ?_)
  refine W_block (W_loopU (α := Nat × Nat) [0, 1, 5] (fun p => [(1, .int .i64 (p.2 : Nat)), (5, .int .i64 (p.1 : Nat))]) (fun p => [(0, some (6, (mkCs k (l.take p.1)).map oC ++ (l.map oC).drop p.1))]) (fun p => p.1 ≤ l.length ∧ p.2 = k + cntCs (l.take p.1)) (fun p => l.length - p.1) ((0, k)) (fun p => by simp; rfl) (by simp [mkCs]) ?_ ?_)
  · simp [cntCs]
  rintro ⟨i, q⟩ ⟨hi, hq⟩
  simp only at hi hq
  have hqB : q ≤ 1073741824 := by have := cntCs_take l i; omega
  obtain ⟨q1, e1⟩ : ∃ x, x = q + 1 := ⟨_, rfl⟩
  have w1 : IntKind.i64.wrap ((q : Int) + 1) = (q1 : Int) := by rw [wrap_i64 (by omega) (by omega)]; omega
  obtain ⟨q2, e2⟩ : ∃ x, x = q1 + 1 := ⟨_, rfl⟩
  have w2 : IntKind.i64.wrap ((q1 : Int) + 1) = (q2 : Int) := by rw [wrap_i64 (by omega) (by omega)]; omega
  obtain ⟨q3, e3⟩ : ∃ x, x = q2 + 1 := ⟨_, rfl⟩
  have w3 : IntKind.i64.wrap ((q2 : Int) + 1) = (q3 : Int) := by rw [wrap_i64 (by omega) (by omega)]; omega
  obtain ⟨q4, e4⟩ : ∃ x, x = q3 + 1 := ⟨_, rfl⟩
  have w4 : IntKind.i64.wrap ((q3 : Int) + 1) = (q4 : Int) := by rw [wrap_i64 (by omega) (by omega)]; omega
  have v2 := mod3 q2
  have v3 := mod3 q3
  refine W_seq (W_rseqK [0, 1, 5, 9] (jh hX (by simp [w1, w2, w3, w4, v2, v3]; rfl)) ?_)
  refine jd (fun h2 => ?_) (fun h2 => ?_)
  · try simp at h2
    have hB := cntCs_at l i h2
    simp only [cntC] at hB
    rw [List.drop_eq_getElem_cons (show i < (l.map oC).length by simpa using h2), List.getElem_map]
    obtain ⟨Z, hZ⟩ : ∃ Z, Z = (l.map oC).drop (i + 1) := ⟨_, rfl⟩
    rw [← hZ]
    obtain ⟨Y, hY⟩ : ∃ Y, Y = (mkCs k (l.take i)).map oC := ⟨_, rfl⟩
    rw [← hY]
    have hYl : Y.length = i := by rw [hY, List.length_map, mkCs_len, List.length_take]; omega
    have hYZ : ∀ x, i < (Y ++ x :: Z).length := fun x => by simp [hYl]
    have m1 := fun x => midG hYl x Z
    have m2 := fun x y => midS hYl x y Z
    have m3 := fun p x => mid_jk (p := p) (x := x) (Y := Y) (Z := Z) (by rw [hY]; simp) (by rw [hZ, ← List.map_drop]; exact jk_oC p _)
    have hnext : (mkCs k (l.take (i + 1))).map oC ++ (l.map oC).drop (i + 1) = Y ++ .agg [.str (mText q), .str (mText q1), .bool (decide (q2 % 3 = 0)), .bool (decide (q3 % 3 = 0)), .lst true 3 ((mks mkF 3 q4 l[i].fields.length).map eF), .lst true 9 ((mkMs (q4 + 3 * l[i].fields.length) l[i].methods).map oM)] :: Z := by
      rw [mkCs_snoc h2, ← hq, ← hZ, hY]
      simp only [List.map_append, List.map_cons, List.map_nil, List.append_assoc, List.singleton_append, oC, mkC]
      simp [e1, e2, e3, e4]
      try omega
    refine W_le (Le.expose 0 i 4 (by simp [St.expose, m1, m2, hYl]; rfl)) ?_
    refine W_le (Le.expose 0 i 5 (by simp [St.expose, m1, m2, hYl]; rfl)) ?_
    refine W_skip (W_seq (W_block (W_rseqK [0, 1, 5] (js hX 3 (by simp [w1, w2, w3, w4, v2, v3, h2, m1, m2, hYl, hYZ]; rfl) (jc [] (c:=(by apply ct_laws_markText <;> first | omega | assumption | (simp; omega))) (a:=cb_laws_markText) (k:=(jh hX (by simp [w1, w2, w3, w4, v2, v3, h2, m1, m2, hYl, hYZ]; rfl))))) ?_)))
    refine W_rseqK [0, 1, 5] (jh hX (by simp [w1, w2, w3, w4, v2, v3, h2, m1, m2, hYl, hYZ]; (try (simp (disch := omega) only [wrap_i64]; (try simp [w1, w2, w3, w4, v2, v3, h2, m1, m2, hYl, hYZ]))); rfl)) ?_
    refine W_rseqK [0, 1, 5] (js hX 3 (by simp [w1, w2, w3, w4, v2, v3, h2, m1, m2, hYl, hYZ]; rfl) (jc [] (c:=(by apply ct_laws_markText <;> first | omega | assumption | (simp; omega))) (a:=cb_laws_markText) (k:=(jh hX (by simp [w1, w2, w3, w4, v2, v3, h2, m1, m2, hYl, hYZ]; rfl))))) ?_
    refine W_rseqK [0, 1, 5] (jh hX (by simp [w1, w2, w3, w4, v2, v3, h2, m1, m2, hYl, hYZ]; (try (simp (disch := omega) only [wrap_i64]; (try simp [w1, w2, w3, w4, v2, v3, h2, m1, m2, hYl, hYZ]))); rfl)) ?_
    refine W_rseqK [0, 1, 5] (jh hX (by simp [w1, w2, w3, w4, v2, v3, h2, m1, m2, hYl, hYZ]; rfl)) ?_
    refine W_rseqK [0, 1, 5] (jh hX (by simp [w1, w2, w3, w4, v2, v3, h2, m1, m2, hYl, hYZ]; (try (simp (disch := omega) only [wrap_i64]; (try simp [w1, w2, w3, w4, v2, v3, h2, m1, m2, hYl, hYZ]))); rfl)) ?_
    refine W_rseqK [0, 1, 5] (jh hX (by simp [w1, w2, w3, w4, v2, v3, h2, m1, m2, hYl, hYZ]; rfl)) ?_
    refine W_rseqK [0, 1, 5] (jh hX (by simp [w1, w2, w3, w4, v2, v3, h2, m1, m2, hYl, hYZ]; (try (simp (disch := omega) only [wrap_i64]; (try simp [w1, w2, w3, w4, v2, v3, h2, m1, m2, hYl, hYZ]))); rfl)) ?_
    refine W_rseqK [0, 1, 5] (js hX 6 (by simp [w1, w2, w3, w4, v2, v3, h2, m1, m2, hYl, hYZ]; rfl) (jc [1] (c:=(by (try simp only [mapL_T, mapL_F, mapL_I, mapL_H, mapL_M, mapL_C]); apply ct_laws_markFieldS <;> first | omega | assumption | (simp; omega))) (a:=cb_laws_markFieldS) (k:=(jh hX (by simp [w1, w2, w3, w4, v2, v3, h2, m1, m2, hYl, hYZ]; rfl))))) ?_
    refine W_reg (js hX 6 (by simp [w1, w2, w3, w4, v2, v3, h2, m1, m2, hYl, hYZ]; rfl) (jc [2] (c:=(by (try simp only [mapL_T, mapL_F, mapL_I, mapL_H, mapL_M, mapL_C]); apply ct_laws_markMethodS <;> first | omega | assumption | (simp; omega))) (a:=cb_laws_markMethodS) (k:=(jh hX (by simp [w1, w2, w3, w4, v2, v3, h2, m1, m2, hYl, hYZ]; rfl))))) ?_
    refine W_reg (jh hX (by simp [w1, w2, w3, w4, v2, v3, h2, m1, m2, hYl, hYZ]; (try (simp (disch := omega) only [wrap_i64]; (try simp [w1, w2, w3, w4, v2, v3, h2, m1, m2, hYl, hYZ]))); rfl)) ?_
    refine ⟨(i + 1, (q4 + 3 * l[i].fields.length) + cntMs l[i].methods), Le.trans (Le.keep [0, 1, 5] _) (Le.trans (Le.absorb 0 i 4 (by simp [m1, m2, m3, hYl, hYZ, mks_len, mkMs_len, take_mks, take_mkMs]; rfl)) (Le.trans (Le.absorb 0 i 5 (by simp [m1, m2, m3, hYl, hYZ, mks_len, mkMs_len, take_mks, take_mkMs]; rfl)) (Le.trans (Le.trim 1 (by simp [hX]) _ (by simp)) (Le.of_eq (by simp [hnext, m1, m2, m3, hYl, hYZ, mks_len, mkMs_len, take_mks, take_mkMs, V.jk, jkL, w1, w2, w3, w4]; try omega))))), ?_, ?_⟩
    · exact ⟨by simp only; omega, by simp only; rw [cntCs_snoc h2]; simp only [cntC]; omega⟩
    · simp only; omega
  · try simp at h2
    have hil : i = l.length := by omega
    subst hil
    rw [List.drop_eq_nil_of_le (by simp), List.append_nil, List.take_of_length_le (Nat.le_refl _)]
    rw [List.take_of_length_le (Nat.le_refl _)] at hq
    refine W_exit (W_rseqK [4] (jh hX (by simp [w1, w2, w3, w4, v2, v3, h2]; rfl)) ?_)
    refine W_ret (W_retR2 (by simp [w1, w2, w3, w4, v2, v3, h2]; rfl) (by rfl) (.of_eq ?_) ?_)
    all_goals clear hX
    · skip
      simp; omega
    · skip
      simp
end Go.Proofs
namespace Go.Proofs
open Go Go.Ev


theorem cb_laws_markValS : Callable Tryz.prog 89 := ⟨_, Tryz.func89, by kernel_rfl, by kernel_rfl⟩
theorem ct_laws_markValS {l : List Vl} {k : Nat} (hl : l.length ≤ 1099511627776) (hk : k ≤ 1099511627776) : Ct Tryz.prog 89 [.arr 0 0 l.length, .int .i64 k] [some (2, l.map eVl)] (.int .i64 ((k + 2 * l.length : Nat) : Int)) [some (2, (mks mkV 2 k l.length).map eVl)] := by
  refine Ct_bodyS tok Tryz.func89 rfl 27 (by kernel_rfl) (by kernel_rfl) fun X hX => ?_
  refine jq [0, 1] ?_
  refine W_seq (jq [0, 1, 5] ?_)
  refine W_block (W_loopU (α := Nat × Nat) [0, 1, 5] (fun p => [(1, .int .i64 (p.2 : Nat)), (5, .int .i64 (p.1 : Nat))]) (fun p => [(0, some (2, (mks mkV 2 k p.1).map eVl ++ (l.map eVl).drop p.1))]) (fun p => p.1 ≤ l.length ∧ p.2 = k + 2 * p.1) (fun p => l.length - p.1) ((0, k)) (fun p => by simp; rfl) (by simp [mks]) ?_ ?_)
  · simp
  rintro ⟨i, q⟩ ⟨hi, hq⟩
  simp only at hi hq
  obtain ⟨q1, e1⟩ : ∃ x, x = q + 1 := ⟨_, rfl⟩
  have w1 : IntKind.i64.wrap ((q : Int) + 1) = (q1 : Int) := by rw [wrap_i64 (by omega) (by omega)]; omega
  obtain ⟨q2, e2⟩ : ∃ x, x = q1 + 1 := ⟨_, rfl⟩
  have w2 : IntKind.i64.wrap ((q1 : Int) + 1) = (q2 : Int) := by rw [wrap_i64 (by omega) (by omega)]; omega
  refine W_seq (W_rseqK [0, 1, 5, 9] (jh hX (by simp [w1, w2]; rfl)) ?_)
  refine jd (fun h2 => ?_) (fun h2 => ?_)
  · try simp at h2
    rw [List.drop_eq_getElem_cons (show i < (l.map eVl).length by simpa using h2), List.getElem_map]
    generalize hZ : (l.map eVl).drop (i + 1) = Z
    obtain ⟨Y, hY⟩ : ∃ Y, Y = (mks mkV 2 k i).map eVl := ⟨_, rfl⟩
    rw [← hY]
    have hYl : Y.length = i := by simp [hY, mks_len]
    have m1 := fun x => midG hYl x Z
    have m2 := fun x y => midS hYl x y Z
    have hnext : (mks mkV 2 k (i + 1)).map eVl ++ (l.map eVl).drop (i + 1) = Y ++ .agg [.int .i64 (q : Nat), .int .i64 (q1 : Nat)] :: Z := by
      rw [mks_succ, ← hq, hZ, hY]
      simp [mkV, e1, e2]
      try omega
    refine W_skip (W_seq (W_block (W_rseqK [0, 1, 5] (jh hX (by simp [w1, w2, h2, m1, m2, hYl]; rfl)) ?_)))
    refine W_rseqK [0, 1, 5] (jh hX (by simp [w1, w2, h2, m1, m2, hYl]; (try (simp (disch := omega) only [wrap_i64]; (try simp [w1, w2, h2, m1, m2, hYl]))); rfl)) ?_
    refine W_rseqK [0, 1, 5] (jh hX (by simp [w1, w2, h2, m1, m2, hYl]; rfl)) ?_
    refine W_reg (jh hX (by simp [w1, w2, h2, m1, m2, hYl]; (try (simp (disch := omega) only [wrap_i64]; (try simp [w1, w2, h2, m1, m2, hYl]))); rfl)) ?_
    refine W_reg (jh hX (by simp [w1, w2, h2, m1, m2, hYl]; (try (simp (disch := omega) only [wrap_i64]; (try simp [w1, w2, h2, m1, m2, hYl]))); rfl)) ?_
    refine round_end ((i + 1, q2)) [0, 1, 5] (by simp [hnext, w1, w2]; try (simp (disch := omega) only [wrap_i64]); try omega) ?_ ?_
    · exact ⟨by simp only; omega, by simp only; omega⟩
    · simp only; omega
  · try simp at h2
    have hil : i = l.length := by omega
    subst hil
    rw [List.drop_eq_nil_of_le (by simp), List.append_nil]
    refine W_exit (W_rseqK [4] (jh hX (by simp [w1, w2, h2]; rfl)) ?_)
    refine W_ret (W_retR2 (by simp [w1, w2, h2]; rfl) (by rfl) (.of_eq ?_) ?_)
    all_goals clear hX
    · skip
      simp; omega
    · skip
      simp
end Go.Proofs
namespace Go.Proofs
open Go Go.Ev


theorem cb_laws_markObjS : Callable Tryz.prog 48 := ⟨_, Tryz.func48, by kernel_rfl, by kernel_rfl⟩
theorem ct_laws_markObjS {l : List HOb} {k : Nat} (hk : k + cntOs l ≤ 1073741824) : Ct Tryz.prog 48 [.arr 0 0 l.length, .int .i64 k] [some (4, l.map oOb)] (.int .i64 ((k + cntOs l : Nat) : Int)) [some (4, (mkOs k l).map oOb)] := by
  have hl : l.length ≤ 1073741824 := by have := cntOs_len l; omega
  refine Ct_bodyS tok Tryz.func48 rfl 44 (by kernel_rfl) (by kernel_rfl) fun X hX => ?_
  refine jq [0, 1] ?_
  refine W_seq (jq [0, 1, 5] ?_)
  refine W_block (W_loopU (α := Nat × Nat) [0, 1, 5] (fun p => [(1, .int .i64 (p.2 : Nat)), (5, .int .i64 (p.1 : Nat))]) (fun p => [(0, some (4, (mkOs k (l.take p.1)).map oOb ++ (l.map oOb).drop p.1))]) (fun p => p.1 ≤ l.length ∧ p.2 = k + cntOs (l.take p.1)) (fun p => l.length - p.1) ((0, k)) (fun p => by simp; rfl) (by simp [mkOs]) ?_ ?_)
  · simp [cntOs]
  rintro ⟨i, q⟩ ⟨hi, hq⟩
  simp only at hi hq
  have hqB : q ≤ 1073741824 := by have := cntOs_take l i; omega
  obtain ⟨q1, e1⟩ : ∃ x, x = q + 1 := ⟨_, rfl⟩
  have w1 : IntKind.i64.wrap ((q : Int) + 1) = (q1 : Int) := by rw [wrap_i64 (by omega) (by omega)]; omega
  obtain ⟨q2, e2⟩ : ∃ x, x = q1 + 1 := ⟨_, rfl⟩
  have w2 : IntKind.i64.wrap ((q1 : Int) + 1) = (q2 : Int) := by rw [wrap_i64 (by omega) (by omega)]; omega
  obtain ⟨q3, e3⟩ : ∃ x, x = q2 + 1 := ⟨_, rfl⟩
  have w3 : IntKind.i64.wrap ((q2 : Int) + 1) = (q3 : Int) := by rw [wrap_i64 (by omega) (by omega)]; omega
  have v2 := mod3 q2
  refine W_seq (W_rseqK [0, 1, 5, 9] (jh hX (by simp [w1, w2, w3, v2]; rfl)) ?_)
  refine jd (fun h2 => ?_) (fun h2 => ?_)
  · try simp at h2
    have hB := cntOs_at l i h2
    simp only [cntO] at hB
    rw [List.drop_eq_getElem_cons (show i < (l.map oOb).length by simpa using h2), List.getElem_map]
    obtain ⟨Z, hZ⟩ : ∃ Z, Z = (l.map oOb).drop (i + 1) := ⟨_, rfl⟩
    rw [← hZ]
    obtain ⟨Y, hY⟩ : ∃ Y, Y = (mkOs k (l.take i)).map oOb := ⟨_, rfl⟩
    rw [← hY]
    have hYl : Y.length = i := by rw [hY, List.length_map, mkOs_len, List.length_take]; omega
    have hYZ : ∀ x, i < (Y ++ x :: Z).length := fun x => by simp [hYl]
    have m1 := fun x => midG hYl x Z
    have m2 := fun x y => midS hYl x y Z
    have m3 := fun p x => mid_jk (p := p) (x := x) (Y := Y) (Z := Z) (by rw [hY]; simp) (by rw [hZ, ← List.map_drop]; exact jk_oOb p _)
    have hnext : (mkOs k (l.take (i + 1))).map oOb ++ (l.map oOb).drop (i + 1) = Y ++ .agg [.int .i64 (q : Nat), .str (mText q1), .bool (decide (q2 % 3 = 0)), .lst true 2 ((mks mkV 2 q3 l[i].vals.length).map eVl)] :: Z := by
      rw [mkOs_snoc h2, ← hq, ← hZ, hY]
      simp only [List.map_append, List.map_cons, List.map_nil, List.append_assoc, List.singleton_append, oOb, mkO]
      simp [e1, e2, e3]
      try omega
    refine W_le (Le.expose 0 i 3 (by simp [St.expose, m1, m2, hYl]; rfl)) ?_
    refine W_skip (W_seq (W_block (W_rseqK [0, 1, 5] (jh hX (by simp [w1, w2, w3, v2, h2, m1, m2, hYl, hYZ]; rfl)) ?_)))
    refine W_rseqK [0, 1, 5] (jh hX (by simp [w1, w2, w3, v2, h2, m1, m2, hYl, hYZ]; (try (simp (disch := omega) only [wrap_i64]; (try simp [w1, w2, w3, v2, h2, m1, m2, hYl, hYZ]))); rfl)) ?_
    refine W_rseqK [0, 1, 5] (js hX 3 (by simp [w1, w2, w3, v2, h2, m1, m2, hYl, hYZ]; rfl) (jc [] (c:=(by apply ct_laws_markText <;> first | omega | assumption | (simp; omega))) (a:=cb_laws_markText) (k:=(jh hX (by simp [w1, w2, w3, v2, h2, m1, m2, hYl, hYZ]; rfl))))) ?_
    refine W_rseqK [0, 1, 5] (jh hX (by simp [w1, w2, w3, v2, h2, m1, m2, hYl, hYZ]; (try (simp (disch := omega) only [wrap_i64]; (try simp [w1, w2, w3, v2, h2, m1, m2, hYl, hYZ]))); rfl)) ?_
    refine W_rseqK [0, 1, 5] (jh hX (by simp [w1, w2, w3, v2, h2, m1, m2, hYl, hYZ]; rfl)) ?_
    refine W_rseqK [0, 1, 5] (jh hX (by simp [w1, w2, w3, v2, h2, m1, m2, hYl, hYZ]; (try (simp (disch := omega) only [wrap_i64]; (try simp [w1, w2, w3, v2, h2, m1, m2, hYl, hYZ]))); rfl)) ?_
    refine W_reg (js hX 6 (by simp [w1, w2, w3, v2, h2, m1, m2, hYl, hYZ]; rfl) (jc [1] (c:=(by (try simp only [mapL_T, mapL_F, mapL_I, mapL_H, mapL_M, mapL_C, mapL_Vl, mapL_Ob]); apply ct_laws_markValS <;> first | omega | assumption | (simp; omega))) (a:=cb_laws_markValS) (k:=(jh hX (by simp [w1, w2, w3, v2, h2, m1, m2, hYl, hYZ]; rfl))))) ?_
    refine W_reg (jh hX (by simp [w1, w2, w3, v2, h2, m1, m2, hYl, hYZ]; (try (simp (disch := omega) only [wrap_i64]; (try simp [w1, w2, w3, v2, h2, m1, m2, hYl, hYZ]))); rfl)) ?_
    refine ⟨(i + 1, (q3 + 2 * l[i].vals.length)), Le.trans (Le.keep [0, 1, 5] _) (Le.trans (Le.absorb 0 i 3 (by simp [m1, m2, m3, hYl, hYZ, mks_len, mkMs_len, take_mks, take_mkMs]; rfl)) (Le.trans (Le.trim 1 (by simp [hX]) _ (by simp)) (Le.of_eq (by simp [hnext, m1, m2, m3, hYl, hYZ, mks_len, mkMs_len, take_mks, take_mkMs, V.jk, jkL, w1, w2, w3]; try omega)))), ?_, ?_⟩
    · exact ⟨by simp only; omega, by simp only; rw [cntOs_snoc h2]; simp only [cntO]; omega⟩
    · simp only; omega
  · try simp at h2
    have hil : i = l.length := by omega
    subst hil
    rw [List.drop_eq_nil_of_le (by simp), List.append_nil, List.take_of_length_le (Nat.le_refl _)]
    rw [List.take_of_length_le (Nat.le_refl _)] at hq
    refine W_exit (W_rseqK [4] (jh hX (by simp [w1, w2, w3, v2, h2]; rfl)) ?_)
    refine W_ret (W_retR2 (by simp [w1, w2, w3, v2, h2]; rfl) (by rfl) (.of_eq ?_) ?_)
    all_goals clear hX
    · skip
      simp; omega
    · skip
      simp
end Go.Proofs
namespace Go.Proofs
open Go Go.Ev


theorem cb_laws_markHeap : Callable Tryz.prog 18 := ⟨_, Tryz.func18, by kernel_rfl, by kernel_rfl⟩
theorem ct_laws_markHeap {l : List HOb} {r : Int} {k : Nat} (hk : k + cntOs l ≤ 1073741824) : Ct Tryz.prog 18 [.agg [.arr 0 0 l.length, .int .i64 r], .int .i64 (k : Nat)] [some (4, l.map oOb)] (.int .i64 ((k + cntOs l : Nat) : Int)) [some (4, (mkOs k l).map oOb)] := by
  refine Ct_bodyS tok Tryz.func18 rfl 10 (by kernel_rfl) (by kernel_rfl) fun X hX => ?_
  refine jq [1, 2] ?_
  refine W_rseqK [1] (jt 3 (k:=(jc [0] (c:=(by (try simp only [mapL_T, mapL_F, mapL_I, mapL_H, mapL_M, mapL_C, mapL_Vl, mapL_Ob]); apply ct_laws_markObjS <;> first | assumption | omega)) (a:=cb_laws_markObjS) (k:=jr)))) ?_
  refine jq [4] ?_
  refine W_ret (W_retR2 (by simp; rfl) (by rfl) (.of_eq ?_) ?_)
  all_goals clear hX
  · skip
    simp
  · skip
    simp
end Go.Proofs
namespace Go.Proofs
open Go Go.Ev


theorem cb_laws_markHeapOut : Callable Tryz.prog 19 := ⟨_, Tryz.func19, by kernel_rfl, by kernel_rfl⟩
theorem ct_laws_markHeapOut {l : List HOb} {r v1 v2 c : Int} {k : Nat} (hk : k + cntOs l ≤ 1073741824) : Ct Tryz.prog 19 [.agg [.arr 0 0 l.length, .int .i64 r, .int .i64 v1, .int .i64 v2, .int .i64 c], .int .i64 (k : Nat)] [some (4, l.map oOb)] (.int .i64 ((k + cntOs l : Nat) : Int)) [some (4, (mkOs k l).map oOb)] := by
  refine Ct_bodyS tok Tryz.func19 rfl 10 (by kernel_rfl) (by kernel_rfl) fun X hX => ?_
  refine jq [1, 2] ?_
  refine W_rseqK [1] (jt 3 (k:=(jc [0] (c:=(by (try simp only [mapL_T, mapL_F, mapL_I, mapL_H, mapL_M, mapL_C, mapL_Vl, mapL_Ob]); apply ct_laws_markHeap <;> first | assumption | omega)) (a:=cb_laws_markHeap) (k:=jr)))) ?_
  refine jq [4] ?_
  refine W_ret (W_retR2 (by simp; rfl) (by rfl) (.of_eq ?_) ?_)
  all_goals clear hX
  · skip
    simp
  · skip
    simp
end Go.Proofs
namespace Go.Proofs
open Go Go.Ev


theorem cb_laws_heldValS : Callable Tryz.prog 136 := ⟨_, Tryz.func136, by kernel_rfl, by kernel_rfl⟩
theorem ct_laws_heldValS {k n : Nat} (hl : n ≤ 1099511627776) (hk : k ≤ 1099511627776) : Ct Tryz.prog 136 [.lst false 2 ((mks mkV 2 k n).map eVl), .int .i64 k] [] (.int .i64 ((k + 2 * n : Nat) : Int)) [] := by
  refine Ct_bodyS tok Tryz.func136 rfl 31 (by kernel_rfl) (by kernel_rfl) fun X hX => ?_
  refine W_rseqK [0, 1] (jh hX (by simp [mks_len]; rfl)) ?_
  refine W_seq (W_rseqK [0, 1, 5] (jh hX (by simp [mks_len]; rfl)) ?_)
  refine W_block (W_loopU (α := Nat × Nat) [0, 1, 5] (fun p => [(1, .int .i64 (p.2 : Nat)), (5, .int .i64 (p.1 : Nat))]) (fun p => []) (fun p => p.1 ≤ n ∧ p.2 = k + 2 * p.1) (fun p => n - p.1) ((0, k)) (fun p => by simp; rfl) (by simp) ?_ ?_)
  · simp
  rintro ⟨i, q⟩ ⟨hi, hq⟩
  simp only at hi hq
  obtain ⟨q1, e1⟩ : ∃ x, x = q + 1 := ⟨_, rfl⟩
  have w1 : IntKind.i64.wrap ((q : Int) + 1) = (q1 : Int) := by rw [wrap_i64 (by omega) (by omega)]; omega
  obtain ⟨q2, e2⟩ : ∃ x, x = q1 + 1 := ⟨_, rfl⟩
  have w2 : IntKind.i64.wrap ((q1 : Int) + 1) = (q2 : Int) := by rw [wrap_i64 (by omega) (by omega)]; omega
  have v1 : (q : Int) + 1 = (q1 : Int) := by omega
  have u1 : q + 1 = q1 := by omega
  refine W_seq (W_rseqK [0, 1, 5, 9] (jh hX (by simp [w1, w2, v1, u1, mks_len]; rfl)) ?_)
  refine jd (fun h2 => ?_) (fun h2 => ?_)
  · try simp at h2
    have hg : ∀ h, (mks mkV 2 k n)[i]'h = mkV q := fun h => by rw [mks_get h2, hq]
    refine W_skip (W_seq (W_block (W_seq (W_rseqK [0, 1, 5, 18] (jh hX (by simp [w1, w2, v1, u1, h2, hg, mkV, mks_len]; rfl)) ?_))))
    refine jd (fun h4 => ?_) (fun h4 => ?_)
    · try simp at h4
      all_goals
        refine W_rseqK [4] (jh hX (by simp [w1, w2, v1, u1, h2, hg, mkV, mks_len]; rfl)) ?_
        refine W_ret (je (by simp [w1, w2, v1, u1, h2, hg, mkV, mks_len]; rfl) ?_)
        simp; omega
    · try simp at h4
      all_goals
        refine W_skip (W_rseqK [0, 1, 5] (jh hX (by simp [w1, w2, v1, u1, h2, hg, mkV, mks_len]; (try (simp (disch := omega) only [wrap_i64]; (try simp [w1, w2, v1, u1, h2, hg, mkV, mks_len]))); rfl)) ?_)
        refine W_seq (W_rseqK [0, 1, 5, 27] (jh hX (by simp [w1, w2, v1, u1, h2, hg, mkV, mks_len]; rfl)) ?_)
        refine jd (fun h7 => ?_) (fun h7 => ?_)
        · try simp at h7
          all_goals
            refine W_rseqK [4] (jh hX (by simp [w1, w2, v1, u1, h2, hg, mkV, mks_len]; rfl)) ?_
            refine W_ret (je (by simp [w1, w2, v1, u1, h2, hg, mkV, mks_len]; rfl) ?_)
            simp; omega
        · try simp at h7
          all_goals
            refine W_skip (W_reg (jh hX (by simp [w1, w2, v1, u1, h2, hg, mkV, mks_len]; (try (simp (disch := omega) only [wrap_i64]; (try simp [w1, w2, v1, u1, h2, hg, mkV, mks_len]))); rfl)) ?_)
            refine W_reg (jh hX (by simp [w1, w2, v1, u1, h2, hg, mkV, mks_len]; (try (simp (disch := omega) only [wrap_i64]; (try simp [w1, w2, v1, u1, h2, hg, mkV, mks_len]))); rfl)) ?_
            refine round_end ((i + 1, q2)) [0, 1, 5] (by simp [w1, w2, v1, u1, h2, hg, mkV]; try (simp (disch := omega) only [wrap_i64])) ?_ ?_
            · exact ⟨by simp only; omega, by simp only; omega⟩
            · simp only; omega
  · try simp at h2
    refine W_exit (W_rseqK [4] (jh hX (by simp [w1, w2, v1, u1, h2, mks_len]; rfl)) ?_)
    refine W_ret (je (by simp [w1, w2, v1, u1, h2, mks_len]; rfl) ?_)
    simp; omega
end Go.Proofs
namespace Go.Proofs
open Go Go.Ev


theorem cb_laws_heldObjS : Callable Tryz.prog 90 := ⟨_, Tryz.func90, by kernel_rfl, by kernel_rfl⟩
theorem ct_laws_heldObjS {l : List HOb} {k : Nat} (hk : k + cntOs l ≤ 1073741824) : Ct Tryz.prog 90 [.lst false 4 ((mkOs k l).map eOb), .int .i64 (k : Nat)] [] (.int .i64 ((k + cntOs l : Nat) : Int)) [] := by
  have hl : l.length ≤ 1073741824 := by have := cntOs_len l; omega
  refine Ct_bodyS tok Tryz.func90 rfl 52 (by kernel_rfl) (by kernel_rfl) fun X hX => ?_
  refine W_rseqK [0, 1] (jh hX (by simp [mkOs_len]; rfl)) ?_
  refine W_seq (W_rseqK [0, 1, 5] (jh hX (by simp [mkOs_len]; rfl)) ?_)
  refine W_block (W_loopU (α := Nat × Nat) [0, 1, 5] (fun p => [(1, .int .i64 (p.2 : Nat)), (5, .int .i64 (p.1 : Nat))]) (fun p => []) (fun p => p.1 ≤ l.length ∧ p.2 = k + cntOs (l.take p.1)) (fun p => l.length - p.1) ((0, k)) (fun p => by simp; rfl) (by simp) ?_ ?_)
  · simp [cntOs]
  rintro ⟨i, q⟩ ⟨hi, hq⟩
  simp only at hi hq
  have hqB : q ≤ 1073741824 := by have := cntOs_take l i; omega
  obtain ⟨q1, e1⟩ : ∃ x, x = q + 1 := ⟨_, rfl⟩
  have w1 : IntKind.i64.wrap ((q : Int) + 1) = (q1 : Int) := by rw [wrap_i64 (by omega) (by omega)]; omega
  obtain ⟨q2, e2⟩ : ∃ x, x = q1 + 1 := ⟨_, rfl⟩
  have w2 : IntKind.i64.wrap ((q1 : Int) + 1) = (q2 : Int) := by rw [wrap_i64 (by omega) (by omega)]; omega
  obtain ⟨q3, e3⟩ : ∃ x, x = q2 + 1 := ⟨_, rfl⟩
  have w3 : IntKind.i64.wrap ((q2 : Int) + 1) = (q3 : Int) := by rw [wrap_i64 (by omega) (by omega)]; omega
  have v1 : (q : Int) + 1 = (q1 : Int) := by omega
  have u1 : q + 1 = q1 := by omega
  have v2 : (q : Int) + 2 = (q2 : Int) := by omega
  have u2 : q + 2 = q2 := by omega
  have v3 : (q : Int) + 3 = (q3 : Int) := by omega
  have u3 : q + 3 = q3 := by omega
  have z2 := mod3 q2
  refine W_seq (W_rseqK [0, 1, 5, 9] (jh hX (by simp [w1, w2, w3, v1, u1, v2, u2, v3, u3, z2, mkOs_len]; rfl)) ?_)
  refine jd (fun h2 => ?_) (fun h2 => ?_)
  · try simp at h2
    have hB := cntOs_at l i h2
    simp only [cntO] at hB
    have hg : ∀ h, (mkOs k l)[i]'h = mkO q l[i] := fun h => by rw [mkOs_get h, hq]
    refine W_skip (W_seq (W_block (W_seq (W_rseqK [0, 1, 5, 18] (jh hX (by simp [w1, w2, w3, v1, u1, v2, u2, v3, u3, z2, h2, hg, mkO, mkOs_len]; rfl)) ?_))))
    refine jd (fun h4 => ?_) (fun h4 => ?_)
    · try simp at h4
      all_goals
        refine W_rseqK [4] (jh hX (by simp [w1, w2, w3, v1, u1, v2, u2, v3, u3, z2, h2, hg, mkO, mkOs_len]; rfl)) ?_
        refine W_ret (je (by simp [w1, w2, w3, v1, u1, v2, u2, v3, u3, z2, h2, hg, mkO, mkOs_len]; rfl) ?_)
        simp; omega
    · try simp at h4
      all_goals
        refine W_skip (W_rseqK [0, 1, 5] (jh hX (by simp [w1, w2, w3, v1, u1, v2, u2, v3, u3, z2, h2, hg, mkO, mkOs_len]; (try (simp (disch := omega) only [wrap_i64]; (try simp [w1, w2, w3, v1, u1, v2, u2, v3, u3, z2, h2, hg, mkO, mkOs_len]))); rfl)) ?_)
        refine W_seq (jD [0, 1, 5, 28] (jS 6 (by simp [w1, w2, w3, v1, u1, v2, u2, v3, u3, z2, h2, hg, mkO, mkOs_len]; rfl) (jC (c:=by apply ct_laws_markText <;> first | omega | assumption) (a:=cb_laws_markText) (k:=(jQ (by simp [w1, w2, w3, v1, u1, v2, u2, v3, u3, z2, h2, hg, mkO, mkOs_len]; rfl))))) ?_)
        refine jd (fun h7 => ?_) (fun h7 => ?_)
        · try simp at h7
          all_goals
            refine W_rseqK [4] (jh hX (by simp [w1, w2, w3, v1, u1, v2, u2, v3, u3, z2, h2, hg, mkO, mkOs_len]; rfl)) ?_
            refine W_ret (je (by simp [w1, w2, w3, v1, u1, v2, u2, v3, u3, z2, h2, hg, mkO, mkOs_len]; rfl) ?_)
            simp; omega
        · try simp at h7
          all_goals
            refine W_skip (W_rseqK [0, 1, 5] (jh hX (by simp [w1, w2, w3, v1, u1, v2, u2, v3, u3, z2, h2, hg, mkO, mkOs_len]; (try (simp (disch := omega) only [wrap_i64]; (try simp [w1, w2, w3, v1, u1, v2, u2, v3, u3, z2, h2, hg, mkO, mkOs_len]))); rfl)) ?_)
            refine W_seq (W_rseqK [0, 1, 5, 39] (jh hX (by simp [w1, w2, w3, v1, u1, v2, u2, v3, u3, z2, h2, hg, mkO, mkOs_len]; rfl)) ?_)
            refine jd (fun h10 => ?_) (fun h10 => ?_)
            · try simp at h10
              all_goals
                refine W_rseqK [4] (jh hX (by simp [w1, w2, w3, v1, u1, v2, u2, v3, u3, z2, h2, hg, mkO, mkOs_len]; rfl)) ?_
                refine W_ret (je (by simp [w1, w2, w3, v1, u1, v2, u2, v3, u3, z2, h2, hg, mkO, mkOs_len]; rfl) ?_)
                simp; omega
            · try simp at h10
              all_goals
                refine W_skip (W_rseqK [0, 1, 5] (jh hX (by simp [w1, w2, w3, v1, u1, v2, u2, v3, u3, z2, h2, hg, mkO, mkOs_len]; (try (simp (disch := omega) only [wrap_i64]; (try simp [w1, w2, w3, v1, u1, v2, u2, v3, u3, z2, h2, hg, mkO, mkOs_len]))); rfl)) ?_)
                refine W_rseqK [0, 1, 5] (js hX 6 (by simp [w1, w2, w3, v1, u1, v2, u2, v3, u3, z2, h2, hg, mkO, mkOs_len]; rfl) (Runs.call [] rfl (by simp) rfl (by simp [mkOs_len]; rfl) (by simp; rfl) (by apply ct_laws_heldValS <;> first | omega | assumption) cb_laws_heldValS (by simp) (by simp) (by simp [mkOs_len]; rfl) (jh hX (by simp [w1, w2, w3, v1, u1, v2, u2, v3, u3, z2, h2, hg, mkO, mkOs_len]; rfl)))) ?_
                refine W_rseqK [0, 1, 5, 50] (jh hX (by simp [w1, w2, w3, v1, u1, v2, u2, v3, u3, z2, h2, hg, mkO, mkOs_len]; rfl)) ?_
                refine jd (fun h14 => ?_) (fun h14 => ?_)
                · try simp at h14
                  all_goals
                    refine W_rseqK [4] (jh hX (by simp [w1, w2, w3, v1, u1, v2, u2, v3, u3, z2, h2, hg, mkO, h14, mkOs_len]; rfl)) ?_
                    refine W_ret (je (by simp [w1, w2, w3, v1, u1, v2, u2, v3, u3, z2, h2, hg, mkO, h14, mkOs_len]; rfl) ?_)
                    simp; omega
                · try simp at h14
                  all_goals
                    refine W_skip (W_reg (jh hX (by simp [w1, w2, w3, v1, u1, v2, u2, v3, u3, z2, h2, hg, mkO, h14, mkOs_len]; (try (simp (disch := omega) only [wrap_i64]; (try simp [w1, w2, w3, v1, u1, v2, u2, v3, u3, z2, h2, hg, mkO, h14, mkOs_len]))); rfl)) ?_)
                    refine round_end ((i + 1, q3 + 2 * l[i].vals.length)) [0, 1, 5] (by simp [w1, w2, w3, v1, u1, v2, u2, v3, u3, z2, h2, hg, mkO, h14]; try (simp (disch := omega) only [wrap_i64])) ?_ ?_
                    · exact ⟨by simp only; omega, by simp only; rw [cntOs_snoc h2]; simp only [cntO]; omega⟩
                    · simp only; omega
  · try simp at h2
    have hil : i = l.length := by omega
    subst hil
    rw [List.take_of_length_le (Nat.le_refl _)] at hq
    refine W_exit (W_rseqK [4] (jh hX (by simp [w1, w2, w3, v1, u1, v2, u2, v3, u3, z2, h2, mkOs_len]; rfl)) ?_)
    refine W_ret (je (by simp [w1, w2, w3, v1, u1, v2, u2, v3, u3, z2, h2, mkOs_len]; rfl) ?_)
    simp; omega
end Go.Proofs
namespace Go.Proofs
open Go Go.Ev


theorem cb_laws_heldHeap : Callable Tryz.prog 49 := ⟨_, Tryz.func49, by kernel_rfl, by kernel_rfl⟩
theorem ct_laws_heldHeap {l : List HOb} {r : Int} {k : Nat} (hk : k + cntOs l ≤ 1073741824) : Ct Tryz.prog 49 [.agg [.lst false 4 ((mkOs k l).map eOb), .int .i64 r], .int .i64 (k : Nat)] [] (.int .i64 ((k + cntOs l : Nat) : Int)) [] := by
  refine Ct_bodyS tok Tryz.func49 rfl 12 (by kernel_rfl) (by kernel_rfl) fun X hX => ?_
  refine jq [1, 2] ?_
  refine W_rseqK [1] (jt 3 (k:=(jc [] (c:=(by apply ct_laws_heldObjS <;> first | assumption | omega)) (a:=cb_laws_heldObjS) (k:=jr)))) ?_
  refine W_seq (jq [1, 10] ?_)
  refine jd (fun h2 => ?_) (fun h2 => ?_)
  · try simp at h2
    refine jq [4] ?_
    refine W_ret (je (by simp [h2]; rfl) ?_)
    (try simp) <;> (try omega)
  · try simp at h2
    refine W_skip (jq [4] ?_)
    refine W_ret (je (by simp [h2]; rfl) ?_)
    (try simp) <;> (try omega)
end Go.Proofs
namespace Go.Proofs
open Go Go.Ev


theorem cb_laws_heldHeapOut : Callable Tryz.prog 20 := ⟨_, Tryz.func20, by kernel_rfl, by kernel_rfl⟩
theorem ct_laws_heldHeapOut {l : List HOb} {r v1 v2 c : Int} {k : Nat} (hk : k + cntOs l ≤ 1073741824) : Ct Tryz.prog 20 [.agg [.lst false 4 ((mkOs k l).map eOb), .int .i64 r, .int .i64 v1, .int .i64 v2, .int .i64 c], .int .i64 (k : Nat)] [] (.int .i64 ((k + cntOs l : Nat) : Int)) [] := by
  refine Ct_bodyS tok Tryz.func20 rfl 12 (by kernel_rfl) (by kernel_rfl) fun X hX => ?_
  refine jq [1, 2] ?_
  refine W_rseqK [1] (jt 3 (k:=(jc [] (c:=(by apply ct_laws_heldHeap <;> first | assumption | omega)) (a:=cb_laws_heldHeap) (k:=jr)))) ?_
  refine W_seq (jq [1, 10] ?_)
  refine jd (fun h2 => ?_) (fun h2 => ?_)
  · try simp at h2
    refine jq [4] ?_
    refine W_ret (je (by simp [h2]; rfl) ?_)
    (try simp) <;> (try omega)
  · try simp at h2
    refine W_skip (jq [4] ?_)
    refine W_ret (je (by simp [h2]; rfl) ?_)
    (try simp) <;> (try omega)
end Go.Proofs
namespace Go.Proofs
open Go Go.Ev


theorem cb_laws_FnExactHeapGet : Callable Tryz.prog 3 := ⟨_, Tryz.func3, by kernel_rfl, by kernel_rfl⟩
theorem ct_laws_FnExactHeapGet {l : List Cls} {p1 : Hep} {n2 : Int} {n3 : Int} (hl : l.length < 4611686018427387904) (bl : ∀ y ∈ l, bigC y) (hp1 : bigHp p1) (hn2 : -9223372036854775808 ≤ n2 ∧ n2 < 9223372036854775808) (hn3 : -9223372036854775808 ≤ n3 ∧ n3 < 9223372036854775808) : Ct Tryz.prog 3 [.lst false 6 (l.map eC), eHp p1, .int .i64 n2, .int .i64 n3] [] (.bool true) [] := by
  refine Ct_bodyS tok Tryz.func3 rfl 102 (by kernel_rfl) (by kernel_rfl) fun X hX => ?_
  refine jq [0, 2, 3, 5] ?_
  refine jq [0, 2, 3, 5, 9] ?_
  refine W_rseqK [0, 2, 3, 5, 9] (jt 2 (k:=(jc [] (c:=(by apply ct_laws_szClassS <;> first | assumption | omega | exact bigHp_of hbH | exact hbg.1 | (simp <;> omega))) (a:=cb_laws_szClassS) (k:=jr)))) ?_
  refine W_seq (jq [0, 2, 3, 5, 9, 22] ?_)
  refine jd (fun h3 => ?_) (fun h3 => ?_)
  · try simp at h3
    refine jq [8] ?_
    refine W_ret (je (by simp [h3]; rfl) ?_)
    first | omega | (simp_all; done) | (simp_all <;> omega)
  · try simp at h3
    have k3 := sub_ok h3
    have hsL : sizeL l ≤ 1048576 := by have := k3.1; unfold sizeL; omega
    refine W_skip (W_rseqK [0, 2, 3, 5, 9] (js hX 2 (by simp [h3]; rfl) (jc [] (c:=(by apply ct_laws_szHeap <;> first | assumption | omega | exact bigHp_of hbH | exact hbg.1 | (simp <;> omega))) (a:=cb_laws_szHeap) (k:=jr))) ?_)
    refine W_seq (jq [0, 2, 3, 5, 27] ?_)
    refine jd (fun h6 => ?_) (fun h6 => ?_)
    · try simp at h6
      refine jq [8] ?_
      refine W_ret (je (by simp [h3, h6]; rfl) ?_)
      first | omega | (simp_all; done) | (simp_all <;> omega)
    · try simp at h6
      have k6 := sub_ok h6
      have hbH : sizeHp p1 ≤ 1048576 := by have := k6.1; omega
      have hc : cntCs l ≤ 7340032 := by have := cntCs_size l; omega
      have hco := cntOs_hp hbH
      have hbg := getW_big (l := l) (a := n2) (p := n3) hbH
      refine W_skip (jK 8 [0, 2, 4, 5] (.two 1 7 (.two 3 7 (.two 6 7 (.one 7 .tail) (.one 6 .tail)) (.one 3 (.one 6 .tail))) (.one 1 (.one 3 (.one 6 .tail)))) [0, 2, 3, 5, 10] ([0]) hX (by simp [h3, h6]; rfl) (.two (jN (p:=fun X hX => (jF (c:=(by apply ct_laws_toClassS <;> first | assumption | omega | exact fun y hy => Nat.le_trans (mem_sum hy) (by omega))) (a:=cb_laws_toClassS) (k:=jf))) (k:=(.two (jN (p:=fun X hX => (jF (c:=(by apply ct_laws_toHeap <;> first | assumption | omega | exact fun y hy => Nat.le_trans (mem_sum hy) (by omega))) (a:=cb_laws_toHeap) (k:=jf))) (k:=(.two (jN (p:=fun X hX => (jF (c:=(by apply ct_spec_HeapGet <;> first | assumption | omega | exact bigHp_of hbH | exact hbg.1 | (simp <;> omega))) (a:=cb_spec_HeapGet) (k:=jf))) (k:=(jN (p:=fun X hX => jr) (k:=.tail)))) (jN (p:=fun X hX => jr) (k:=(jN (p:=fun X hX => (jF (c:=(by apply ct_spec_HeapGet <;> first | assumption | omega | exact bigHp_of hbH | exact hbg.1 | (simp <;> omega))) (a:=cb_spec_HeapGet) (k:=jf))) (k:=.tail))))))) (jN (p:=fun X hX => jr) (k:=(jN (p:=fun X hX => (jF (c:=(by apply ct_laws_toHeap <;> first | assumption | omega | exact fun y hy => Nat.le_trans (mem_sum hy) (by omega))) (a:=cb_laws_toHeap) (k:=jf))) (k:=(jN (p:=fun X hX => (jF (c:=(by apply ct_spec_HeapGet <;> first | assumption | omega | exact bigHp_of hbH | exact hbg.1 | (simp <;> omega))) (a:=cb_spec_HeapGet) (k:=jf))) (k:=.tail))))))))) (jN (p:=fun X hX => jr) (k:=(jN (p:=fun X hX => (jF (c:=(by apply ct_laws_toClassS <;> first | assumption | omega | exact fun y hy => Nat.le_trans (mem_sum hy) (by omega))) (a:=cb_laws_toClassS) (k:=jf))) (k:=(jN (p:=fun X hX => (jF (c:=(by apply ct_laws_toHeap <;> first | assumption | omega | exact fun y hy => Nat.le_trans (mem_sum hy) (by omega))) (a:=cb_laws_toHeap) (k:=jf))) (k:=(jN (p:=fun X hX => (jF (c:=(by apply ct_spec_HeapGet <;> first | assumption | omega | exact bigHp_of hbH | exact hbg.1 | (simp <;> omega))) (a:=cb_spec_HeapGet) (k:=jf))) (k:=.tail))))))))) (jh hX (by simp [h3, h6]; rfl)) ?_)
      refine W_rseqK [0, 2, 3, 5, 10, 11] (jt 1 (k:=(jc [] (c:=(by apply ct_laws_toClassS <;> first | assumption | omega | exact fun y hy => Nat.le_trans (mem_sum hy) (by omega))) (a:=cb_laws_toClassS) (k:=jr)))) ?_
      refine W_rseqK [0, 2, 3, 5, 10, 11, 12] (js hX 1 (by simp [h3, h6]; rfl) (jc [] (c:=(by apply ct_laws_toHeap <;> first | assumption | omega | exact fun y hy => Nat.le_trans (mem_sum hy) (by omega))) (a:=cb_laws_toHeap) (k:=(jh hX (by simp [h3, h6]; rfl))))) ?_
      refine W_rseqK [0, 2, 3, 5, 10, 11, 12, 13] (js hX 4 (by simp [h3, h6]; rfl) (jB (c:=(by apply ct_impl_HeapGet <;> first | assumption | omega | exact bigHp_of hbH | exact hbg.1 | (simp <;> omega))) (a:=cb_impl_HeapGet) (k:=(jh hX (by simp [h3, h6]; rfl))))) ?_
      refine W_seq (W_rseqK [0, 2, 3, 5, 10, 11, 12, 13, 47] (js hX 2 (by simp [h3, h6]; rfl) (jB (c:=(by apply ct_laws_eqHeapOut <;> first | assumption | omega | exact bigHp_of hbH | exact hbg.1 | (simp <;> omega))) (a:=cb_laws_eqHeapOut) (k:=jr))) ?_)
      refine jd (fun h12 => ?_) (fun h12 => ?_)
      · try simp at h12
        all_goals
          refine jq [8] ?_
          refine W_ret (je (by simp [h3, h6]; rfl) ?_)
          first | omega | (simp_all; done) | (simp_all <;> omega)
      · try simp at h12
        all_goals
          refine W_skip (W_seq (W_rseqK [0, 2, 3, 5, 10, 11, 12, 13, 52] (jt 2 (k:=(jF (c:=(by apply ct_laws_toClassS <;> first | assumption | omega | exact fun y hy => Nat.le_trans (mem_sum hy) (by omega))) (a:=cb_laws_toClassS) (k:=(jB (c:=(by apply ct_laws_eqClassS <;> first | assumption | omega | exact bigHp_of hbH | exact hbg.1 | (simp <;> omega))) (a:=cb_laws_eqClassS) (k:=jr)))))) ?_))
          refine jd (fun h14 => ?_) (fun h14 => ?_)
          · try simp at h14
            all_goals
              refine jq [8] ?_
              refine W_ret (je (by simp [h3, h6]; rfl) ?_)
              first | omega | (simp_all; done) | (simp_all <;> omega)
          · try simp at h14
            all_goals
              refine W_skip (W_seq (jL 3 [0, 1] [2] [0, 2, 3, 5, 10, 11, 12, 13, 57] ([0, 4]) hX (by simp [h3, h6]; rfl) (jH (p:=fun X hX => (jF (c:=(by apply ct_laws_toHeap <;> first | assumption | omega | exact fun y hy => Nat.le_trans (mem_sum hy) (by omega))) (a:=cb_laws_toHeap) (k:=jf))) (k:=.nil)) (jB (c:=(by apply ct_laws_eqHeap <;> first | assumption | omega | exact bigHp_of hbH | exact hbg.1 | (simp <;> omega))) (a:=cb_laws_eqHeap) (k:=jr)) ?_))
              refine jd (fun h16 => ?_) (fun h16 => ?_)
              · try simp at h16
                all_goals
                  refine jq [8] ?_
                  refine W_ret (je (by simp [h3, h6]; rfl) ?_)
                  first | omega | (simp_all; done) | (simp_all <;> omega)
              · try simp at h16
                all_goals
                  refine W_skip (jq [0, 2, 3, 5, 10, 11, 12, 13, 14] ?_)
                  refine W_rseqK [0, 2, 3, 5, 10, 12, 13, 14] (jt 2 (k:=(jc [2] (c:=(by (try simp only [mapL_T, mapL_F, mapL_I, mapL_H, mapL_M, mapL_C, mapL_Vl, mapL_Ob]); apply ct_laws_markClassS (k := 1) <;> first | assumption | omega | exact bigHp_of hbH | exact hbg.1 | (simp <;> omega))) (a:=cb_laws_markClassS) (k:=jr)))) ?_
                  refine W_rseqK [0, 2, 3, 5, 10, 13, 14] (js hX 2 (by simp [h3, h6]; rfl) (jc [3] (c:=(by (try simp only [mapL_T, mapL_F, mapL_I, mapL_H, mapL_M, mapL_C, mapL_Vl, mapL_Ob]); apply ct_laws_markHeap (k := 1 + cntCs l) <;> first | assumption | omega | exact bigHp_of hbH | exact hbg.1 | (simp <;> omega))) (a:=cb_laws_markHeap) (k:=jr))) ?_
                  refine W_seq ?_
                  first | (refine W_rseqK [0, 2, 3, 5, 10, 13, 71] (js hX 5 (by simp [h3, h6]; rfl) (jB (c:=(by apply ct_laws_eqHeapOut <;> first | assumption | omega | exact bigHp_of hbH | exact hbg.1 | (simp <;> omega))) (a:=cb_laws_eqHeapOut) (k:=jr))) ?_)
                  refine jd (fun h21 => ?_) (fun h21 => ?_)
                  · try simp at h21
                    all_goals
                      refine jq [8] ?_
                      refine W_ret (je (by simp [h3, h6, h21]; rfl) ?_)
                      first | omega | (simp_all; done) | (simp_all <;> omega)
                  · try simp at h21
                    all_goals
                      refine W_skip (jq [0, 2, 3, 5, 10, 13, 15] ?_)
                      refine W_rseqK [0, 2, 3, 5, 10, 13, 15] (js hX 2 (by simp [h3, h6, h21]; rfl) (jc [5] (c:=(by (try simp only [mapL_T, mapL_F, mapL_I, mapL_H, mapL_M, mapL_C, mapL_Vl, mapL_Ob]); apply ct_laws_markHeapOut (k := 1) <;> first | assumption | omega | exact bigHp_of hbH | exact hbg.1 | (simp <;> omega))) (a:=cb_laws_markHeapOut) (k:=jr))) ?_
                      refine jq [0, 2, 3, 5, 10, 13, 15, 16] ?_
                      refine W_rseqK [0, 2, 3, 5, 10, 13, 15, 16] (js hX 2 (by simp [h3, h6, h21]; rfl) (jB (c:=(by apply ct_laws_heldHeapOut (k := 1) <;> first | assumption | omega | exact bigHp_of hbH | exact hbg.1 | (simp <;> omega))) (a:=cb_laws_heldHeapOut) (k:=jr))) ?_
                      refine W_seq (jq [0, 2, 3, 5, 10, 13, 15, 16, 79] ?_)
                      refine jd (fun h27 => ?_) (fun h27 => ?_)
                      · try simp at h27
                        all_goals
                          refine jq [8] ?_
                          refine W_ret (je (by simp [h3, h6, h21, h27]; rfl) ?_)
                          first | omega | (simp_all; done) | (simp_all <;> omega)
                      · try simp at h27
                        all_goals
                          refine W_skip (W_seq (jq [0, 2, 3, 5, 10, 13, 15, 82] ?_))
                          refine jd (fun h29 => ?_) (fun h29 => ?_)
                          · try simp at h29
                            all_goals
                              refine jq [8] ?_
                              refine W_ret (je (by simp [h3, h6, h21, h27]; rfl) ?_)
                              first | omega | (simp_all; done) | (simp_all <;> omega)
                          · try simp at h29
                            all_goals
                              refine W_skip (jK 8 [0, 2, 4, 5] (.two 1 7 (.two 3 7 (.two 6 7 (.one 7 .tail) (.one 6 .tail)) (.one 3 (.one 6 .tail))) (.one 1 (.one 3 (.one 6 .tail)))) [10, 13, 15, 17] ([0]) hX (by simp [h3, h6, h21, h27]; rfl) (.two (jN (p:=fun X hX => (jF (c:=(by apply ct_laws_toClassS <;> first | assumption | omega | exact fun y hy => Nat.le_trans (mem_sum hy) (by omega))) (a:=cb_laws_toClassS) (k:=jf))) (k:=(.two (jN (p:=fun X hX => (jF (c:=(by apply ct_laws_toHeap <;> first | assumption | omega | exact fun y hy => Nat.le_trans (mem_sum hy) (by omega))) (a:=cb_laws_toHeap) (k:=jf))) (k:=(.two (jN (p:=fun X hX => (jF (c:=(by apply ct_impl_HeapGet <;> first | assumption | omega | exact bigHp_of hbH | exact hbg.1 | (simp <;> omega))) (a:=cb_impl_HeapGet) (k:=jf))) (k:=(jN (p:=fun X hX => jr) (k:=.tail)))) (jN (p:=fun X hX => jr) (k:=(jN (p:=fun X hX => (jF (c:=(by apply ct_impl_HeapGet <;> first | assumption | omega | exact bigHp_of hbH | exact hbg.1 | (simp <;> omega))) (a:=cb_impl_HeapGet) (k:=jf))) (k:=.tail))))))) (jN (p:=fun X hX => jr) (k:=(jN (p:=fun X hX => (jF (c:=(by apply ct_laws_toHeap <;> first | assumption | omega | exact fun y hy => Nat.le_trans (mem_sum hy) (by omega))) (a:=cb_laws_toHeap) (k:=jf))) (k:=(jN (p:=fun X hX => (jF (c:=(by apply ct_impl_HeapGet <;> first | assumption | omega | exact bigHp_of hbH | exact hbg.1 | (simp <;> omega))) (a:=cb_impl_HeapGet) (k:=jf))) (k:=.tail))))))))) (jN (p:=fun X hX => jr) (k:=(jN (p:=fun X hX => (jF (c:=(by apply ct_laws_toClassS <;> first | assumption | omega | exact fun y hy => Nat.le_trans (mem_sum hy) (by omega))) (a:=cb_laws_toClassS) (k:=jf))) (k:=(jN (p:=fun X hX => (jF (c:=(by apply ct_laws_toHeap <;> first | assumption | omega | exact fun y hy => Nat.le_trans (mem_sum hy) (by omega))) (a:=cb_laws_toHeap) (k:=jf))) (k:=(jN (p:=fun X hX => (jF (c:=(by apply ct_impl_HeapGet <;> first | assumption | omega | exact bigHp_of hbH | exact hbg.1 | (simp <;> omega))) (a:=cb_impl_HeapGet) (k:=jf))) (k:=.tail))))))))) (jh hX (by simp [h3, h6, h21, h27]; rfl)) ?_)
                              refine W_seq (W_rseqK [13, 15, 93] (js hX 2 (by simp [h3, h6, h21, h27]; rfl) (jB (c:=(by apply ct_laws_eqHeapOut <;> first | assumption | omega | exact bigHp_of hbH | exact hbg.1 | (simp <;> omega))) (a:=cb_laws_eqHeapOut) (k:=jr))) ?_)
                              refine jd (fun h32 => ?_) (fun h32 => ?_)
                              · try simp at h32
                                all_goals
                                  refine jq [8] ?_
                                  refine W_ret (je (by simp [h3, h6, h21, h27]; rfl) ?_)
                                  first | omega | (simp_all; done) | (simp_all <;> omega)
                              · try simp at h32
                                all_goals
                                  refine W_skip (jq [13, 15, 16] ?_)
                                  refine W_rseqK [15, 16] (js hX 2 (by simp [h3, h6, h21, h27]; rfl) (jB (c:=(by apply ct_laws_heldHeapOut (k := 1) <;> first | assumption | omega | exact bigHp_of hbH | exact hbg.1 | (simp <;> omega))) (a:=cb_laws_heldHeapOut) (k:=jr))) ?_
                                  refine W_seq (jq [15, 16, 98] ?_)
                                  refine jd (fun h36 => ?_) (fun h36 => ?_)
                                  · try simp at h36
                                    all_goals
                                      refine jq [8] ?_
                                      refine W_ret (je (by simp [h3, h6, h21, h27, h36]; rfl) ?_)
                                      first | omega | (simp_all; done) | (simp_all <;> omega)
                                  · try simp at h36
                                    all_goals
                                      refine W_skip (W_seq (jq [101] ?_))
                                      refine jd (fun h38 => ?_) (fun h38 => ?_)
                                      · try simp at h38
                                        all_goals
                                          refine jq [8] ?_
                                          refine W_ret (je (by simp [h3, h6, h21, h27, h36]; rfl) ?_)
                                          first | omega | (simp_all; done) | (simp_all <;> omega)
                                      · try simp at h38
                                        all_goals
                                          refine W_skip (jq [8] ?_)
                                          refine W_ret (je (by simp [h3, h6, h21, h27, h36]; rfl) ?_)
                                          first | omega | (simp_all; done) | (simp_all <;> omega)
end Go.Proofs
namespace Go.Proofs
open Go Go.Ev

abbrev tcF : List Tc := [.str, .str, .bool]
abbrev tcI : List Tc := [.int .i64, .int .i64, .str, .str, .str]
abbrev tcH : List Tc := [.int .i64, .int .i64, .int .i64, .str]
abbrev tcM : List Tc := [.str, .str, .bool, .bool, .bool, .int .i64, .int .i64, .lst false tcI, .lst false tcH]
abbrev tcC : List Tc := [.str, .str, .bool, .bool, .lst false tcF, .lst false tcM]

theorem dec_list {α : Type} {enc : α → V} {Q : α → Prop} : ∀ {xs : List V}, (∀ x ∈ xs, ∃ a, x = enc a ∧ Q a) → ∃ l : List α, xs = l.map enc ∧ ∀ a ∈ l, Q a
  | [], _ => ⟨[], rfl, fun _ h => by cases h⟩
  | x :: xs, h => by
    obtain ⟨a, rfl, ha⟩ := h x (by simp)
    obtain ⟨l, rfl, hl⟩ := dec_list (enc := enc) (Q := Q) (xs := xs) fun y hy => h y (by simp [hy])
    exact ⟨a :: l, rfl, fun b hb => by
      rcases List.mem_cons.1 hb with rfl | hb
      · exact ha
      · exact hl b hb⟩

theorem okL_cons {c : Tc} {cs : List Tc} {vs : List V} (h : okL (c :: cs) vs) : ∃ v ws, vs = v :: ws ∧ okC c v ∧ okL cs ws := by
  cases vs with
  | nil => simp [okL] at h
  | cons v ws => exact ⟨v, ws, rfl, h⟩
theorem okL_nil {vs : List V} (h : okL [] vs) : vs = [] := by
  cases vs with
  | nil => rfl
  | cons v ws => simp [okL] at h
theorem okC_str {v : V} (h : okC .str v) : ∃ l, v = .str l ∧ l.length ≤ 140737488351232 := h
theorem okC_bool {v : V} (h : okC .bool v) : ∃ b, v = .bool b := h
theorem okC_int {v : V} (h : okC (.int .i64) v) : ∃ n, v = .int .i64 n ∧ -9223372036854775808 ≤ n ∧ n < 9223372036854775808 := by
  obtain ⟨n, rfl, hn⟩ := h
  refine ⟨n, rfl, ?_⟩
  simp [Lit.wf, IntKind.min, IntKind.max, IntKind.signed, IntKind.bits] at hn
  omega
theorem okC_lst {α : Type} {enc : α → V} {Q : α → Prop} {cs : List Tc} {v : V} (h : okC (.lst false cs) v) (hd : ∀ vs, okL cs vs → ∃ a, V.agg vs = enc a ∧ Q a) :
    ∃ l : List α, v = .lst false cs.length (l.map enc) ∧ l.length ≤ 140737488351232 ∧ ∀ a ∈ l, Q a := by
  obtain ⟨xs, rfl, hl, hx⟩ := h
  obtain ⟨l, rfl, hq⟩ := dec_list (enc := enc) (Q := Q) (xs := xs) fun x hx' => by
    have := hx x hx'
    simp only [Bool.false_eq_true, if_false] at this
    obtain ⟨vs, rfl, hv⟩ := this
    exact hd vs hv
  exact ⟨l, rfl, by rw [List.length_map] at hl; exact hl, hq⟩

theorem decF {vs : List V} (h : okL tcF vs) : ∃ x : Fld, V.agg vs = eF x ∧ bigF x := by
  obtain ⟨_, _, rfl, h0, h⟩ := okL_cons h
  obtain ⟨_, _, rfl, h1, h⟩ := okL_cons h
  obtain ⟨_, _, rfl, h2, h⟩ := okL_cons h
  obtain rfl := okL_nil h
  obtain ⟨a, rfl, ha⟩ := okC_str h0
  obtain ⟨b, rfl, hb⟩ := okC_str h1
  obtain ⟨c, rfl⟩ := okC_bool h2
  exact ⟨⟨a, b, c⟩, rfl, by simp only [bigF]; omega⟩

theorem decI {vs : List V} (h : okL tcI vs) : ∃ x : Ins, V.agg vs = eI x ∧ bigI x := by
  obtain ⟨_, _, rfl, h0, h⟩ := okL_cons h
  obtain ⟨_, _, rfl, h1, h⟩ := okL_cons h
  obtain ⟨_, _, rfl, h2, h⟩ := okL_cons h
  obtain ⟨_, _, rfl, h3, h⟩ := okL_cons h
  obtain ⟨_, _, rfl, h4, h⟩ := okL_cons h
  obtain rfl := okL_nil h
  obtain ⟨a, rfl, ha⟩ := okC_int h0
  obtain ⟨b, rfl, hb⟩ := okC_int h1
  obtain ⟨c, rfl, hc⟩ := okC_str h2
  obtain ⟨d, rfl, hd⟩ := okC_str h3
  obtain ⟨e, rfl, he⟩ := okC_str h4
  exact ⟨⟨a, b, c, d, e⟩, rfl, by simp only [bigI]; omega⟩

theorem decH {vs : List V} (h : okL tcH vs) : ∃ x : Hdl, V.agg vs = eH x ∧ bigH x := by
  obtain ⟨_, _, rfl, h0, h⟩ := okL_cons h
  obtain ⟨_, _, rfl, h1, h⟩ := okL_cons h
  obtain ⟨_, _, rfl, h2, h⟩ := okL_cons h
  obtain ⟨_, _, rfl, h3, h⟩ := okL_cons h
  obtain rfl := okL_nil h
  obtain ⟨a, rfl, ha⟩ := okC_int h0
  obtain ⟨b, rfl, hb⟩ := okC_int h1
  obtain ⟨c, rfl, hc⟩ := okC_int h2
  obtain ⟨d, rfl, hd⟩ := okC_str h3
  exact ⟨⟨a, b, c, d⟩, rfl, by simp only [bigH]; omega⟩

theorem decM {vs : List V} (h : okL tcM vs) : ∃ x : Mth, V.agg vs = eM x ∧ bigM x := by
  obtain ⟨_, _, rfl, h0, h⟩ := okL_cons h
  obtain ⟨_, _, rfl, h1, h⟩ := okL_cons h
  obtain ⟨_, _, rfl, h2, h⟩ := okL_cons h
  obtain ⟨_, _, rfl, h3, h⟩ := okL_cons h
  obtain ⟨_, _, rfl, h4, h⟩ := okL_cons h
  obtain ⟨_, _, rfl, h5, h⟩ := okL_cons h
  obtain ⟨_, _, rfl, h6, h⟩ := okL_cons h
  obtain ⟨_, _, rfl, h7, h⟩ := okL_cons h
  obtain ⟨_, _, rfl, h8, h⟩ := okL_cons h
  obtain rfl := okL_nil h
  obtain ⟨a, rfl, ha⟩ := okC_str h0
  obtain ⟨b, rfl, hb⟩ := okC_str h1
  obtain ⟨c, rfl⟩ := okC_bool h2
  obtain ⟨d, rfl⟩ := okC_bool h3
  obtain ⟨e, rfl⟩ := okC_bool h4
  obtain ⟨f, rfl, _⟩ := okC_int h5
  obtain ⟨g, rfl, _⟩ := okC_int h6
  obtain ⟨i, rfl, hi, hi2⟩ := okC_lst h7 fun vs => decI
  obtain ⟨j, rfl, hj, hj2⟩ := okC_lst h8 fun vs => decH
  exact ⟨⟨a, b, c, d, e, f, g, i, j⟩, rfl, by simp only [bigM]; exact ⟨by omega, by omega, by omega, hi2, by omega, hj2⟩⟩

theorem decC {vs : List V} (h : okL tcC vs) : ∃ x : Cls, V.agg vs = eC x ∧ bigC x := by
  obtain ⟨_, _, rfl, h0, h⟩ := okL_cons h
  obtain ⟨_, _, rfl, h1, h⟩ := okL_cons h
  obtain ⟨_, _, rfl, h2, h⟩ := okL_cons h
  obtain ⟨_, _, rfl, h3, h⟩ := okL_cons h
  obtain ⟨_, _, rfl, h4, h⟩ := okL_cons h
  obtain ⟨_, _, rfl, h5, h⟩ := okL_cons h
  obtain rfl := okL_nil h
  obtain ⟨a, rfl, ha⟩ := okC_str h0
  obtain ⟨b, rfl, hb⟩ := okC_str h1
  obtain ⟨c, rfl⟩ := okC_bool h2
  obtain ⟨d, rfl⟩ := okC_bool h3
  obtain ⟨i, rfl, hi, hi2⟩ := okC_lst h4 fun vs => decF
  obtain ⟨j, rfl, hj, hj2⟩ := okC_lst h5 fun vs => decM
  exact ⟨⟨a, b, c, d, i, j⟩, rfl, by simp only [bigC]; exact ⟨by omega, by omega, by omega, hi2, by omega, hj2⟩⟩

/-- arguments, one by one -/
theorem okA_cons {x : Bool × List Tc} {r : List (Bool × List Tc)} {vs : List V} (h : okA (x :: r) vs) : ∃ v ws, vs = v :: ws ∧ (if x.1 = true then okL x.2 [v] else ∃ us, v = .agg us ∧ okL x.2 us) ∧ okA r ws := by
  cases vs with
  | nil => simp [okA] at h
  | cons v ws => exact ⟨v, ws, rfl, h⟩
theorem okA_nil {vs : List V} (h : okA [] vs) : vs = [] := by
  cases vs with
  | nil => rfl
  | cons v ws => simp [okA] at h
abbrev aC : Bool × List Tc := (true, [.lst false tcC])
abbrev aS : Bool × List Tc := (true, [.str])
theorem okA_C {r : List (Bool × List Tc)} {vs : List V} (h : okA (aC :: r) vs) : ∃ (l : List Cls) (ws : List V), vs = .lst false 6 (l.map eC) :: ws ∧ l.length < 4611686018427387904 ∧ (∀ y ∈ l, bigC y) ∧ okA r ws := by
  obtain ⟨v, ws, rfl, h1, h2⟩ := okA_cons h
  simp only [if_true] at h1
  obtain ⟨l, rfl, hl, hq⟩ := okC_lst h1.1 fun vs => decC
  exact ⟨l, ws, rfl, by omega, hq, h2⟩
theorem okA_S {r : List (Bool × List Tc)} {vs : List V} (h : okA (aS :: r) vs) : ∃ (l : Str) (ws : List V), vs = .str l :: ws ∧ l.length < 4611686018427387904 ∧ okA r ws := by
  obtain ⟨v, ws, rfl, h1, h2⟩ := okA_cons h
  simp only [if_true] at h1
  obtain ⟨l, rfl, hl⟩ := okC_str h1.1
  exact ⟨l, ws, rfl, by omega, h2⟩
end Go.Proofs
namespace Go.Proofs
open Go Go.Ev
abbrev tcT : List Tc := [.int .i64, .str, .int .i64]
theorem decT {vs : List V} (h : okL tcT vs) : ∃ x : Typ, V.agg vs = eT x ∧ bigT x := by
  obtain ⟨_, _, rfl, h0, h⟩ := okL_cons h
  obtain ⟨_, _, rfl, h1, h⟩ := okL_cons h
  obtain ⟨_, _, rfl, h2, h⟩ := okL_cons h
  obtain rfl := okL_nil h
  obtain ⟨a, rfl, _⟩ := okC_int h0
  obtain ⟨b, rfl, hb⟩ := okC_str h1
  obtain ⟨c, rfl, _⟩ := okC_int h2
  exact ⟨⟨a, b, c⟩, rfl, by simp only [bigT]; omega⟩
abbrev aT : Bool × List Tc := (false, tcT)
theorem okA_T {r : List (Bool × List Tc)} {vs : List V} (h : okA (aT :: r) vs) : ∃ (t : Typ) (ws : List V), vs = eT t :: ws ∧ bigT t ∧ okA r ws := by
  obtain ⟨v, ws, rfl, h1, h2⟩ := okA_cons h
  simp only [Bool.false_eq_true, if_false] at h1
  obtain ⟨us, rfl, h1⟩ := h1
  obtain ⟨t, e, hb⟩ := decT h1
  exact ⟨t, ws, by rw [e], hb, h2⟩
end Go.Proofs
namespace Go.Proofs
open Go Go.Ev
abbrev tcFr : List Tc := [.lst false tcT, .lst false tcT]
theorem decFr {vs : List V} (h : okL tcFr vs) : ∃ x : Frm, V.agg vs = eFr x ∧ bigFr x := by
  obtain ⟨_, _, rfl, h0, h⟩ := okL_cons h
  obtain ⟨_, _, rfl, h1, h⟩ := okL_cons h
  obtain rfl := okL_nil h
  obtain ⟨i, rfl, hi, hi2⟩ := okC_lst h0 fun vs => decT
  obtain ⟨j, rfl, hj, hj2⟩ := okC_lst h1 fun vs => decT
  exact ⟨⟨i, j⟩, rfl, by simp only [bigFr]; exact ⟨by omega, hi2, by omega, hj2⟩⟩
abbrev aF : Bool × List Tc := (false, tcFr)
theorem okA_F {r : List (Bool × List Tc)} {vs : List V} (h : okA (aF :: r) vs) : ∃ (t : Frm) (ws : List V), vs = eFr t :: ws ∧ bigFr t ∧ okA r ws := by
  obtain ⟨v, ws, rfl, h1, h2⟩ := okA_cons h
  simp only [Bool.false_eq_true, if_false] at h1
  obtain ⟨us, rfl, h1⟩ := h1
  obtain ⟨t, e, hb⟩ := decFr h1
  exact ⟨t, ws, by rw [e], hb, h2⟩
abbrev aI : Bool × List Tc := (true, [.int .i64])
theorem okA_I {r : List (Bool × List Tc)} {vs : List V} (h : okA (aI :: r) vs) : ∃ (n : Int) (ws : List V), vs = .int .i64 n :: ws ∧ (-9223372036854775808 ≤ n ∧ n < 9223372036854775808) ∧ okA r ws := by
  obtain ⟨v, ws, rfl, h1, h2⟩ := okA_cons h
  simp only [if_true] at h1
  obtain ⟨n, rfl, hn⟩ := okC_int h1.1
  exact ⟨n, ws, rfl, hn, h2⟩
end Go.Proofs
namespace Go.Proofs
open Go Go.Ev
abbrev tcVl : List Tc := [.int .i64, .int .i64]
abbrev tcOb : List Tc := [.int .i64, .str, .bool, .lst false tcVl]
abbrev tcHp : List Tc := [.lst false tcOb, .int .i64]
theorem decVl {vs : List V} (h : okL tcVl vs) : ∃ x : Vl, V.agg vs = eVl x ∧ True := by
  obtain ⟨_, _, rfl, h0, h⟩ := okL_cons h
  obtain ⟨_, _, rfl, h1, h⟩ := okL_cons h
  obtain rfl := okL_nil h
  obtain ⟨a, rfl, _⟩ := okC_int h0
  obtain ⟨b, rfl, _⟩ := okC_int h1
  exact ⟨⟨a, b⟩, rfl, trivial⟩
theorem decOb {vs : List V} (h : okL tcOb vs) : ∃ x : HOb, V.agg vs = eOb x ∧ bigOb x := by
  obtain ⟨_, _, rfl, h0, h⟩ := okL_cons h
  obtain ⟨_, _, rfl, h1, h⟩ := okL_cons h
  obtain ⟨_, _, rfl, h2, h⟩ := okL_cons h
  obtain ⟨_, _, rfl, h3, h⟩ := okL_cons h
  obtain rfl := okL_nil h
  obtain ⟨a, rfl, _⟩ := okC_int h0
  obtain ⟨b, rfl, hb⟩ := okC_str h1
  obtain ⟨c, rfl⟩ := okC_bool h2
  obtain ⟨i, rfl, hi, _⟩ := okC_lst h3 fun vs => decVl
  exact ⟨⟨a, b, c, i⟩, rfl, by simp only [bigOb]; omega⟩
theorem decHp {vs : List V} (h : okL tcHp vs) : ∃ x : Hep, V.agg vs = eHp x ∧ bigHp x := by
  obtain ⟨_, _, rfl, h0, h⟩ := okL_cons h
  obtain ⟨_, _, rfl, h1, h⟩ := okL_cons h
  obtain rfl := okL_nil h
  obtain ⟨i, rfl, hi, hi2⟩ := okC_lst h0 fun vs => decOb
  obtain ⟨b, rfl, _⟩ := okC_int h1
  exact ⟨⟨i, b⟩, rfl, by simp only [bigHp]; exact ⟨by omega, hi2⟩⟩
abbrev aH : Bool × List Tc := (false, tcHp)
theorem okA_H {r : List (Bool × List Tc)} {vs : List V} (h : okA (aH :: r) vs) : ∃ (t : Hep) (ws : List V), vs = eHp t :: ws ∧ bigHp t ∧ okA r ws := by
  obtain ⟨v, ws, rfl, h1, h2⟩ := okA_cons h
  simp only [Bool.false_eq_true, if_false] at h1
  obtain ⟨us, rfl, h1⟩ := h1
  obtain ⟨t, e, hb⟩ := decHp h1
  exact ⟨t, ws, by rw [e], hb, h2⟩
abbrev aV : Bool × List Tc := (false, tcVl)
theorem okA_V {r : List (Bool × List Tc)} {vs : List V} (h : okA (aV :: r) vs) : ∃ (t : Vl) (ws : List V), vs = eVl t :: ws ∧ okA r ws := by
  obtain ⟨v, ws, rfl, h1, h2⟩ := okA_cons h
  simp only [Bool.false_eq_true, if_false] at h1
  obtain ⟨us, rfl, h1⟩ := h1
  obtain ⟨t, e, _⟩ := decVl h1
  exact ⟨t, ws, by rw [e], h2⟩
end Go.Proofs
namespace Go.Proofs.YtebbhmbngfpkaaaGreat
open Go Go.Ev Go.Proofs Go.RowKit Go.ChangeShapes Go.WideShapes
theorem s_k1 : ownKnob Tryz.checked.prog.godebug = none := by kernel_rfl
theorem s_h2 : laidOutB Tryz.checked.prog = true := by kernel_rfl
theorem s_h3 : mapsRowed Tryz.checked.prog = true := by kernel_rfl
theorem s_h6 : ((Rows.fnExactHeapMakeRow.stops == []) && (Tryz.checked.prog.stops == []) && (Rows.fnExactHeapMakeRow.knobs == []) && (Tryz.checked.prog.stopKnobs == [])) = true := by kernel_rfl
theorem s_h20 : (Rows.fnExactHeapMakeRow.plainKeys == Tryz.checked.prog.plainKeys) = true := by kernel_rfl
theorem s_h21 : (Rows.fnExactHeapMakeRow.shortTexts.isNone && Tryz.checked.prog.stopsHeard) = true := by kernel_rfl
theorem s_h21b : Tryz.checked.prog.mayEnter = true := by kernel_rfl
theorem s_h22 : (Rows.fnExactHeapMakeRow.lifted == Tryz.checked.prog.liftsFinal) = true := by kernel_rfl
theorem s_h23 : (Tryz.checked.prog.make == some Rows.fnExactHeapMakeRow.make) = true := by kernel_rfl
end Go.Proofs.YtebbhmbngfpkaaaGreat
namespace Go.Proofs
open Go Go.Ev
attribute [simp] St.swap gSw swp
section
variable {X : Ctx} {ops : Array Oper} {l rest : List Oper} {ls : List Oper} {st s0 s1 s2 s3 : St} {o : Oper} {n0 : Nat} {Q : Exit → St → Prop}
theorem jNs {i : Nat} {L : List Nat} {t : Tr} {s s' : St} (ho : ops[i]? = some o := by rfl) (hL : ∀ id ∈ L, id < s.ob.length := by simp) (p : ∀ X : Ctx, X.n0 = s.ob.length → Runs Tryz.prog X ops [o] ⟨s.tm, hid L s.ob⟩ s') (he : (⟨s'.tm, unh s.ob L s'.ob⟩ : St) = s1 := by (try simp); (try rfl)) (k : StepsW Tryz.prog ops n0 L t s1 s2) : StepsW Tryz.prog ops n0 L (.one i t) s s2 := .one ho hL p he k
theorem jKs {id : Nat} {y : Code} (n : Nat) (A : List Nat) (t : Tr) (ks L : List Nat) (hX : X.n0 = n0) (hA : runTk TT n0 ls.toArray L A st = some s1) (hH : StepsW Tryz.prog ls.toArray n0 L t s1 s2) (h2 : Runs Tryz.prog X ls.toArray (ls.drop n) s2 s3) (hk : W Tryz.prog X y (s3.keep ks) Q)
    (hB : treeB .any ls.toArray n A t = true := by kernel_rfl) : W Tryz.prog X (.seq (.region id ls.toArray true) y) st Q := W_tseqS n A t ks L hmo hB tok hX hA hH h2 hk
theorem jW {L : List Nat} {t : Tr} {s : St} (a b : Nat) (k : StepsW Tryz.prog ops n0 L t s1 s2) (he : s.swap a b = s1) (hb : n0 ≤ a ∧ n0 ≤ b ∧ a < s.ob.length ∧ b < s.ob.length := by simp) (hl : a ∉ L ∧ b ∉ L := by decide) : StepsW Tryz.prog ops n0 L t s s2 := .sw hb hl he k
end
end Go.Proofs
namespace Go.Proofs
open Go Go.Ev


theorem cb_spec_l05Super : Callable Tryz.prog 189 := ⟨_, Tryz.func189, by kernel_rfl, by kernel_rfl⟩
theorem ct_spec_l05Super {l : List Cls} {n : Str} (hl : l.length ≤ 1099511627776) : Ct Tryz.prog 189 [.lst false 6 (l.map eC), .str n] [] (.str (superOf l n)) [] := by
  refine Ct_bodyS tok Tryz.func189 rfl 24 (by kernel_rfl) (by kernel_rfl) fun X hX => ?_
  refine jq [0, 1] ?_
  refine W_rseqK [0, 1, 5] (jt 1 (k:=(jc [] (c:=(by apply ct_spec_l05Built <;> first | assumption | omega | (simp at *; omega) | simp_all)) (a:=cb_spec_l05Built) (k:=jr)))) ?_
  refine W_seq (jq [0, 1, 5, 9] ?_)
  refine jd (fun h2 => ?_) (fun h2 => ?_)
  · try simp at h2
    refine jq [4] ?_
    refine W_ret (je0 ?_)
    simp only [superOf, sObject, sError]
    (try simp_all) <;> grind
  · try simp at h2
    refine W_skip (W_seq (jq [0, 1, 5, 11] ?_))
    refine jd (fun h4 => ?_) (fun h4 => ?_)
    · try simp at h4
      refine jq [4] ?_
      refine W_ret (je0 ?_)
      simp only [superOf, sObject, sError]
      (try simp_all) <;> grind
    · try simp at h4
      refine W_skip (W_seq (jq [0, 1, 13] ?_))
      refine jd (fun h6 => ?_) (fun h6 => ?_)
      · try simp at h6
        refine jq [4] ?_
        refine W_ret (je (by simp [h6]; rfl) ?_)
        simp only [superOf, sObject, sError]
        (try simp_all) <;> grind
      · try simp at h6
        refine W_skip (W_rseqK [0, 5] (jt 2 (k:=(jc [] (c:=(by apply ct_spec_l05Find <;> first | assumption | omega | (simp at *; omega) | simp_all)) (a:=cb_spec_l05Find) (k:=jr)))) ?_)
        refine W_seq (jq [0, 5, 18] ?_)
        refine jd (fun h9 => ?_) (fun h9 => ?_)
        · try simp at h9
          refine jq [4] ?_
          refine W_ret (je (by simp [h6, h9]; rfl) ?_)
          simp only [superOf, sObject, sError]
          (try simp_all) <;> grind
        · try simp at h9
          have h9b := findFrom_lt (n := n) (l := l) (by omega)
          have h9c : 0 ≤ findFrom n l 0 := by omega
          refine W_skip (W_rseqK [4] (jh hX (by simp [h6, h9, h9b, h9c]; rfl)) ?_)
          refine W_ret (je (by simp [h6, h9, h9b, h9c]; rfl) ?_)
          simp only [superOf, sObject, sError]
          (try simp_all) <;> grind
end Go.Proofs
namespace Go.Proofs
open Go Go.Ev


theorem cb_spec_l05Sub : Callable Tryz.prog 146 := ⟨_, Tryz.func146, by kernel_rfl, by kernel_rfl⟩
theorem ct_spec_l05Sub {l : List Cls} {a b : Str} (hl : l.length ≤ 1099511627776) (hw : rightW l = true) : Ct Tryz.prog 146 [.lst false 6 (l.map eC), .str a, .str b] [] (.bool (subS l a b)) [] := by
  refine Ct_bodyS tok Tryz.func146 rfl 15 (by kernel_rfl) (by kernel_rfl) fun X hX => ?_
  refine jq [0, 1, 2] ?_
  refine W_seq (W_block (W_loopU (α := Str) [0, 1, 2] (fun x => [(1, .str x)]) (fun x => []) (fun x => subS l x b = subS l a b) (fun x => (chS l x).length) (a) (fun x => by simp; rfl) (by simp) ?_ ?_))
  · rfl
  rintro x hI
  refine W_seq (jq [0, 1, 2, 8] ?_)
  refine jd (fun h1 => ?_) (fun h1 => ?_)
  · try simp at h1
    rw [subS_go hw h1] at hI
    refine W_skip (W_block (W_seq (jq [0, 1, 2, 11] ?_)))
    refine jd (fun h2 => ?_) (fun h2 => ?_)
    · try simp at h2
      refine jq [6] ?_
      refine W_ret (je0 ?_)
      rw [← hI, h2]; simp
    · try simp at h2
      rw [decide_eq_false (fun e => h2 e.symm), Bool.false_or] at hI
      refine W_skip (W_reg (jt 2 (k:=(jc [] (c:=(by apply ct_spec_l05Super <;> first | assumption | omega | (simp at *; omega) | simp_all)) (a:=cb_spec_l05Super) (k:=jr)))) ?_)
      refine round_end (superOf l x) [0, 1, 2] (by simp; try (simp (disch := omega) only [wrap_i64])) ?_ ?_
      · exact hI
      · rw [chS_go hw h1]; simp
  · try simp at h1
    refine W_exit (jq [6] ?_)
    refine W_ret (je0 ?_)
    rw [← hI, h1, subS_nil hw]
end Go.Proofs
