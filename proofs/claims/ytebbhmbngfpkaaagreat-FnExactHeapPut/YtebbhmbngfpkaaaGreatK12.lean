/- Part 13 of what the proofs lean on: what the functions of the program and of the reference compute. Conditions: none. -/
import Derived.Test.YtebbhmbngfpkaaaGreatK11
set_option linter.all false
set_option linter.unusedVariables false
set_option linter.unusedSimpArgs false
set_option maxHeartbeats 2000000
set_option maxRecDepth 100000
namespace Go.Proofs
open Go Go.Ev


theorem cb_spec_l10Is : Callable Tryz.prog 106 := ⟨_, Tryz.func106, by kernel_rfl, by kernel_rfl⟩
theorem ct_spec_l10Is {l : List Cls} (hs : sizeL l ≤ 1048576) (hw : rightW l = true) {h : Hep} (ho : sizeHp h ≤ 1048576) {n : Int} (hn : hasR h n = true) {c : Str} : Ct Tryz.prog 106 [.lst false 6 (l.map eC), eHp h, .int .i64 n, .str c] [] (.bool (heapIsS l h n c)) [] := by
  have hll : h.objs.length ≤ 1048576 := by unfold sizeHp at ho; omega
  have hl3 : l.length ≤ 1099511627776 := by unfold sizeL at hs; omega
  simp only [hasR, decide_eq_true_eq] at hn
  obtain ⟨j, rfl⟩ : ∃ j : Nat, n = (j : Int) + 1 := ⟨(n - 1).toNat, by omega⟩
  have hj : j < h.objs.length := by omega
  have hwr : IntKind.i64.wrap (j : Int) = j := wrap_i64 (by omega) (by omega)
  have hjn : ((j : Int) + 1 - 1).toNat = j := by omega
  refine Ct_bodyS tok Tryz.func106 rfl 26 (by kernel_rfl) (by kernel_rfl) fun X hX => ?_
  refine jq [0, 2, 3, 5] ?_
  refine W_rseqK [0, 3, 9] (jh hX (by simp [hj, hwr]; (try (simp (disch := omega) only [wrap_i64]; (try simp [hj, hwr]))); rfl)) ?_
  refine W_seq (W_rseqK [0, 3, 9, 18] (jh hX (by simp [hj, hwr]; rfl)) ?_)
  refine jd (fun h2 => ?_) (fun h2 => ?_)
  · try simp at h2
    refine jq [8] ?_
    refine W_ret (je (by simp [hj, hwr]; rfl) ?_)
    rw [heapIsS, hjn, atL_lt hj, if_neg h2]; rfl
  · try simp at h2
    refine W_skip (W_rseqK [8] (js hX 4 (by simp [hj, hwr]; rfl) (jc [] (c:=(by apply ct_spec_l05Sub <;> first | assumption | omega)) (a:=cb_spec_l05Sub) (k:=jr))) ?_)
    refine W_ret (je (by simp [hj, hwr]; rfl) ?_)
    rw [heapIsS, hjn, atL_lt hj, if_pos h2]
end Go.Proofs
namespace Go.Proofs
open Go Go.Ev


theorem cb_spec_l10May : Callable Tryz.prog 63 := ⟨_, Tryz.func63, by kernel_rfl, by kernel_rfl⟩
theorem ct_spec_l10May {l : List Cls} (hs : sizeL l ≤ 1048576) (hw : rightW l = true) {h : Hep} (ho : sizeHp h ≤ 1048576) {o : HOb} {v : Vl} (hv : valR h.objs.length v = true) : Ct Tryz.prog 63 [.lst false 6 (l.map eC), eHp h, eOb o, eVl v] [] (.bool (mayS l h o v)) [] := by
  refine Ct_bodyS tok Tryz.func63 rfl 35 (by kernel_rfl) (by kernel_rfl) fun X hX => ?_
  refine jq [0, 5, 6, 7] ?_
  refine W_seq (jq [0, 5, 6, 7, 10] ?_)
  refine W_block (jq [0, 5, 6, 7, 10, 11] ?_)
  refine jd (fun h2 => ?_) (fun h2 => ?_)
  · try simp at h2
    refine jq [8] ?_
    refine W_ret (je0 ?_)
    unfold mayS; simp_all
  · try simp at h2
    refine jq [0, 5, 6, 7, 16] ?_
    refine jd (fun h4 => ?_) (fun h4 => ?_)
    · try simp at h4
      refine W_rseqK [8] (jt 4 (k:=(jm 13 21 [34] (p:=fun b5_4 => by (try simp at b5_4); exact (jh hX (by simp [-atD_lt, -atL_lt]; rfl))) (q:=fun b5_4 => by (try simp at b5_4); exact (js hX 4 (by simp [-atD_lt, -atL_lt]; rfl) (jm 8 25 [21, 33] (p:=fun b5_8 => by (try simp at b5_8); exact (js hX 6 (by simp [-atD_lt, -atL_lt]; rfl) (Runs.callB rfl (by simp) rfl (by simp [-atD_lt, -atL_lt]; rfl) (by apply ct_spec_l10Is <;> first | assumption | omega | (rw [valR, if_neg (by omega), if_neg (by omega), if_pos (by assumption)] at hv; exact hv)) cb_spec_l10Is (by simp) (by simp [-atD_lt, -atL_lt]; rfl) (jh hX (by simp [-atD_lt, -atL_lt]; rfl))))) (q:=fun b5_8 => by (try simp at b5_8); exact (jh hX (by simp [-atD_lt, -atL_lt]; rfl))) (k:=(jh hX (by simp [-atD_lt, -atL_lt]; rfl)))))) (k:=jr)))) ?_
      refine W_ret (je0 ?_)
      unfold mayS; simp_all
    · try simp at h4
      refine W_skip (jq [8] ?_)
      refine W_ret (je0 ?_)
      unfold mayS; simp_all
end Go.Proofs
namespace Go.Proofs
open Go Go.Ev


theorem cb_spec_HeapPut : Callable Tryz.prog 25 := ⟨_, Tryz.func25, by kernel_rfl, by kernel_rfl⟩
theorem ct_spec_HeapPut {l : List Cls} (hs : sizeL l ≤ 1048576) {h : Hep} (ho : sizeHp h ≤ 1048576) {a p : Int} {v : Vl} : Ct Tryz.prog 25 [.lst false 6 (l.map eC), eHp h, .int .i64 a, .int .i64 p, eVl v] [] (oHo (putW l h a p v)) [] := by
  have hl2 : sizeL l ≤ 1099511627776 := by omega
  have hll : l.length ≤ 1099511627776 := by unfold sizeL at hs; omega
  refine Ct_bodyS tok Tryz.func25 rfl 61 (by kernel_rfl) (by kernel_rfl) fun X hX => ?_
  refine jq [0, 2, 3, 6, 9, 10] ?_
  refine W_seq (jq [0, 2, 3, 6, 9, 10, 14] ?_)
  refine jd (fun h1 => ?_) (fun h1 => ?_)
  · try simp at h1
    refine W_rseqK [10] (jh hX (by simp [h1]; rfl)) ?_
    refine W_ret (W_retR (by simp [h1]; rfl) ?_ rfl)
    rw [putW, if_pos (by omega)]; exact zHo_wk _
  · try simp at h1
    refine W_skip (W_seq (W_rseqK [0, 2, 3, 6, 9, 10, 19] (js hX 2 (by simp [h1]; rfl) (jc [] (c:=(by apply ct_spec_HeapRight <;> first | assumption | omega | exact hR1)) (a:=cb_spec_HeapRight) (k:=(jh hX (by simp [h1]; rfl))))) ?_))
    refine jd (fun h3 => ?_) (fun h3 => ?_)
    · try simp at h3
      refine W_rseqK [10] (jh hX (by simp [h1]; rfl)) ?_
      refine W_ret (W_retR (by simp [h1]; rfl) ?_ rfl)
      rw [putW, if_neg (by omega), if_neg (by simpa using h3)]; exact zHo_wk _
    · try simp at h3
      refine W_skip (W_seq (W_rseqK [0, 2, 3, 6, 9, 10, 25] (js hX 3 (by simp [h1]; rfl) (jc [] (c:=(by apply ct_spec_l10Place <;> first | assumption | omega | exact hR1)) (a:=cb_spec_l10Place) (k:=(jh hX (by simp [h1]; rfl))))) ?_))
      refine jd (fun h5 => ?_) (fun h5 => ?_)
      · try simp at h5
        refine W_rseqK [10] (jh hX (by simp [h1]; rfl)) ?_
        refine W_ret (W_retR (by simp [h1]; rfl) ?_ rfl)
        rw [putW, if_neg (by omega), if_pos (by simpa using h3), if_neg (by simpa using h5)]; exact zHo_wk _
      · try simp at h5
        have h3b : hpRightW l h = true := by simpa using h3
        obtain ⟨hR1, hR2⟩ := right_world h3b
        have hG : putW l h a p v = if (valR h.objs.length v && mayI l h (atL h.objs (a - 1).toNat) v) = true then ⟨putAt h (a - 1).toNat p.toNat v, ⟨0, 0⟩, 0⟩ else zHo 10 := by rw [putW, if_neg (by omega), if_pos h3b, if_pos (by simpa using h5)]
        rw [hG]
        obtain ⟨j, q, hj, rfl, rfl, hq⟩ := placeR_iff (by simpa using h5)
        have hjn : ((j : Int) + 1 - 1).toNat = j := by omega
        rw [hjn, atL_lt hj, Int.toNat_natCast]
        obtain ⟨hw, hw2, hh⟩ := place_at ho hj
        have hm := @may_eq l h h.objs[j] v hR1 hR2
        refine W_skip (W_seq (jD [2, 3, 6, 9, 10, 45] (jS 4 (by simp [h1, hj, hq, hw]; rfl) (jC (c:=by apply ct_spec_l10Val <;> first | assumption | omega | exact hR1) (a:=cb_spec_l10Val) (k:=(jS 2 (by simp [h1, hj, hq, hw]; rfl) (jM 12 33 [2, 3, 6, 9, 10, 45] (p:=fun b7_7 => by (try simp at b7_7); exact (jQ (by simp [-atD_lt, -atL_lt, h1, hj, hq, hw]; rfl))) (q:=fun b7_7 => by (try simp at b7_7); exact (jS 9 (by simp [-atD_lt, -atL_lt, h1, hj, hq, hw]; (try (simp (disch := omega) only [wrap_i64]; (try simp [-atD_lt, -atL_lt, h1, hj, hq, hw]))); rfl) (jC (c:=by apply ct_spec_l10May <;> first | assumption | omega | exact hR1) (a:=cb_spec_l10May) (k:=(jQ (by simp [-atD_lt, -atL_lt, h1, hj, hq, hw]; rfl)))))) (k:=(RunsQ.fin (by (try simp); rfl)))))))) ?_))
        refine jd (fun h7 => ?_) (fun h7 => ?_)
        · try simp at h7
          refine W_rseqK [10] (jh hX (by simp [h1, hj, hq, hw]; rfl)) ?_
          refine W_ret (W_retR (by simp [h1, hj, hq, hw]; rfl) ?_ rfl)
          simp only [atL_lt hj] at h7
          rw [if_neg (by intro e9; rw [Bool.and_eq_true] at e9; rcases h7 with h7 | h7; (rw [h7] at e9; cases e9.1); (rw [← hm e9.1, h7] at e9; cases e9.2))]; exact zHo_wk _
        · try simp at h7
          simp only [atL_lt hj] at h7
          have h7b : (valR h.objs.length v && mayI l h h.objs[j] v) = true := by rw [← hm h7.1, h7.1, h7.2]; rfl
          rw [if_pos h7b]
          refine W_skip (W_rseqK [2, 3, 9, 10, 11] (js hX 1 (by simp [h1, hj, hq, hw]; rfl) (jc [] (c:=(by apply ct_spec_l10Copy <;> first | assumption | omega | exact hR1)) (a:=cb_spec_l10Copy) (k:=(jh hX (by simp [h1, hj, hq, hw]; rfl))))) ?_)
          obtain ⟨Y, Z, hS, hS2, hYl, hN, hY1, hZ1, hY3, hZ3, hYj, hZj, hYp, hZp, Y', Z', hYb, hZb, hfold⟩ := obs_YZ hj
          have m1 := fun x => midG hYl x Z
          have m2 := fun x y => midS hYl x y Z
          have hT : ∀ x, (Y ++ x :: Z).take h.objs.length = Y ++ x :: Z := fun x => List.take_of_length_le (by simp [hYl]; omega)
          rw [hS]
          refine W_le (Le.expose 3 j 3 (by simp [St.expose, m1, m2, hYl]; rfl)) ?_
          refine jV 9 (.pur 0 (.pur 2 (.pur 3 (.pur 7 (.two 1 8 (.pur 4 (.pur 5 (.two 6 8 (.one 8 .tail) (.one 6 .tail)))) (.one 1 (.pur 4 (.pur 5 (.one 6 .tail))))))))) [10, 11] hX (jVp (by simp [h1, hj, hq, hw, m1, hYl, hN, hT, hYj, hZj, hYp, hZp, hq, hw, hj]; rfl) (jVp (by simp [h1, hj, hq, hw, m1, hYl, hN, hT, hYj, hZj, hYp, hZp, hq, hw, hj]; rfl) (jVp (by simp [h1, hj, hq, hw, m1, hYl, hN, hT, hYj, hZj, hYp, hZp, hq, hw, hj]; rfl) (jVp (by simp [h1, hj, hq, hw, m1, hYl, hN, hT, hYj, hZj, hYp, hZp, hq, hw, hj]; rfl) (jVt (jVo (p:=fun X hX => (jh hX (by simp [h1, hj, hq, hw, m1, hYl, hN, hT, hYj, hZj, hYp, hZp, hq, hw, hj]; rfl))) (k:=(jVp (by simp [h1, hj, hq, hw, m1, hYl, hN, hT, hYj, hZj, hYp, hZp, hq, hw, hj]; rfl) (jVp (by simp [h1, hj, hq, hw, m1, hYl, hN, hT, hYj, hZj, hYp, hZp, hq, hw, hj]; rfl) (jVt (jVo (p:=fun X hX => (jh hX (by simp [h1, hj, hq, hw, m1, hYl, hN, hT, hYj, hZj, hYp, hZp, hq, hw, hj]; rfl))) (k:=(jVo (p:=fun X hX => (jh hX (by simp [h1, hj, hq, hw, m1, hYl, hN, hT, hYj, hZj, hYp, hZp, hq, hw, hj]; rfl))) (k:=.tail)))) (jVo (p:=fun X hX => (jh hX (by simp [h1, hj, hq, hw, m1, hYl, hN, hT, hYj, hZj, hYp, hZp, hq, hw, hj]; try rfl))) (k:=(jVo (p:=fun X hX => (jh hX (by simp [h1, hj, hq, hw, m1, hYl, hN, hT, hYj, hZj, hYp, hZp, hq, hw, hj]; try rfl))) (k:=.tail))))))))) (jVo (p:=fun X hX => (jh hX (by simp [h1, hj, hq, hw, m1, hYl, hN, hT, hYj, hZj, hYp, hZp, hq, hw, hj]; try rfl))) (k:=(jVo (p:=fun X hX => (jh hX (by simp [h1, hj, hq, hw, m1, hYl, hN, hT, hYj, hZj, hYp, hZp, hq, hw, hj]; try rfl))) (k:=(jVp (by simp [h1, hj, hq, hw, m1, hYl, hN, hT, hYj, hZj, hYp, hZp, hq, hw, hj]; try rfl) (jVp (by simp [h1, hj, hq, hw, m1, hYl, hN, hT, hYj, hZj, hYp, hZp, hq, hw, hj]; try rfl) (jVo (p:=fun X hX => (jh hX (by simp [h1, hj, hq, hw, m1, hYl, hN, hT, hYj, hZj, hYp, hZp, hq, hw, hj]; try rfl))) (k:=.tail))))))))))))) (jh hX (by simp [h1, hj, hq, hw, m1, hYl, hN, hT, hYj, hZj, hYp, hZp, hq, hw, hj]; rfl)) ?_
          obtain ⟨vs, hvs⟩ : ∃ vs, vs = h.objs[j].vals.set q v := ⟨_, rfl⟩
          have hvl2 : h.objs[j].vals.length = vs.length := by rw [hvs, List.length_set]
          rw [map_setV, ← hvs, hvl2]
          refine W_le (Le.absorb 3 j 3 (by simp [m1, m2, hYl]; rfl)) ?_
          refine W_rseqK [10] (jh hX (by simp [h1, hj, hq, hw, m1, hYl, hN, hT, hYj, hZj, hYp, hZp, hq, hw, hj]; rfl)) ?_
          refine W_ret (W_retR (by simp [h1, hj, hq, hw, m1, hYl, hN, hT, hYj, hZj, hYp, hZp, hq, hw, hj]; rfl) ?_ rfl)
          simp only [hjn, oHo, putAt, atL_lt hj, Int.toNat_natCast]
          rw [hS2, ← hvs]
          exact Wk.refl _
end Go.Proofs
namespace Go.Proofs
open Go Go.Ev


theorem cb_impl_world_isSub : Callable Tryz.prog 147 := ⟨_, Tryz.func147, by kernel_rfl, by kernel_rfl⟩
theorem ct_impl_world_isSub {l : List Cls} {a b : Str} (hl : l.length ≤ 1048576) : Ct Tryz.prog 147 [wv l, .str a, .str b] [] (.bool (isKnown l b && out (chain l a) b)) [] := by
  have hcl := chain_len l a
  refine Ct_bodyS tok Tryz.func147 rfl 17 (by kernel_rfl) (by kernel_rfl) fun X hX => ?_
  refine jq [0, 1, 2] ?_
  refine W_rseqK [6] (jt 2 (k:=(jc [] (c:=(by apply ct_impl_world_known <;> first | assumption | omega | (simp at *; omega) | simp_all)) (a:=cb_impl_world_known) (k:=(jt 1 (k:=(jm 6 10 [16] (p:=fun b1_4 => by (try simp at b1_4); exact (js hX 2 (by simp [-atD_lt, -atL_lt]; rfl) (Runs.callF rfl (by simp) rfl (by simp [-atD_lt, -atL_lt]; rfl) (by apply ct_impl_world_chain <;> first | assumption | omega | (simp at *; omega) | simp_all) cb_impl_world_chain (by simp [-atD_lt, -atL_lt]; rfl) (js hX 1 (by simp [-atD_lt, -atL_lt]; rfl) (Runs.callB rfl (by simp) rfl (by simp [-atD_lt, -atL_lt]; rfl) (by apply ct_slices_Contains_string_string <;> first | assumption | omega | (simp at *; omega) | simp_all) cb_slices_Contains_string_string (by simp) (by simp [-atD_lt, -atL_lt]; rfl) (jh hX (by simp [-atD_lt, -atL_lt]; rfl))))))) (q:=fun b1_4 => by (try simp at b1_4); exact (jh hX (by simp [-atD_lt, -atL_lt]; rfl))) (k:=jr)))))))) ?_
  refine W_ret (je0 ?_)
  simp [out]
end Go.Proofs
namespace Go.Proofs
open Go Go.Ev


theorem cb_impl_world_heapIs : Callable Tryz.prog 108 := ⟨_, Tryz.func108, by kernel_rfl, by kernel_rfl⟩
theorem ct_impl_world_heapIs {l : List Cls} (hl : l.length ≤ 1000) (hs : sizeL l ≤ 1048576) (hw : rightW l = true) {h : Hep} {n : Int} {c : Str} (ho : sizeHp h ≤ 1048576) : Ct Tryz.prog 108 [wv l, pHp h, .int .i64 n, .str c] [] (.bool (hasR h n && heapIsI l h n c)) [] := by
  have hll : h.objs.length ≤ 1048576 := by unfold sizeHp at ho; omega
  refine Ct_bodyS tok Tryz.func108 rfl 32 (by kernel_rfl) (by kernel_rfl) fun X hX => ?_
  refine jq [0, 1, 2, 3] ?_
  refine W_seq (W_rseqK [0, 1, 2, 3, 13] (jt 2 (k:=(jc [] (c:=(by apply ct_impl_Heap_has <;> first | assumption | omega)) (a:=cb_impl_Heap_has) (k:=jr)))) ?_)
  refine jd (fun h1 => ?_) (fun h1 => ?_)
  · try simp at h1
    refine jq [8] ?_
    refine W_ret (je0 ?_)
    rw [h1]; rfl
  · try simp at h1
    have hn := h1
    simp only [hasR, decide_eq_true_eq] at hn
    obtain ⟨j, rfl⟩ : ∃ j : Nat, n = (j : Int) + 1 := ⟨(n - 1).toNat, by omega⟩
    have hj : j < h.objs.length := by omega
    have hwr : IntKind.i64.wrap (j : Int) = j := wrap_i64 (by omega) (by omega)
    have hjn : ((j : Int) + 1 - 1).toNat = j := by omega
    refine W_skip (W_rseqK [0, 3, 9] (jh hX (by simp [hj, hwr]; (try (simp (disch := omega) only [wrap_i64]; (try simp [hj, hwr]))); rfl)) ?_)
    refine W_seq (W_rseqK [0, 3, 9, 24] (jh hX (by simp [hj, hwr]; rfl)) ?_)
    refine jd (fun h4 => ?_) (fun h4 => ?_)
    · try simp at h4
      refine jq [8] ?_
      refine W_ret (je (by simp [hj, hwr]; rfl) ?_)
      rw [h1, Bool.true_and, heapIsI, hjn, atL_lt hj, if_neg h4]; rfl
    · try simp at h4
      refine W_skip (W_rseqK [8] (js hX 4 (by simp [hj, hwr]; rfl) (jc [] (c:=(by apply ct_impl_world_isSub <;> first | assumption | omega)) (a:=cb_impl_world_isSub) (k:=jr))) ?_)
      refine W_ret (je (by simp [hj, hwr]; rfl) ?_)
      rw [h1, Bool.true_and, heapIsI, hjn, atL_lt hj, if_pos h4]
end Go.Proofs
namespace Go.Proofs
open Go Go.Ev


theorem cb_impl_world_mayHold : Callable Tryz.prog 65 := ⟨_, Tryz.func65, by kernel_rfl, by kernel_rfl⟩
theorem ct_impl_world_mayHold {l : List Cls} (hl : l.length ≤ 1000) (hs : sizeL l ≤ 1048576) (hw : rightW l = true) {h : Hep} {o : HOb} {v : Vl} (ho : sizeHp h ≤ 1048576) : Ct Tryz.prog 65 [wv l, pHp h, eOb o, eVl v] [] (.bool (mayI l h o v)) [] := by
  refine Ct_bodyS tok Tryz.func65 rfl 35 (by kernel_rfl) (by kernel_rfl) fun X hX => ?_
  refine jq [0, 1, 6, 7] ?_
  refine W_seq (jq [0, 1, 6, 7, 10] ?_)
  refine W_block (jq [0, 1, 6, 7, 10, 11] ?_)
  refine jd (fun h2 => ?_) (fun h2 => ?_)
  · try simp at h2
    refine jq [8] ?_
    refine W_ret (je0 ?_)
    unfold mayI; simp_all
  · try simp at h2
    refine jq [0, 1, 6, 7, 16] ?_
    refine jd (fun h4 => ?_) (fun h4 => ?_)
    · try simp at h4
      refine W_rseqK [8] (jt 4 (k:=(jm 13 21 [34] (p:=fun b5_4 => by (try simp at b5_4); exact (jh hX (by simp [-atD_lt, -atL_lt]; rfl))) (q:=fun b5_4 => by (try simp at b5_4); exact (js hX 4 (by simp [-atD_lt, -atL_lt]; rfl) (jm 8 25 [21, 33] (p:=fun b5_8 => by (try simp at b5_8); exact (js hX 6 (by simp [-atD_lt, -atL_lt]; rfl) (Runs.callB rfl (by simp) rfl (by simp [-atD_lt, -atL_lt]; rfl) (by apply ct_impl_world_heapIs <;> first | assumption | omega) cb_impl_world_heapIs (by simp) (by simp [-atD_lt, -atL_lt]; rfl) (jh hX (by simp [-atD_lt, -atL_lt]; rfl))))) (q:=fun b5_8 => by (try simp at b5_8); exact (jh hX (by simp [-atD_lt, -atL_lt]; rfl))) (k:=(jh hX (by simp [-atD_lt, -atL_lt]; rfl)))))) (k:=jr)))) ?_
      refine W_ret (je0 ?_)
      unfold mayI; simp_all
    · try simp at h4
      refine W_skip (jq [8] ?_)
      refine W_ret (je0 ?_)
      unfold mayI; simp_all
end Go.Proofs
namespace Go.Proofs
open Go Go.Ev


theorem cb_impl_HeapPut : Callable Tryz.prog 27 := ⟨_, Tryz.func27, by kernel_rfl, by kernel_rfl⟩
theorem ct_impl_HeapPut_e {l : List Cls} (hl : l.length ≤ 1048576) (hs : sizeL l ≤ 1048576) {h : Hep} (ho : sizeHp h ≤ 1048576) {a p : Int} {v : Vl} {c : Int} (hc : c ≠ 0) (hV : hpOfV l h [] = .tup [nilP, nilP, .int .i64 c]) : Ct Tryz.prog 27 [.lst false 6 (l.map eC), eHp h, .int .i64 a, .int .i64 p, eVl v] [] (oHo (zHo c)) [] := by
  refine Ct_bodyS tok Tryz.func27 rfl 67 (by kernel_rfl) (by kernel_rfl) fun X hX => ?_
  refine W_rseqK [0, 2, 3, 6, 9, 10] (jh hX (by simp [hV, nilP, hc]; rfl)) ?_
  refine W_rseqK [2, 3, 9, 10, 11, 12, 13] (js hX 2 (by simp [hV, nilP, hc]; rfl) (Runs.call [] rfl (by simp) rfl (by simp [hV, nilP, hc]; rfl) (by simp; rfl) (by apply ct_impl_heapOf_0 <;> first | assumption | omega | (simp; done) | exact hY3 3 | exact hZ3 3 | (simp; omega)) cb_impl_heapOf (by simp) (by simp) (by simp [hV, nilP, hc]; rfl) (jh hX (by simp [hV, nilP, hc]; rfl)))) ?_
  refine W_seq (W_rseqK [2, 3, 9, 10, 11, 12, 13, 24] (jh hX (by simp [hV, nilP, hc]; rfl)) ?_)
  refine jd (fun h2 => ?_) (fun h2 => ?_)
  · try simp at h2
    refine W_rseqK [10] (jh hX (by simp [hV, nilP, hc]; rfl)) ?_
    refine W_ret (W_retR (by simp [hV, nilP, hc]; rfl) ?_ rfl)
    exact zHo_wk _
  · try simp at h2
    all_goals skip --done
theorem ct_impl_HeapPut_no {l : List Cls} (hl : l.length ≤ 1048576) (hs : sizeL l ≤ 1048576) {h : Hep} (ho : sizeHp h ≤ 1048576) {a p : Int} {v : Vl} (hV : hpOfV l h [] = .tup [wv l, .bx 2 (oHp h), .int .i64 0]) (hn : placeR h a p = false) : Ct Tryz.prog 27 [.lst false 6 (l.map eC), eHp h, .int .i64 a, .int .i64 p, eVl v] [] (oHo (zHo 8)) [] := by
  refine Ct_bodyS tok Tryz.func27 rfl 67 (by kernel_rfl) (by kernel_rfl) fun X hX => ?_
  refine W_rseqK [0, 2, 3, 6, 9, 10] (jh hX (by simp [hV]; rfl)) ?_
  refine W_rseqK [2, 3, 9, 10, 11, 12, 13] (js hX 2 (by simp [hV]; rfl) (Runs.call [] rfl (by simp) rfl (by simp [hV]; rfl) (by simp; rfl) (by apply ct_impl_heapOf_0 <;> first | assumption | omega) cb_impl_heapOf (by simp) (by simp) (by simp [hV]; rfl) (jh hX (by simp [hV]; rfl)))) ?_
  refine W_seq (W_rseqK [2, 3, 9, 10, 11, 12, 13, 24] (jh hX (by simp [hV]; rfl)) ?_)
  refine jd (fun h2 => ?_) (fun h2 => ?_)
  · try simp at h2
    all_goals skip --done
  · try simp at h2
    refine W_skip (W_rseqK [2, 3, 9, 10, 11, 12, 14, 15] (js hX 3 (by simp [hV]; rfl) (Runs.callB rfl (by simp) rfl (by simp [hV]; rfl) (by apply ct_impl_Heap_place_no <;> first | assumption | omega) cb_impl_Heap_place (by simp) (by simp [hV]; rfl) (jh hX (by simp [hV]; rfl)))) ?_)
    refine W_seq (W_block (W_rseqK [2, 3, 9, 10, 11, 12, 14, 34] (jh hX (by simp [hV]; rfl)) ?_))
    refine jd (fun h5 => ?_) (fun h5 => ?_)
    · try simp at h5
      refine W_rseqK [10] (jh hX (by simp [hV]; rfl)) ?_
      refine W_ret (W_retR (by simp [hV]; rfl) ?_ rfl)
      exact zHo_wk _
    · try simp at h5
      all_goals skip --done
theorem ct_impl_HeapPut_ty {l : List Cls} (hl : l.length ≤ 1048576) (hs : sizeL l ≤ 1048576) {h : Hep} (ho : sizeHp h ≤ 1048576) {a p : Int} {v : Vl} (hW : hpRightW l h = true) (hl4 : l.length ≤ 400) (hp : placeR h a p = true) (hv : valR h.objs.length v = false) : Ct Tryz.prog 27 [.lst false 6 (l.map eC), eHp h, .int .i64 a, .int .i64 p, eVl v] [] (oHo (zHo 10)) [] := by
  have hV : hpOfV l h [] = .tup [wv l, .bx 2 (oHp h), .int .i64 0] := by rw [hpOfV, if_neg (by simp; omega), if_pos hW]
  have hG : putW l h a p v = putW l h a p v := rfl
  have hol : h.objs.length ≤ 1048576 := by unfold sizeHp at ho; omega
  obtain ⟨j, q, hj, rfl, rfl, hq⟩ := placeR_iff hp
  have hjn : ((j : Int) + 1 - 1).toNat = j := by omega
  obtain ⟨hw9, hw8, hh9⟩ := place_at ho hj
  have hvl : h.objs[j].vals.length ≤ 1048576 := by
    have := Nat.le_trans (sizeHp_at hj) ho
    unfold sizeOb at this; omega
  obtain ⟨Y, Z, hS, hS2, hYl, hN, hY1, hZ1, hY3, hZ3, hYj, hZj, hYp, hZp, Y', Z', hYb, hZb, hfold⟩ := obs_YZ hj
  have m1 := fun x => midG hYl x Z
  have m2 := fun x y => midS hYl x y Z
  have hT : ∀ x, (Y ++ x :: Z).take h.objs.length = Y ++ x :: Z := fun x => List.take_of_length_le (by simp [hYl]; omega)
  have hjN : j < h.objs.length := hj
  refine Ct_bodyS tok Tryz.func27 rfl 67 (by kernel_rfl) (by kernel_rfl) fun X hX => ?_
  refine W_rseqK [0, 2, 3, 6, 9, 10] (jh hX (by simp [m1, hYl, hN, hT, hY1, hZ1, hYj, hZj, hYp, hZp, hq, hw9, hjN, hV, hv]; rfl)) ?_
  refine W_rseqK [2, 3, 9, 10, 11, 12, 13] (js hX 2 (by simp [m1, hYl, hN, hT, hY1, hZ1, hYj, hZj, hYp, hZp, hq, hw9, hjN, hV, hv]; rfl) (Runs.call [] rfl (by simp) rfl (by simp [m1, hYl, hN, hT, hY1, hZ1, hYj, hZj, hYp, hZp, hq, hw9, hjN, hV, hv]; rfl) (by simp; rfl) (by apply ct_impl_heapOf_0 <;> first | assumption | omega | (simp; done) | exact hY3 3 | exact hZ3 3 | (simp; omega)) cb_impl_heapOf (by simp) (by simp) (by simp [m1, hYl, hN, hT, hY1, hZ1, hYj, hZj, hYp, hZp, hq, hw9, hjN, hV, hv]; rfl) (jh hX (by simp [m1, hYl, hN, hT, hY1, hZ1, hYj, hZj, hYp, hZp, hq, hw9, hjN, hV, hv]; rfl)))) ?_
  refine W_seq (W_rseqK [2, 3, 9, 10, 11, 12, 13, 24] (jh hX (by simp [m1, hYl, hN, hT, hY1, hZ1, hYj, hZj, hYp, hZp, hq, hw9, hjN, hV, hv]; rfl)) ?_)
  refine jd (fun h2 => ?_) (fun h2 => ?_)
  · try simp at h2
    all_goals skip --done
  · try simp at h2
    refine W_le (Le.expose 3 0 0 (by simp [St.expose]; rfl)) ?_
    rw [hS]
    refine W_le (Le.expose 4 j 3 (by simp [St.expose, m1, m2, hYl]; rfl)) ?_
    simp only [eOb] at hfold
    refine W_skip (W_rseqK [2, 3, 9, 10, 11, 12, 14, 15] (js hX 3 (by simp [m1, hYl, hN, hT, hY1, hZ1, hYj, hZj, hYp, hZp, hq, hw9, hjN, hYb, hZb, hfold, hV, hv]; rfl) (Runs.call [3, 4, 5] rfl (by simp) rfl (by simp [m1, hYl, hN, hT, hY1, hZ1, hYj, hZj, hYp, hZp, hq, hw9, hjN, hYb, hZb, hfold, hV, hv]; rfl) (by simp; rfl) (by (try simp only [hY1, hZ1]); apply (ct_impl_Heap_place (Y := Y) (Z := Z) (ys := h.objs[j].vals.map eVl) (K := h.objs[j].kind) (C := h.objs[j].cls) (rd := h.objs[j].ready) (room := h.room)) <;> first | assumption | omega | (simp; done) | exact hY3 3 | exact hZ3 3 | (simp; omega)) cb_impl_Heap_place (by simp) (by simp) (by simp [m1, hYl, hN, hT, hY1, hZ1, hYj, hZj, hYp, hZp, hq, hw9, hjN, hYb, hZb, hfold, hV, hv]; rfl) (jh hX (by simp [m1, hYl, hN, hT, hY1, hZ1, hYj, hZj, hYp, hZp, hq, hw9, hjN, hYb, hZb, hfold, hV, hv]; rfl)))) ?_)
    refine W_seq (W_block (W_rseqK [2, 3, 9, 10, 11, 12, 14, 34] (jh hX (by simp [m1, hYl, hN, hT, hY1, hZ1, hYj, hZj, hYp, hZp, hq, hw9, hjN, hYb, hZb, hfold, hV, hv]; rfl)) ?_))
    refine jd (fun h5 => ?_) (fun h5 => ?_)
    · try simp at h5
      all_goals skip --done
    · try simp at h5
      first | (refine jV 16 (.pur 0 (.one 1 (.one 2 (.pur 3 (.pur 4 (.pur 5 (.pur 6 (.pur 7 (.pur 8 (.pur 9 (.pur 10 (.pur 11 (.pur 12 (.pur 13 (.pur 14 (.pur 15 .tail)))))))))))))))) [3, 9, 10, 12, 14, 38] hX (jVp (by simp [m1, hYl, hN, hT, hY1, hZ1, hYj, hZj, hYp, hZp, hq, hw9, hjN, hYb, hZb, hfold, hV, hv]; rfl) (jVo (p:=fun X hX => (jh hX (by simp [m1, hYl, hN, hT, hY1, hZ1, hYj, hZj, hYp, hZp, hq, hw9, hjN, hYb, hZb, hfold, hV, hv]; rfl))) (k:=(jVo (p:=fun X hX => (Runs.callB3 rfl (by simp) rfl (by simp [m1, hYl, hN, hT, hY1, hZ1, hYj, hZj, hYp, hZp, hq, hw9, hjN, hYb, hZb, hfold, hV, hv]; rfl) (by apply (ct_impl_Heap_isVal (h := h)) <;> first | assumption | omega | (simp; done) | exact hY3 3 | exact hZ3 3 | (simp; omega)) cb_impl_Heap_isVal (by simp) (by simp [m1, hYl, hN, hT, hY1, hZ1, hYj, hZj, hYp, hZp, hq, hw9, hjN, hYb, hZb, hfold, hV, hv]; rfl) jf)) (k:=(jVp (by simp [m1, hYl, hN, hT, hY1, hZ1, hYj, hZj, hYp, hZp, hq, hw9, hjN, hYb, hZb, hfold, hV, hv]; rfl) (jVp (by simp [m1, hYl, hN, hT, hY1, hZ1, hYj, hZj, hYp, hZp, hq, hw9, hjN, hYb, hZb, hfold, hV, hv]; rfl) (jVp (by simp [m1, hYl, hN, hT, hY1, hZ1, hYj, hZj, hYp, hZp, hq, hw9, hjN, hYb, hZb, hfold, hV, hv]; rfl) (jVp (by simp [m1, hYl, hN, hT, hY1, hZ1, hYj, hZj, hYp, hZp, hq, hw9, hjN, hYb, hZb, hfold, hV, hv]; rfl) (jVp (by simp [m1, hYl, hN, hT, hY1, hZ1, hYj, hZj, hYp, hZp, hq, hw9, hjN, hYb, hZb, hfold, hV, hv]; rfl) (jVp (by simp [m1, hYl, hN, hT, hY1, hZ1, hYj, hZj, hYp, hZp, hq, hw9, hjN, hYb, hZb, hfold, hV, hv]; rfl) (jVp (by simp [m1, hYl, hN, hT, hY1, hZ1, hYj, hZj, hYp, hZp, hq, hw9, hjN, hYb, hZb, hfold, hV, hv]; rfl) (jVp (by simp [m1, hYl, hN, hT, hY1, hZ1, hYj, hZj, hYp, hZp, hq, hw9, hjN, hYb, hZb, hfold, hV, hv]; rfl) (jVp (by simp [m1, hYl, hN, hT, hY1, hZ1, hYj, hZj, hYp, hZp, hq, hw9, hjN, hYb, hZb, hfold, hV, hv]; rfl) (jVp (by simp [m1, hYl, hN, hT, hY1, hZ1, hYj, hZj, hYp, hZp, hq, hw9, hjN, hYb, hZb, hfold, hV, hv]; rfl) (jVp (by simp [m1, hYl, hN, hT, hY1, hZ1, hYj, hZj, hYp, hZp, hq, hw9, hjN, hYb, hZb, hfold, hV, hv]; rfl) (jVp (by simp [m1, hYl, hN, hT, hY1, hZ1, hYj, hZj, hYp, hZp, hq, hw9, hjN, hYb, hZb, hfold, hV, hv]; rfl) (jVp (by simp [m1, hYl, hN, hT, hY1, hZ1, hYj, hZj, hYp, hZp, hq, hw9, hjN, hYb, hZb, hfold, hV, hv]; rfl) .tail)))))))))))))))))) (jh hX (by simp [m1, hYl, hN, hT, hY1, hZ1, hYj, hZj, hYp, hZp, hq, hw9, hjN, hYb, hZb, hfold, hV, hv]; rfl)) ?_)
      refine jd (fun h7 => ?_) (fun h7 => ?_)
      · try simp at h7
        all_goals
          refine W_rseqK [10] (jh hX (by simp [m1, hYl, hN, hT, hY1, hZ1, hYj, hZj, hYp, hZp, hq, hw9, hjN, hYb, hZb, hfold, hV, hv]; rfl)) ?_
          refine W_ret (W_retR (by simp [m1, hYl, hN, hT, hY1, hZ1, hYj, hZj, hYp, hZp, hq, hw9, hjN, hYb, hZb, hfold, hV, hv]; rfl) ?_ rfl)
          exact zHo_wk _
      · try simp at h7
        all_goals
          all_goals skip --done
theorem ct_impl_HeapPut_yes {l : List Cls} (hl : l.length ≤ 1048576) (hs : sizeL l ≤ 1048576) {h : Hep} (ho : sizeHp h ≤ 1048576) {a p : Int} {v : Vl} (hW : hpRightW l h = true) (hl4 : l.length ≤ 400) (hp : placeR h a p = true) (hv : valR h.objs.length v = true) : Ct Tryz.prog 27 [.lst false 6 (l.map eC), eHp h, .int .i64 a, .int .i64 p, eVl v] [] (oHo (putW l h a p v)) [] := by
  have hV : hpOfV l h [] = .tup [wv l, .bx 2 (oHp h), .int .i64 0] := by rw [hpOfV, if_neg (by simp; omega), if_pos hW]
  have hG : putW l h a p v = if mayI l h (atL h.objs (a - 1).toNat) v = true then ⟨putAt h (a - 1).toNat p.toNat v, ⟨0, 0⟩, 0⟩ else zHo 10 := by rw [putW, if_neg (by omega), if_pos hW, if_pos hp, hv, Bool.true_and]
  rw [hG]
  have hol : h.objs.length ≤ 1048576 := by unfold sizeHp at ho; omega
  obtain ⟨j, q, hj, rfl, rfl, hq⟩ := placeR_iff hp
  have hjn : ((j : Int) + 1 - 1).toNat = j := by omega
  rw [hjn, atL_lt hj, Int.toNat_natCast]
  obtain ⟨hw9, hw8, hh9⟩ := place_at ho hj
  obtain ⟨hRW1, hRW2⟩ := right_world hW
  have hL9 := right_len hRW1
  have hvl : h.objs[j].vals.length ≤ 1048576 := by
    have := Nat.le_trans (sizeHp_at hj) ho
    unfold sizeOb at this; omega
  obtain ⟨Y, Z, hS, hS2, hYl, hN, hY1, hZ1, hY3, hZ3, hYj, hZj, hYp, hZp, Y', Z', hYb, hZb, hfold⟩ := obs_YZ hj
  have m1 := fun x => midG hYl x Z
  have m2 := fun x y => midS hYl x y Z
  have hT : ∀ x, (Y ++ x :: Z).take h.objs.length = Y ++ x :: Z := fun x => List.take_of_length_le (by simp [hYl]; omega)
  have hjN : j < h.objs.length := hj
  refine Ct_bodyS tok Tryz.func27 rfl 67 (by kernel_rfl) (by kernel_rfl) fun X hX => ?_
  refine W_rseqK [0, 2, 3, 6, 9, 10] (jh hX (by simp [m1, hYl, hN, hT, hY1, hZ1, hYj, hZj, hYp, hZp, hq, hw9, hjN, hV, hv]; rfl)) ?_
  refine W_rseqK [2, 3, 9, 10, 11, 12, 13] (js hX 2 (by simp [m1, hYl, hN, hT, hY1, hZ1, hYj, hZj, hYp, hZp, hq, hw9, hjN, hV, hv]; rfl) (Runs.call [] rfl (by simp) rfl (by simp [m1, hYl, hN, hT, hY1, hZ1, hYj, hZj, hYp, hZp, hq, hw9, hjN, hV, hv]; rfl) (by simp; rfl) (by apply ct_impl_heapOf_0 <;> first | assumption | omega | (simp; done) | exact hY3 3 | exact hZ3 3 | (simp; omega)) cb_impl_heapOf (by simp) (by simp) (by simp [m1, hYl, hN, hT, hY1, hZ1, hYj, hZj, hYp, hZp, hq, hw9, hjN, hV, hv]; rfl) (jh hX (by simp [m1, hYl, hN, hT, hY1, hZ1, hYj, hZj, hYp, hZp, hq, hw9, hjN, hV, hv]; rfl)))) ?_
  refine W_seq (W_rseqK [2, 3, 9, 10, 11, 12, 13, 24] (jh hX (by simp [m1, hYl, hN, hT, hY1, hZ1, hYj, hZj, hYp, hZp, hq, hw9, hjN, hV, hv]; rfl)) ?_)
  refine jd (fun h2 => ?_) (fun h2 => ?_)
  · try simp at h2
    all_goals skip --done
  · try simp at h2
    refine W_le (Le.expose 3 0 0 (by simp [St.expose]; rfl)) ?_
    rw [hS]
    refine W_le (Le.expose 4 j 3 (by simp [St.expose, m1, m2, hYl]; rfl)) ?_
    simp only [eOb] at hfold
    refine W_skip (W_rseqK [2, 3, 9, 10, 11, 12, 14, 15] (js hX 3 (by simp [m1, hYl, hN, hT, hY1, hZ1, hYj, hZj, hYp, hZp, hq, hw9, hjN, hYb, hZb, hfold, hV, hv]; rfl) (Runs.call [3, 4, 5] rfl (by simp) rfl (by simp [m1, hYl, hN, hT, hY1, hZ1, hYj, hZj, hYp, hZp, hq, hw9, hjN, hYb, hZb, hfold, hV, hv]; rfl) (by simp; rfl) (by (try simp only [hY1, hZ1]); apply (ct_impl_Heap_place (Y := Y) (Z := Z) (ys := h.objs[j].vals.map eVl) (K := h.objs[j].kind) (C := h.objs[j].cls) (rd := h.objs[j].ready) (room := h.room)) <;> first | assumption | omega | (simp; done) | exact hY3 3 | exact hZ3 3 | (simp; omega)) cb_impl_Heap_place (by simp) (by simp) (by simp [m1, hYl, hN, hT, hY1, hZ1, hYj, hZj, hYp, hZp, hq, hw9, hjN, hYb, hZb, hfold, hV, hv]; rfl) (jh hX (by simp [m1, hYl, hN, hT, hY1, hZ1, hYj, hZj, hYp, hZp, hq, hw9, hjN, hYb, hZb, hfold, hV, hv]; rfl)))) ?_)
    refine W_seq (W_block (W_rseqK [2, 3, 9, 10, 11, 12, 14, 34] (jh hX (by simp [m1, hYl, hN, hT, hY1, hZ1, hYj, hZj, hYp, hZp, hq, hw9, hjN, hYb, hZb, hfold, hV, hv]; rfl)) ?_))
    refine jd (fun h5 => ?_) (fun h5 => ?_)
    · try simp at h5
      all_goals skip --done
    · try simp at h5
      first | (refine jV 16 (.pur 0 (.one 1 (.one 2 (.pur 3 (.pur 4 (.pur 5 (.pur 6 (.pur 7 (.pur 8 (.pur 9 (.pur 11 (.pur 12 (.two 10 15 (.pur 13 (.two 14 15 (.one 15 .tail) (.one 14 .tail))) (.one 10 (.pur 13 (.one 14 .tail)))))))))))))))) [3, 9, 10, 12, 14, 38] hX (jVp (by simp [m1, hYl, hN, hT, hY1, hZ1, hYj, hZj, hYp, hZp, hq, hw9, hjN, hYb, hZb, hfold, hV, hv]; rfl) (jVo (p:=fun X hX => (jh hX (by simp [m1, hYl, hN, hT, hY1, hZ1, hYj, hZj, hYp, hZp, hq, hw9, hjN, hYb, hZb, hfold, hV, hv]; rfl))) (k:=(jVo (p:=fun X hX => (Runs.callB3 rfl (by simp) rfl (by simp [m1, hYl, hN, hT, hY1, hZ1, hYj, hZj, hYp, hZp, hq, hw9, hjN, hYb, hZb, hfold, hV, hv]; rfl) (by apply (ct_impl_Heap_isVal (h := h)) <;> first | assumption | omega | (simp; done) | exact hY3 3 | exact hZ3 3 | (simp; omega)) cb_impl_Heap_isVal (by simp) (by simp [m1, hYl, hN, hT, hY1, hZ1, hYj, hZj, hYp, hZp, hq, hw9, hjN, hYb, hZb, hfold, hV, hv]; rfl) jf)) (k:=(jVp (by simp [m1, hYl, hN, hT, hY1, hZ1, hYj, hZj, hYp, hZp, hq, hw9, hjN, hYb, hZb, hfold, hV, hv]; rfl) (jVp (by simp [m1, hYl, hN, hT, hY1, hZ1, hYj, hZj, hYp, hZp, hq, hw9, hjN, hYb, hZb, hfold, hV, hv]; rfl) (jVp (by simp [m1, hYl, hN, hT, hY1, hZ1, hYj, hZj, hYp, hZp, hq, hw9, hjN, hYb, hZb, hfold, hV, hv]; rfl) (jVp (by simp [m1, hYl, hN, hT, hY1, hZ1, hYj, hZj, hYp, hZp, hq, hw9, hjN, hYb, hZb, hfold, hV, hv]; rfl) (jVp (by simp [m1, hYl, hN, hT, hY1, hZ1, hYj, hZj, hYp, hZp, hq, hw9, hjN, hYb, hZb, hfold, hV, hv]; rfl) (jVp (by simp [m1, hYl, hN, hT, hY1, hZ1, hYj, hZj, hYp, hZp, hq, hw9, hjN, hYb, hZb, hfold, hV, hv]; rfl) (jVp (by simp [m1, hYl, hN, hT, hY1, hZ1, hYj, hZj, hYp, hZp, hq, hw9, hjN, hYb, hZb, hfold, hV, hv]; rfl) (jVp (by simp [m1, hYl, hN, hT, hY1, hZ1, hYj, hZj, hYp, hZp, hq, hw9, hjN, hYb, hZb, hfold, hV, hv]; rfl) (jVp (by simp [m1, hYl, hN, hT, hY1, hZ1, hYj, hZj, hYp, hZp, hq, hw9, hjN, hYb, hZb, hfold, hV, hv]; rfl) (jVt (jVo (p:=fun X hX => (jh hX (by simp [m1, hYl, hN, hT, hY1, hZ1, hYj, hZj, hYp, hZp, hq, hw9, hjN, hYb, hZb, hfold, hV, hv]; rfl))) (k:=(jVp (by simp [m1, hYl, hN, hT, hY1, hZ1, hYj, hZj, hYp, hZp, hq, hw9, hjN, hYb, hZb, hfold, hV, hv]; rfl) (jVt (jVo (p:=fun X hX => (jh hX (by simp [m1, hYl, hN, hT, hY1, hZ1, hYj, hZj, hYp, hZp, hq, hw9, hjN, hYb, hZb, hfold, hV, hv]; rfl))) (k:=(jVo (p:=fun X hX => (jh hX (by simp [m1, hYl, hN, hT, hY1, hZ1, hYj, hZj, hYp, hZp, hq, hw9, hjN, hYb, hZb, hfold, hV, hv]; rfl))) (k:=.tail)))) (jVo (p:=fun X hX => (jh hX (by simp [m1, hYl, hN, hT, hY1, hZ1, hYj, hZj, hYp, hZp, hq, hw9, hjN, hYb, hZb, hfold, hV, hv]; try rfl))) (k:=(jVo (p:=fun X hX => (jh hX (by simp [m1, hYl, hN, hT, hY1, hZ1, hYj, hZj, hYp, hZp, hq, hw9, hjN, hYb, hZb, hfold, hV, hv]; try rfl))) (k:=.tail)))))))) (jVo (p:=fun X hX => (jh hX (by simp [m1, hYl, hN, hT, hY1, hZ1, hYj, hZj, hYp, hZp, hq, hw9, hjN, hYb, hZb, hfold, hV, hv]; try rfl))) (k:=(jVo (p:=fun X hX => (jh hX (by simp [m1, hYl, hN, hT, hY1, hZ1, hYj, hZj, hYp, hZp, hq, hw9, hjN, hYb, hZb, hfold, hV, hv]; try rfl))) (k:=(jVp (by simp [m1, hYl, hN, hT, hY1, hZ1, hYj, hZj, hYp, hZp, hq, hw9, hjN, hYb, hZb, hfold, hV, hv]; try rfl) (jVo (p:=fun X hX => (jh hX (by simp [m1, hYl, hN, hT, hY1, hZ1, hYj, hZj, hYp, hZp, hq, hw9, hjN, hYb, hZb, hfold, hV, hv]; try rfl))) (k:=.tail)))))))))))))))))))))) (Runs.callB3 rfl (by simp) rfl (by simp [m1, hYl, hN, hT, hY1, hZ1, hYj, hZj, hYp, hZp, hq, hw9, hjN, hYb, hZb, hfold, hV, hv]; rfl) (by apply (ct_impl_world_mayHold (h := h) (o := h.objs[j])) <;> first | assumption | omega | (simp; done) | exact hY3 3 | exact hZ3 3 | (simp; omega)) cb_impl_world_mayHold (by simp) (by simp [m1, hYl, hN, hT, hY1, hZ1, hYj, hZj, hYp, hZp, hq, hw9, hjN, hYb, hZb, hfold, hV, hv]; rfl) (jh hX (by simp [m1, hYl, hN, hT, hY1, hZ1, hYj, hZj, hYp, hZp, hq, hw9, hjN, hYb, hZb, hfold, hV, hv]; rfl))) ?_)
      refine jd (fun h7 => ?_) (fun h7 => ?_)
      · try simp at h7
        all_goals
          refine W_rseqK [10] (jh hX (by simp [m1, hYl, hN, hT, hY1, hZ1, hYj, hZj, hYp, hZp, hq, hw9, hjN, hYb, hZb, hfold, hV, hv]; rfl)) ?_
          refine W_ret (W_retR (by simp [m1, hYl, hN, hT, hY1, hZ1, hYj, hZj, hYp, hZp, hq, hw9, hjN, hYb, hZb, hfold, hV, hv]; rfl) ?_ rfl)
          rw [if_neg (by simpa using h7)]; exact zHo_wk _
      · try simp at h7
        all_goals
          refine W_skip (W_rseqK [10, 12] (jh hX (by simp [m1, hYl, hN, hT, hY1, hZ1, hYj, hZj, hYp, hZp, hq, hw9, hjN, hYb, hZb, hfold, hV, hv]; rfl)) ?_)
          obtain ⟨vs, hvs⟩ : ∃ vs, vs = h.objs[j].vals.set q v := ⟨_, rfl⟩
          have hvl2 : h.objs[j].vals.length = vs.length := by rw [hvs, List.length_set]
          rw [map_setV, ← hvs, hvl2]
          refine W_le (Le.absorb 4 j 3 (by simp [m1, m2, hYl]; rfl)) ?_
          refine W_rseqK [10] (jh hX (by simp [m1, hYl, hN, hT, hY1, hZ1, hYj, hZj, hYp, hZp, hq, hw9, hjN, hYb, hZb, hfold, hV, hv]; rfl)) ?_
          refine W_ret (W_retR (by simp [m1, hYl, hN, hT, hY1, hZ1, hYj, hZj, hYp, hZp, hq, hw9, hjN, hYb, hZb, hfold, hV, hv]; rfl) ?_ rfl)
          rw [if_pos (by simpa using h7)]
          simp only [oHo, putAt, atL_lt hj]
          rw [hS2, ← hvs]
          exact Wk.refl _
theorem ct_impl_HeapPut {l : List Cls} (hl : l.length ≤ 1048576) (hs : sizeL l ≤ 1048576) {h : Hep} (ho : sizeHp h ≤ 1048576) {a p : Int} {v : Vl} : Ct Tryz.prog 27 [.lst false 6 (l.map eC), eHp h, .int .i64 a, .int .i64 p, eVl v] [] (oHo (putW l h a p v)) [] := by
  by_cases hl4 : l.length ≤ 400
  · cases hW : hpRightW l h
    · rw [putW, if_neg (by omega), if_neg (by simp [hW])]
      exact ct_impl_HeapPut_e hl hs ho (by decide) (by rw [hpOfV, if_neg (by simp; omega), if_neg (by simp [hW])])
    · cases hp : placeR h a p
      · rw [putW, if_neg (by omega), if_pos hW, if_neg (by simp [hp])]
        exact ct_impl_HeapPut_no hl hs ho (by rw [hpOfV, if_neg (by simp; omega), if_pos hW]) hp
      · cases hv : valR h.objs.length v
        · rw [putW, if_neg (by omega), if_pos hW, if_pos hp, hv, Bool.false_and, if_neg (by simp)]
          exact ct_impl_HeapPut_ty hl hs ho hW hl4 hp hv
        · exact ct_impl_HeapPut_yes hl hs ho hW hl4 hp hv
  · rw [putW, if_pos (by omega)]
    exact ct_impl_HeapPut_e hl hs ho (by decide) (by rw [hpOfV, if_pos (.inl (by omega))])
end Go.Proofs
namespace Go.Proofs
open Go Go.Ev


theorem cb_laws_FnExactHeapPut : Callable Tryz.prog 6 := ⟨_, Tryz.func6, by kernel_rfl, by kernel_rfl⟩
theorem ct_laws_FnExactHeapPut {l : List Cls} {p1 : Hep} {n2 : Int} {n3 : Int} {v4 : Vl} (hl : l.length < 4611686018427387904) (bl : ∀ y ∈ l, bigC y) (hp1 : bigHp p1) (hn2 : -9223372036854775808 ≤ n2 ∧ n2 < 9223372036854775808) (hn3 : -9223372036854775808 ≤ n3 ∧ n3 < 9223372036854775808)  : Ct Tryz.prog 6 [.lst false 6 (l.map eC), eHp p1, .int .i64 n2, .int .i64 n3, eVl v4] [] (.bool true) [] := by
  refine Ct_bodyS tok Tryz.func6 rfl 110 (by kernel_rfl) (by kernel_rfl) fun X hX => ?_
  refine jq [0, 2, 3, 6, 9] ?_
  refine jq [0, 2, 3, 6, 9, 11] ?_
  refine W_rseqK [0, 2, 3, 6, 9, 11] (jt 2 (k:=(jc [] (c:=(by apply ct_laws_szClassS <;> first | assumption | omega | exact bigHp_of hbH | exact hbg.1 | (simp <;> omega))) (a:=cb_laws_szClassS) (k:=jr)))) ?_
  refine W_seq (jq [0, 2, 3, 6, 9, 11, 24] ?_)
  refine jd (fun h3 => ?_) (fun h3 => ?_)
  · try simp at h3
    refine jq [10] ?_
    refine W_ret (je (by simp [h3]; rfl) ?_)
    first | omega | (simp_all; done) | (simp_all <;> omega)
  · try simp at h3
    have k3 := sub_ok h3
    have hsL : sizeL l ≤ 1048576 := by have := k3.1; unfold sizeL; omega
    refine W_skip (W_rseqK [0, 2, 3, 6, 9, 11] (js hX 2 (by simp [h3]; rfl) (jc [] (c:=(by apply ct_laws_szHeap <;> first | assumption | omega | exact bigHp_of hbH | exact hbg.1 | (simp <;> omega))) (a:=cb_laws_szHeap) (k:=jr))) ?_)
    refine W_seq (jq [0, 2, 3, 6, 9, 29] ?_)
    refine jd (fun h6 => ?_) (fun h6 => ?_)
    · try simp at h6
      refine jq [10] ?_
      refine W_ret (je (by simp [h3, h6]; rfl) ?_)
      first | omega | (simp_all; done) | (simp_all <;> omega)
    · try simp at h6
      have k6 := sub_ok h6
      have hbH : sizeHp p1 ≤ 1048576 := by have := k6.1; omega
      have hc : cntCs l ≤ 7340032 := by have := cntCs_size l; omega
      have hco := cntOs_hp hbH
      have hbg := putW_big (l := l) (a := n2) (p := n3) (v := v4) hbH
      refine W_skip (jK 10 [0, 2, 4, 5, 6] (.two 1 9 (.two 3 9 (.two 7 9 (.two 8 9 (.one 9 .tail) (.one 8 .tail)) (.one 7 (.one 8 .tail))) (.one 3 (.one 7 (.one 8 .tail)))) (.one 1 (.one 3 (.one 7 (.one 8 .tail))))) [0, 2, 3, 6, 9, 12] ([0, 1]) hX (by simp [h3, h6]; rfl) (.two (jN (p:=fun X hX => (jF (c:=(by apply ct_laws_toClassS <;> first | assumption | omega | exact fun y hy => Nat.le_trans (mem_sum hy) (by omega))) (a:=cb_laws_toClassS) (k:=jf))) (k:=(.two (jN (p:=fun X hX => (jF (c:=(by apply ct_laws_toHeap <;> first | assumption | omega | exact fun y hy => Nat.le_trans (mem_sum hy) (by omega))) (a:=cb_laws_toHeap) (k:=jf))) (k:=(.two (jN (p:=fun X hX => (jF (c:=(by apply ct_laws_toVal <;> first | assumption | omega | exact fun y hy => Nat.le_trans (mem_sum hy) (by omega))) (a:=cb_laws_toVal) (k:=jf))) (k:=(.two (jN (p:=fun X hX => (jF (c:=(by apply ct_spec_HeapPut <;> first | assumption | omega | exact bigHp_of hbH | exact hbg.1 | (simp <;> omega))) (a:=cb_spec_HeapPut) (k:=jf))) (k:=(jN (p:=fun X hX => jr) (k:=.tail)))) (jN (p:=fun X hX => jr) (k:=(jN (p:=fun X hX => (jF (c:=(by apply ct_spec_HeapPut <;> first | assumption | omega | exact bigHp_of hbH | exact hbg.1 | (simp <;> omega))) (a:=cb_spec_HeapPut) (k:=jf))) (k:=.tail))))))) (jN (p:=fun X hX => jr) (k:=(jN (p:=fun X hX => (jF (c:=(by apply ct_laws_toVal <;> first | assumption | omega | exact fun y hy => Nat.le_trans (mem_sum hy) (by omega))) (a:=cb_laws_toVal) (k:=jf))) (k:=(jN (p:=fun X hX => (jF (c:=(by apply ct_spec_HeapPut <;> first | assumption | omega | exact bigHp_of hbH | exact hbg.1 | (simp <;> omega))) (a:=cb_spec_HeapPut) (k:=jf))) (k:=.tail))))))))) (jN (p:=fun X hX => jr) (k:=(jN (p:=fun X hX => (jF (c:=(by apply ct_laws_toHeap <;> first | assumption | omega | exact fun y hy => Nat.le_trans (mem_sum hy) (by omega))) (a:=cb_laws_toHeap) (k:=jf))) (k:=(jN (p:=fun X hX => (jF (c:=(by apply ct_laws_toVal <;> first | assumption | omega | exact fun y hy => Nat.le_trans (mem_sum hy) (by omega))) (a:=cb_laws_toVal) (k:=jf))) (k:=(jN (p:=fun X hX => (jF (c:=(by apply ct_spec_HeapPut <;> first | assumption | omega | exact bigHp_of hbH | exact hbg.1 | (simp <;> omega))) (a:=cb_spec_HeapPut) (k:=jf))) (k:=.tail))))))))))) (jN (p:=fun X hX => jr) (k:=(jN (p:=fun X hX => (jF (c:=(by apply ct_laws_toClassS <;> first | assumption | omega | exact fun y hy => Nat.le_trans (mem_sum hy) (by omega))) (a:=cb_laws_toClassS) (k:=jf))) (k:=(jN (p:=fun X hX => (jF (c:=(by apply ct_laws_toHeap <;> first | assumption | omega | exact fun y hy => Nat.le_trans (mem_sum hy) (by omega))) (a:=cb_laws_toHeap) (k:=jf))) (k:=(jN (p:=fun X hX => (jF (c:=(by apply ct_laws_toVal <;> first | assumption | omega | exact fun y hy => Nat.le_trans (mem_sum hy) (by omega))) (a:=cb_laws_toVal) (k:=jf))) (k:=(jN (p:=fun X hX => (jF (c:=(by apply ct_spec_HeapPut <;> first | assumption | omega | exact bigHp_of hbH | exact hbg.1 | (simp <;> omega))) (a:=cb_spec_HeapPut) (k:=jf))) (k:=.tail))))))))))) (jh hX (by simp [h3, h6]; rfl)) ?_)
      refine W_rseqK [0, 2, 3, 6, 9, 12, 13] (jt 1 (k:=(jc [] (c:=(by apply ct_laws_toClassS <;> first | assumption | omega | exact fun y hy => Nat.le_trans (mem_sum hy) (by omega))) (a:=cb_laws_toClassS) (k:=jr)))) ?_
      refine W_rseqK [0, 2, 3, 6, 9, 12, 13, 14] (js hX 1 (by simp [h3, h6]; rfl) (jc [] (c:=(by apply ct_laws_toHeap <;> first | assumption | omega | exact fun y hy => Nat.le_trans (mem_sum hy) (by omega))) (a:=cb_laws_toHeap) (k:=(jh hX (by simp [h3, h6]; rfl))))) ?_
      refine jKs 8 [0, 1, 2, 3, 4] (.two 5 7 (.two 6 7 (.one 7 .tail) (.one 6 .tail)) (.one 5 (.one 6 .tail))) [0, 2, 3, 6, 9, 12, 13, 14, 15] ([1, 5]) hX (by simp [h3, h6]; rfl) (.two (jNs (p:=fun X hX => (jF (c:=(by apply ct_laws_toVal <;> first | assumption | omega | exact fun y hy => Nat.le_trans (mem_sum hy) (by omega))) (a:=cb_laws_toVal) (k:=jf))) (k:=(.two (jNs (p:=fun X hX => (jB (c:=(by apply ct_impl_HeapPut <;> first | assumption | omega | exact bigHp_of hbH | exact hbg.1 | (simp <;> omega))) (a:=cb_impl_HeapPut) (k:=jf))) (k:=(jNs (p:=fun X hX => jr) (k:=.tail)))) (jNs (p:=fun X hX => jr) (k:=(jNs (p:=fun X hX => (jB (c:=(by apply ct_impl_HeapPut <;> first | assumption | omega | exact bigHp_of hbH | exact hbg.1 | (simp <;> omega))) (a:=cb_impl_HeapPut) (k:=jf))) (k:=(jW 6 7 .tail (by simp [mapL_T, mapL_F, mapL_I, mapL_H, mapL_M, mapL_C, mapL_Vl, mapL_Ob]; try rfl))))))))) (jNs (p:=fun X hX => jr) (k:=(jNs (p:=fun X hX => (jF (c:=(by apply ct_laws_toVal <;> first | assumption | omega | exact fun y hy => Nat.le_trans (mem_sum hy) (by omega))) (a:=cb_laws_toVal) (k:=jf))) (k:=(jNs (p:=fun X hX => (jB (c:=(by apply ct_impl_HeapPut <;> first | assumption | omega | exact bigHp_of hbH | exact hbg.1 | (simp <;> omega))) (a:=cb_impl_HeapPut) (k:=jf))) (k:=(jW 6 7 .tail (by simp [mapL_T, mapL_F, mapL_I, mapL_H, mapL_M, mapL_C, mapL_Vl, mapL_Ob]; try rfl))))))))) (jh hX (by simp [h3, h6]; rfl)) ?_
      refine W_seq (W_rseqK [0, 2, 3, 6, 9, 12, 13, 14, 15, 53] (js hX 2 (by simp [h3, h6]; rfl) (jB (c:=(by apply ct_laws_eqHeapOut <;> first | assumption | omega | exact bigHp_of hbH | exact hbg.1 | (simp <;> omega))) (a:=cb_laws_eqHeapOut) (k:=jr))) ?_)
      refine jd (fun h12 => ?_) (fun h12 => ?_)
      · try simp at h12
        all_goals
          refine jq [10] ?_
          refine W_ret (je (by simp [h3, h6]; rfl) ?_)
          first | omega | (simp_all; done) | (simp_all <;> omega)
      · try simp at h12
        all_goals
          refine W_skip (W_seq (W_rseqK [0, 2, 3, 6, 9, 12, 13, 14, 15, 58] (jt 2 (k:=(jF (c:=(by apply ct_laws_toClassS <;> first | assumption | omega | exact fun y hy => Nat.le_trans (mem_sum hy) (by omega))) (a:=cb_laws_toClassS) (k:=(jB (c:=(by apply ct_laws_eqClassS <;> first | assumption | omega | exact bigHp_of hbH | exact hbg.1 | (simp <;> omega))) (a:=cb_laws_eqClassS) (k:=jr)))))) ?_))
          refine jd (fun h14 => ?_) (fun h14 => ?_)
          · try simp at h14
            all_goals
              refine jq [10] ?_
              refine W_ret (je (by simp [h3, h6]; rfl) ?_)
              first | omega | (simp_all; done) | (simp_all <;> omega)
          · try simp at h14
            all_goals
              refine W_skip (W_seq (jL 3 [0, 1] [2] [0, 2, 3, 6, 9, 12, 13, 14, 15, 63] ([0, 5]) hX (by simp [h3, h6]; rfl) (jH (p:=fun X hX => (jF (c:=(by apply ct_laws_toHeap <;> first | assumption | omega | exact fun y hy => Nat.le_trans (mem_sum hy) (by omega))) (a:=cb_laws_toHeap) (k:=jf))) (k:=.nil)) (jB (c:=(by apply ct_laws_eqHeap <;> first | assumption | omega | exact bigHp_of hbH | exact hbg.1 | (simp <;> omega))) (a:=cb_laws_eqHeap) (k:=jr)) ?_))
              refine jd (fun h16 => ?_) (fun h16 => ?_)
              · try simp at h16
                all_goals
                  refine jq [10] ?_
                  refine W_ret (je (by simp [h3, h6]; rfl) ?_)
                  first | omega | (simp_all; done) | (simp_all <;> omega)
              · try simp at h16
                all_goals
                  refine W_skip (jq [0, 2, 3, 6, 9, 12, 13, 14, 15, 16] ?_)
                  refine W_rseqK [0, 2, 3, 6, 9, 12, 14, 15, 16] (jt 2 (k:=(jc [3] (c:=(by (try simp only [mapL_T, mapL_F, mapL_I, mapL_H, mapL_M, mapL_C, mapL_Vl, mapL_Ob]); apply ct_laws_markClassS (k := 1) <;> first | assumption | omega | exact bigHp_of hbH | exact hbg.1 | (simp <;> omega))) (a:=cb_laws_markClassS) (k:=jr)))) ?_
                  refine W_rseqK [0, 2, 3, 6, 9, 12, 15, 16] (js hX 2 (by simp [h3, h6]; rfl) (jc [4] (c:=(by (try simp only [mapL_T, mapL_F, mapL_I, mapL_H, mapL_M, mapL_C, mapL_Vl, mapL_Ob]); apply ct_laws_markHeap (k := 1 + cntCs l) <;> first | assumption | omega | exact bigHp_of hbH | exact hbg.1 | (simp <;> omega))) (a:=cb_laws_markHeap) (k:=jr))) ?_
                  refine W_seq ?_
                  first | (refine W_rseqK [0, 2, 3, 6, 9, 12, 15, 77] (js hX 5 (by simp [h3, h6]; rfl) (jB (c:=(by apply ct_laws_eqHeapOut <;> first | assumption | omega | exact bigHp_of hbH | exact hbg.1 | (simp <;> omega))) (a:=cb_laws_eqHeapOut) (k:=jr))) ?_)
                  refine jd (fun h21 => ?_) (fun h21 => ?_)
                  · try simp at h21
                    all_goals
                      refine jq [10] ?_
                      refine W_ret (je (by simp [h3, h6, h21]; rfl) ?_)
                      first | omega | (simp_all; done) | (simp_all <;> omega)
                  · try simp at h21
                    all_goals
                      refine W_skip (jq [0, 2, 3, 6, 9, 12, 15, 17] ?_)
                      refine W_rseqK [0, 2, 3, 6, 9, 12, 15, 17] (js hX 2 (by simp [h3, h6, h21]; rfl) (jc [6] (c:=(by (try simp only [mapL_T, mapL_F, mapL_I, mapL_H, mapL_M, mapL_C, mapL_Vl, mapL_Ob]); apply ct_laws_markHeapOut (k := 1) <;> first | assumption | omega | exact bigHp_of hbH | exact hbg.1 | (simp <;> omega))) (a:=cb_laws_markHeapOut) (k:=jr))) ?_
                      refine jq [0, 2, 3, 6, 9, 12, 15, 17, 18] ?_
                      refine W_rseqK [0, 2, 3, 6, 9, 12, 15, 17, 18] (js hX 2 (by simp [h3, h6, h21]; rfl) (jB (c:=(by apply ct_laws_heldHeapOut (k := 1) <;> first | assumption | omega | exact bigHp_of hbH | exact hbg.1 | (simp <;> omega))) (a:=cb_laws_heldHeapOut) (k:=jr))) ?_
                      refine W_seq (jq [0, 2, 3, 6, 9, 12, 15, 17, 18, 85] ?_)
                      refine jd (fun h27 => ?_) (fun h27 => ?_)
                      · try simp at h27
                        all_goals
                          refine jq [10] ?_
                          refine W_ret (je (by simp [h3, h6, h21, h27]; rfl) ?_)
                          first | omega | (simp_all; done) | (simp_all <;> omega)
                      · try simp at h27
                        all_goals
                          refine W_skip (W_seq (jq [0, 2, 3, 6, 9, 12, 15, 17, 88] ?_))
                          refine jd (fun h29 => ?_) (fun h29 => ?_)
                          · try simp at h29
                            all_goals
                              refine jq [10] ?_
                              refine W_ret (je (by simp [h3, h6, h21, h27]; rfl) ?_)
                              first | omega | (simp_all; done) | (simp_all <;> omega)
                          · try simp at h29
                            all_goals
                              refine W_skip (jK 10 [0, 2, 4, 5, 6] (.two 1 9 (.two 3 9 (.two 7 9 (.two 8 9 (.one 9 .tail) (.one 8 .tail)) (.one 7 (.one 8 .tail))) (.one 3 (.one 7 (.one 8 .tail)))) (.one 1 (.one 3 (.one 7 (.one 8 .tail))))) [12, 15, 17, 19] ([0, 1]) hX (by simp [h3, h6, h21, h27]; rfl) (.two (jN (p:=fun X hX => (jF (c:=(by apply ct_laws_toClassS <;> first | assumption | omega | exact fun y hy => Nat.le_trans (mem_sum hy) (by omega))) (a:=cb_laws_toClassS) (k:=jf))) (k:=(.two (jN (p:=fun X hX => (jF (c:=(by apply ct_laws_toHeap <;> first | assumption | omega | exact fun y hy => Nat.le_trans (mem_sum hy) (by omega))) (a:=cb_laws_toHeap) (k:=jf))) (k:=(.two (jN (p:=fun X hX => (jF (c:=(by apply ct_laws_toVal <;> first | assumption | omega | exact fun y hy => Nat.le_trans (mem_sum hy) (by omega))) (a:=cb_laws_toVal) (k:=jf))) (k:=(.two (jN (p:=fun X hX => (jF (c:=(by apply ct_impl_HeapPut <;> first | assumption | omega | exact bigHp_of hbH | exact hbg.1 | (simp <;> omega))) (a:=cb_impl_HeapPut) (k:=jf))) (k:=(jN (p:=fun X hX => jr) (k:=.tail)))) (jN (p:=fun X hX => jr) (k:=(jN (p:=fun X hX => (jF (c:=(by apply ct_impl_HeapPut <;> first | assumption | omega | exact bigHp_of hbH | exact hbg.1 | (simp <;> omega))) (a:=cb_impl_HeapPut) (k:=jf))) (k:=.tail))))))) (jN (p:=fun X hX => jr) (k:=(jN (p:=fun X hX => (jF (c:=(by apply ct_laws_toVal <;> first | assumption | omega | exact fun y hy => Nat.le_trans (mem_sum hy) (by omega))) (a:=cb_laws_toVal) (k:=jf))) (k:=(jN (p:=fun X hX => (jF (c:=(by apply ct_impl_HeapPut <;> first | assumption | omega | exact bigHp_of hbH | exact hbg.1 | (simp <;> omega))) (a:=cb_impl_HeapPut) (k:=jf))) (k:=.tail))))))))) (jN (p:=fun X hX => jr) (k:=(jN (p:=fun X hX => (jF (c:=(by apply ct_laws_toHeap <;> first | assumption | omega | exact fun y hy => Nat.le_trans (mem_sum hy) (by omega))) (a:=cb_laws_toHeap) (k:=jf))) (k:=(jN (p:=fun X hX => (jF (c:=(by apply ct_laws_toVal <;> first | assumption | omega | exact fun y hy => Nat.le_trans (mem_sum hy) (by omega))) (a:=cb_laws_toVal) (k:=jf))) (k:=(jN (p:=fun X hX => (jF (c:=(by apply ct_impl_HeapPut <;> first | assumption | omega | exact bigHp_of hbH | exact hbg.1 | (simp <;> omega))) (a:=cb_impl_HeapPut) (k:=jf))) (k:=.tail))))))))))) (jN (p:=fun X hX => jr) (k:=(jN (p:=fun X hX => (jF (c:=(by apply ct_laws_toClassS <;> first | assumption | omega | exact fun y hy => Nat.le_trans (mem_sum hy) (by omega))) (a:=cb_laws_toClassS) (k:=jf))) (k:=(jN (p:=fun X hX => (jF (c:=(by apply ct_laws_toHeap <;> first | assumption | omega | exact fun y hy => Nat.le_trans (mem_sum hy) (by omega))) (a:=cb_laws_toHeap) (k:=jf))) (k:=(jN (p:=fun X hX => (jF (c:=(by apply ct_laws_toVal <;> first | assumption | omega | exact fun y hy => Nat.le_trans (mem_sum hy) (by omega))) (a:=cb_laws_toVal) (k:=jf))) (k:=(jN (p:=fun X hX => (jF (c:=(by apply ct_impl_HeapPut <;> first | assumption | omega | exact bigHp_of hbH | exact hbg.1 | (simp <;> omega))) (a:=cb_impl_HeapPut) (k:=jf))) (k:=.tail))))))))))) (jh hX (by simp [h3, h6, h21, h27]; rfl)) ?_)
                              refine W_seq (W_rseqK [15, 17, 101] (js hX 2 (by simp [h3, h6, h21, h27]; rfl) (jB (c:=(by apply ct_laws_eqHeapOut <;> first | assumption | omega | exact bigHp_of hbH | exact hbg.1 | (simp <;> omega))) (a:=cb_laws_eqHeapOut) (k:=jr))) ?_)
                              refine jd (fun h32 => ?_) (fun h32 => ?_)
                              · try simp at h32
                                all_goals
                                  refine jq [10] ?_
                                  refine W_ret (je (by simp [h3, h6, h21, h27]; rfl) ?_)
                                  first | omega | (simp_all; done) | (simp_all <;> omega)
                              · try simp at h32
                                all_goals
                                  refine W_skip (jq [15, 17, 18] ?_)
                                  refine W_rseqK [17, 18] (js hX 2 (by simp [h3, h6, h21, h27]; rfl) (jB (c:=(by apply ct_laws_heldHeapOut (k := 1) <;> first | assumption | omega | exact bigHp_of hbH | exact hbg.1 | (simp <;> omega))) (a:=cb_laws_heldHeapOut) (k:=jr))) ?_
                                  refine W_seq (jq [17, 18, 106] ?_)
                                  refine jd (fun h36 => ?_) (fun h36 => ?_)
                                  · try simp at h36
                                    all_goals
                                      refine jq [10] ?_
                                      refine W_ret (je (by simp [h3, h6, h21, h27, h36]; rfl) ?_)
                                      first | omega | (simp_all; done) | (simp_all <;> omega)
                                  · try simp at h36
                                    all_goals
                                      refine W_skip (W_seq (jq [109] ?_))
                                      refine jd (fun h38 => ?_) (fun h38 => ?_)
                                      · try simp at h38
                                        all_goals
                                          refine jq [10] ?_
                                          refine W_ret (je (by simp [h3, h6, h21, h27, h36]; rfl) ?_)
                                          first | omega | (simp_all; done) | (simp_all <;> omega)
                                      · try simp at h38
                                        all_goals
                                          refine W_skip (jq [10] ?_)
                                          refine W_ret (je (by simp [h3, h6, h21, h27, h36]; rfl) ?_)
                                          first | omega | (simp_all; done) | (simp_all <;> omega)
end Go.Proofs
