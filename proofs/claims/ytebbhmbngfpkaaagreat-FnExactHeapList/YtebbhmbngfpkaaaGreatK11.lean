/- Part 12 of what the proofs lean on: what the functions of the program and of the reference compute. Conditions: none. -/
import Derived.Test.YtebbhmbngfpkaaaGreatK10
set_option linter.all false
set_option linter.unusedVariables false
set_option linter.unusedSimpArgs false
set_option maxHeartbeats 2000000
set_option maxRecDepth 100000
namespace Go.Proofs
open Go Go.Ev


theorem cb_spec_HeapList : Callable Tryz.prog 23 := ⟨_, Tryz.func23, by kernel_rfl, by kernel_rfl⟩
theorem ct_spec_HeapList {l : List Cls} (hs : sizeL l ≤ 1048576) {h : Hep} (ho : sizeHp h ≤ 1048576) {d : Str} (hd : d.length ≤ 1099511627776) {n : Int} : Ct Tryz.prog 23 [.lst false 6 (l.map eC), eHp h, .str d, .int .i64 n] [] (oHo (listW l h d n)) [] := by
  have hl2 : sizeL l ≤ 1099511627776 := by omega
  have hll : l.length ≤ 1099511627776 := by unfold sizeL at hs; omega
  refine Ct_bodyS tok Tryz.func23 rfl 43 (by kernel_rfl) (by kernel_rfl) fun X hX => ?_
  refine jq [0, 2, 3, 5, 8] ?_
  refine W_seq (W_rseqK [0, 2, 3, 5, 8, 16] (jt 4 (k:=(jm 4 12 [0, 2, 3, 5, 8, 16] (p:=fun b1_4 => by (try simp at b1_4); exact (jh hX (by simp [-atD_lt, -atL_lt]; rfl))) (q:=fun b1_4 => by (try simp at b1_4); exact (jh hX (by simp [-atD_lt, -atL_lt, b1_4]; rfl))) (k:=jf)))) ?_)
  refine jd (fun h1 => ?_) (fun h1 => ?_)
  · try simp at h1
    refine W_rseqK [8] (jh hX (by simp [h1]; rfl)) ?_
    refine W_ret (W_retR (by simp [h1]; rfl) ?_ rfl)
    rw [listW, if_pos (by omega)]; exact zHo_wk _
  · try simp at h1
    refine W_skip (W_seq (W_rseqK [2, 3, 5, 8, 37] (js hX 2 (by simp [h1]; rfl) (jc [] (c:=(by apply ct_spec_HeapRight <;> first | assumption | omega | (have hH := hpR_len (right_world hcr).2; omega))) (a:=cb_spec_HeapRight) (k:=(jt 2 (k:=(jm 4 22 [0, 2, 3, 5, 8, 26] (p:=fun b3_5 => by (try simp at b3_5); exact (jh hX (by simp [-atD_lt, -atL_lt]; rfl))) (q:=fun b3_5 => by (try simp at b3_5); exact (js hX 1 (by simp [-atD_lt, -atL_lt]; rfl) (Runs.call [] rfl (by simp) rfl (by simp [-atD_lt, -atL_lt]; rfl) (by simp; rfl) (by apply ct_spec_TypeRight <;> first | assumption | omega | (have hH := hpR_len (right_world hcr).2; omega)) cb_spec_TypeRight (by simp) (by simp) (by simp [-atD_lt, -atL_lt]; rfl) (jh hX (by simp [-atD_lt, -atL_lt]; rfl))))) (k:=(jt 1 (k:=(jm 4 27 [0, 2, 3, 5, 8, 31] (p:=fun b3_10 => by (try simp at b3_10); exact (jh hX (by simp [-atD_lt, -atL_lt]; rfl))) (q:=fun b3_10 => by (try simp at b3_10); (have hlt := (len_of_typeRight b3_10.2).1; have hat := isAt_lt (n := 91) hlt); exact (jh hX (by simp [-atD_lt, -atL_lt, h1, hlt]; rfl))) (k:=(jt 1 (k:=(jm 5 32 [2, 3, 5, 8, 37] (p:=fun b3_15 => by (try simp at b3_15); exact (jh hX (by simp [-atD_lt, -atL_lt]; rfl))) (q:=fun b3_15 => by (try simp at b3_15); exact (js hX 2 (by simp [-atD_lt, -atL_lt]; rfl) (Runs.call [] rfl (by simp) rfl (by simp [-atD_lt, -atL_lt]; rfl) (by simp; rfl) (by apply ct_spec_l05Type <;> first | assumption | omega | (have hH := hpR_len (right_world hcr).2; omega)) cb_spec_l05Type (by simp) (by simp) (by simp [-atD_lt, -atL_lt]; rfl) (jh hX (by simp [-atD_lt, -atL_lt]; rfl))))) (k:=jf))))))))))))))) ?_))
    refine jd (fun h3 => ?_) (fun h3 => ?_)
    · try simp at h3
      have hcd : ¬ (hpRightW l h && (typeRight d && (!isAt d 0 91 && typeK l d))) = true := by
        have hat : typeRight d = true → isAt d 0 91 = decide ((atD d 0).toNat = 91) := fun e => by have hlt := (len_of_typeRight e).1; rw [isAt_lt hlt, atD_lt hlt]; simp
        grind
      refine W_rseqK [8] (jh hX (by simp [h1]; rfl)) ?_
      refine W_ret (W_retR (by simp [h1]; rfl) ?_ rfl)
      rw [listW, if_neg (by omega), if_neg hcd]; exact zHo_wk _
    · try simp at h3
      have hcd : (hpRightW l h && (typeRight d && (!isAt d 0 91 && typeK l d))) = true := by
        have hat : typeRight d = true → isAt d 0 91 = decide ((atD d 0).toNat = 91) := fun e => by have hlt := (len_of_typeRight e).1; rw [isAt_lt hlt, atD_lt hlt]; simp
        grind
      have hcr : hpRightW l h = true := by rw [Bool.and_eq_true] at hcd; exact hcd.1
      refine W_skip (W_rseqK [8] (js hX 3 (by simp [h1]; rfl) (jc [] (c:=(by apply ct_spec_l10List <;> first | assumption | omega | (have hH := hpR_len (right_world hcr).2; omega))) (a:=cb_spec_l10List) (k:=(jh hX (by simp [h1]; rfl))))) ?_)
      refine W_ret (W_retR (by simp [h1]; rfl) ?_ rfl)
      have e9 : listW l h d n = if n < 0 ∨ 50 < n then zHo 10 else if h.room = 0 then zHo 15 else addO h (listO d n.toNat) := by rw [listW, if_neg (by omega), if_pos hcd]
      rw [e9]; exact Wk.refl _
end Go.Proofs
namespace Go.Proofs
open Go Go.Ev


theorem cb_impl_listOf : Callable Tryz.prog 61 := ⟨_, Tryz.func61, by kernel_rfl, by kernel_rfl⟩
theorem ct_impl_listOf {d : Str} {n : Int} (hl : d.length ≤ 1099511627776) (h0 : 0 ≤ n) (h9 : n ≤ 50) : Ct Tryz.prog 61 [.str d, .int .i64 n] [] (oOb (listO d n.toNat)) [] := by
  have hO : ∃ K C vs, listO d n.toNat = ⟨K, C, true, vs⟩ ∧ vs.length = n.toNat ∧ (∀ i (h : i < vs.length), vs[i] = zeroV d) ∧ ((d = [73] ∧ K = 2 ∧ C = []) ∨ (d ≠ [73] ∧ K = 3 ∧ C = typeClass d)) := by
    unfold listO
    by_cases hd : d = [73]
    · exact ⟨2, [], _, by rw [if_pos hd], by simp, by simp, .inl ⟨hd, rfl, rfl⟩⟩
    · exact ⟨3, typeClass d, _, by rw [if_neg hd], by simp, by simp, .inr ⟨hd, rfl, rfl⟩⟩
  obtain ⟨K, C, vs, hO, hvl, hvg, hK⟩ := hO
  rcases hK with ⟨hd, hK, hC⟩ | ⟨hd, hK, hC⟩
  all_goals
    refine Ct_bodyS tok Tryz.func61 rfl 25 (by kernel_rfl) (by kernel_rfl) fun X hX => ?_
    refine W_rseqK [0, 1, 4] (jh hX (by simp [hd]; rfl)) ?_
    refine W_rseqK [0, 1, 4, 5] (jh hX (by simp [hd]; rfl)) ?_
    refine W_seq (W_rseqK [0, 1, 4, 5, 8] (jh hX (by simp [hd]; rfl)) ?_)
    refine jd (fun h2 => ?_) (fun h2 => ?_)
    · try simp at h2
      all_goals
        refine W_reg (js hX 1 (by simp [hd]; rfl) (Runs.call [] rfl (by simp) rfl (by simp [hd]; rfl) (by simp; rfl) (by apply ct_impl_typeClass <;> first | assumption | omega) cb_impl_typeClass (by simp) (by simp) (by simp [hd]; rfl) (jh hX (by simp [hd]; rfl)))) ?_
        refine W_seq (W_rseqK [0, 4, 5, 13, 14] (jh hX (by simp [hd]; rfl)) ?_)
        refine W_block (W_le (Le.nilC 1 0 3 2 (by simp; rfl)) ?_)
        refine W_loopU (α := Nat) [0, 4, 5, 13, 14] (fun i => [(14, .int .i64 (i : Nat))]) (fun i => [(1, some (4, [.agg [.int .i64 K, .str C, .bool true, .arr 2 0 i]])), (2, some (2, (vs.map eVl).take i))]) (fun i => (i : Int) ≤ n) (fun i => n.toNat - i) (0) (fun i => by simp; rfl) (by simp [hK, hC]) ?_ ?_
        · simpa using h0
        rintro i hi
        have w1 : (i + 1) * 16 ≤ 140737488355328 := by omega
        have w2 : i ≤ 1099511627775 := by omega
        refine W_rseqK [0, 4, 5, 13, 14, 15] (jh hX (by simp [w1, w2, hd]; rfl)) ?_
        refine W_seq (jd (fun h5 => ?_) (fun h5 => ?_))
        · try simp at h5
          have h3b : i < vs.length := by omega
          have hvi : zeroV d = vs[i] := (hvg i h3b).symm
          obtain ⟨Y, hY⟩ : ∃ Y, Y = (vs.map eVl).take i := ⟨_, rfl⟩
          rw [← hY]
          have hYl : Y.length = i := by rw [hY]; simp; omega
          have hYt : Y.take i = Y := List.take_of_length_le (by omega)
          have hnext : (vs.map eVl).take (i + 1) = Y ++ [eVl vs[i]] := by
            rw [hY, List.take_succ_eq_append_getElem (by simpa using h3b), List.getElem_map]
          have hYj : ∀ p, jkL p Y = Y := fun p => by rw [hY, ← List.map_take]; exact jkL_eVl p _
          first | have hvk : zeroV [73] = vs[i] := (by rw [← hd]; exact hvi) | have hvk := trivial
          refine W_skip (W_seq (W_block (jVr 5 (.pur 0 (.pur 2 (.two 1 3 (.one 3 (.one 4 .tail)) (.two 1 4 (.one 4 .tail) (.one 1 .tail))))) hX (jVp (by simp [w1, w2, h5, hYl, hYt, hYj, hvi, hvk, hd]; rfl) (jVp (by simp [w1, w2, h5, hYl, hYt, hYj, hvi, hvk, hd]; rfl) (jVt (jVo (p:=fun X hX => (jh hX (by simp [w1, w2, h5, hYl, hYt, hYj, hvi, hvk, hd]; rfl))) (k:=(jVo (p:=fun X hX => (Runs.call [] rfl (by simp) rfl (by simp [hd]; rfl) (by simp; rfl) (by apply ct_impl_zeroOf <;> first | assumption | omega) cb_impl_zeroOf (by simp) (by simp) (by simp [hd]; rfl) jf)) (k:=(jVo (p:=fun X hX => (jh hX (by simp [w1, w2, h5, hYl, hYt, hYj, hvi, hvk, hd]; rfl))) (k:=.tail)))))) (jVo (p:=fun X hX => (Runs.call [] rfl (by simp) rfl (by simp [hd]; try rfl) (by simp; try rfl) (by apply ct_impl_zeroOf <;> first | assumption | omega) cb_impl_zeroOf (by simp) (by simp) (by simp [hd]; try rfl) jf)) (k:=(jVt (jVo (p:=fun X hX => (jh hX (by simp [w1, w2, h5, hYl, hYt, hYj, hvi, hvk, hd]; try rfl))) (k:=(jVo (p:=fun X hX => (jh hX (by simp [w1, w2, h5, hYl, hYt, hYj, hvi, hvk, hd]; try rfl))) (k:=.tail)))) (jVo (p:=fun X hX => (jh hX (by simp [w1, w2, h5, hYl, hYt, hYj, hvi, hvk, hd]; try rfl))) (k:=(jVo (p:=fun X hX => (jh hX (by simp [w1, w2, h5, hYl, hYt, hYj, hvi, hvk, hd]; try rfl))) (k:=.tail)))))))))) (jh hX (by simp [w1, w2, h5, hYl, hYt, hYj, hvi, hvk, hd]; rfl)) ?_)))
          refine W_reg (jh hX (by simp [w1, w2, h5, hYl, hYt, hYj, hvi, hvk, hd]; (try (simp (disch := omega) only [wrap_i64]; (try simp [w1, w2, h5, hYl, hYt, hYj, hvi, hvk, hd]))); rfl)) ?_
          refine round_endT (i + 1) [0, 4, 5, 13, 14] 3 (by simp [hX]) (by simp) (by simp [hnext, hYj]; try (simp (disch := omega) only [wrap_i64])) ?_ ?_
          · omega
          · omega
        · try simp at h5
          have hin : i = vs.length := by omega
          subst hin
          rw [List.take_of_length_le (by simp)]
          refine W_exit (W_rseqK [4] (jh hX (by simp [w1, w2, h5, hd]; rfl)) ?_)
          refine W_ret (je (by simp [w1, w2, h5, hd]; rfl) ?_)
          rw [hO]; rfl
    · try simp at h2
      all_goals
        refine W_skip (W_seq (W_rseqK [0, 4, 5, 13, 14] (jh hX (by simp [hd]; rfl)) ?_))
        refine W_block (W_le (Le.nilC 1 0 3 2 (by simp; rfl)) ?_)
        refine W_loopU (α := Nat) [0, 4, 5, 13, 14] (fun i => [(14, .int .i64 (i : Nat))]) (fun i => [(1, some (4, [.agg [.int .i64 K, .str C, .bool true, .arr 2 0 i]])), (2, some (2, (vs.map eVl).take i))]) (fun i => (i : Int) ≤ n) (fun i => n.toNat - i) (0) (fun i => by simp; rfl) (by simp [hK, hC]) ?_ ?_
        · simpa using h0
        rintro i hi
        have w1 : (i + 1) * 16 ≤ 140737488355328 := by omega
        have w2 : i ≤ 1099511627775 := by omega
        refine W_rseqK [0, 4, 5, 13, 14, 15] (jh hX (by simp [w1, w2, hd]; rfl)) ?_
        refine W_seq (jd (fun h5 => ?_) (fun h5 => ?_))
        · try simp at h5
          have h3b : i < vs.length := by omega
          have hvi : zeroV d = vs[i] := (hvg i h3b).symm
          obtain ⟨Y, hY⟩ : ∃ Y, Y = (vs.map eVl).take i := ⟨_, rfl⟩
          rw [← hY]
          have hYl : Y.length = i := by rw [hY]; simp; omega
          have hYt : Y.take i = Y := List.take_of_length_le (by omega)
          have hnext : (vs.map eVl).take (i + 1) = Y ++ [eVl vs[i]] := by
            rw [hY, List.take_succ_eq_append_getElem (by simpa using h3b), List.getElem_map]
          have hYj : ∀ p, jkL p Y = Y := fun p => by rw [hY, ← List.map_take]; exact jkL_eVl p _
          first | have hvk : zeroV [73] = vs[i] := (by rw [← hd]; exact hvi) | have hvk := trivial
          refine W_skip (W_seq (W_block (jVr 5 (.pur 0 (.pur 2 (.two 1 3 (.one 3 (.one 4 .tail)) (.two 1 4 (.one 4 .tail) (.one 1 .tail))))) hX (jVp (by simp [w1, w2, h5, hYl, hYt, hYj, hvi, hvk, hd]; rfl) (jVp (by simp [w1, w2, h5, hYl, hYt, hYj, hvi, hvk, hd]; rfl) (jVt (jVo (p:=fun X hX => (jh hX (by simp [w1, w2, h5, hYl, hYt, hYj, hvi, hvk, hd]; rfl))) (k:=(jVo (p:=fun X hX => (Runs.call [] rfl (by simp) rfl (by simp [hd]; rfl) (by simp; rfl) (by apply ct_impl_zeroOf <;> first | assumption | omega) cb_impl_zeroOf (by simp) (by simp) (by simp [hd]; rfl) jf)) (k:=(jVo (p:=fun X hX => (jh hX (by simp [w1, w2, h5, hYl, hYt, hYj, hvi, hvk, hd]; rfl))) (k:=.tail)))))) (jVo (p:=fun X hX => (Runs.call [] rfl (by simp) rfl (by simp [hd]; try rfl) (by simp; try rfl) (by apply ct_impl_zeroOf <;> first | assumption | omega) cb_impl_zeroOf (by simp) (by simp) (by simp [hd]; try rfl) jf)) (k:=(jVt (jVo (p:=fun X hX => (jh hX (by simp [w1, w2, h5, hYl, hYt, hYj, hvi, hvk, hd]; try rfl))) (k:=(jVo (p:=fun X hX => (jh hX (by simp [w1, w2, h5, hYl, hYt, hYj, hvi, hvk, hd]; try rfl))) (k:=.tail)))) (jVo (p:=fun X hX => (jh hX (by simp [w1, w2, h5, hYl, hYt, hYj, hvi, hvk, hd]; try rfl))) (k:=(jVo (p:=fun X hX => (jh hX (by simp [w1, w2, h5, hYl, hYt, hYj, hvi, hvk, hd]; try rfl))) (k:=.tail)))))))))) (jh hX (by simp [w1, w2, h5, hYl, hYt, hYj, hvi, hvk, hd]; rfl)) ?_)))
          refine W_reg (jh hX (by simp [w1, w2, h5, hYl, hYt, hYj, hvi, hvk, hd]; (try (simp (disch := omega) only [wrap_i64]; (try simp [w1, w2, h5, hYl, hYt, hYj, hvi, hvk, hd]))); rfl)) ?_
          refine round_endT (i + 1) [0, 4, 5, 13, 14] 3 (by simp [hX]) (by simp) (by simp [hnext, hYj]; try (simp (disch := omega) only [wrap_i64])) ?_ ?_
          · omega
          · omega
        · try simp at h5
          have hin : i = vs.length := by omega
          subst hin
          rw [List.take_of_length_le (by simp)]
          refine W_exit (W_rseqK [4] (jh hX (by simp [w1, w2, h5, hd]; rfl)) ?_)
          refine W_ret (je (by simp [w1, w2, h5, hd]; rfl) ?_)
          rw [hO]; rfl
end Go.Proofs
namespace Go.Proofs
open Go Go.Ev


theorem cb_impl_HeapList : Callable Tryz.prog 24 := ⟨_, Tryz.func24, by kernel_rfl, by kernel_rfl⟩
theorem ct_impl_HeapList {l : List Cls} (hl : l.length ≤ 1048576) (hs : sizeL l ≤ 1048576) {h : Hep} (ho : sizeHp h ≤ 1048576) {d : Str} (hd : d.length ≤ 1099511627776) {n : Int} : Ct Tryz.prog 24 [.lst false 6 (l.map eC), eHp h, .str d, .int .i64 n] [] (oHo (listW l h d n)) [] := by
  rcases hpOf_split l h [d] with ⟨hV, hW⟩ | ⟨hV, hW, hR⟩ | ⟨hV, hW, hR⟩
  all_goals try have hRW := right_world hR
  all_goals try have hL9 := right_len hRW.1
  all_goals try have hH := hpR_len hRW.2
  all_goals have hol : h.objs.length ≤ 1048576 := by unfold sizeHp at ho; omega
  all_goals
    refine Ct_bodyS tok Tryz.func24 rfl 76 (by kernel_rfl) (by kernel_rfl) fun X hX => ?_
    refine W_rseqK [0, 2, 3, 5, 8] (jh hX (by simp [hV, nilP]; rfl)) ?_
    refine W_rseqK [2, 3, 8, 9, 10, 11] (js hX 4 (by simp [hV, nilP]; rfl) (Runs.call [2] rfl (by simp) rfl (by simp [hV, nilP]; rfl) (by simp; rfl) (by apply ct_impl_heapOf <;> first | assumption | omega | exact hRW.1) cb_impl_heapOf (by simp) (by simp) (by simp [hV, nilP]; rfl) (jh hX (by simp [hV, nilP]; rfl)))) ?_
    refine W_rseqK [2, 3, 8, 9, 10, 11, 12] (js hX 3 (by simp [hV, nilP]; rfl) (jm 8 25 [2, 3, 8, 9, 10, 11, 33] (p:=fun b2_3 => by (try simp at b2_3); exact (jh hX (by simp [-atD_lt, -atL_lt, hV, nilP]; rfl))) (q:=fun b2_3 => by (try simp at b2_3); exact (js hX 1 (by simp [-atD_lt, -atL_lt, hV, nilP]; rfl) (Runs.call [] rfl (by simp) rfl (by simp [-atD_lt, -atL_lt, hV, nilP]; rfl) (by simp; rfl) (by apply ct_impl_typeRight <;> first | assumption | omega | exact hRW.1) cb_impl_typeRight (by simp) (by simp) (by simp [-atD_lt, -atL_lt, hV, nilP]; rfl) (js hX 1 (by simp [-atD_lt, -atL_lt, hV, nilP]; rfl) (jm 4 28 [2, 3, 8, 9, 10, 11, 25, 32] (p:=fun b2_6 => by (try simp at b2_6); (have hlt := (len_of_typeRight b2_6).1; have hat := isAt_lt (n := 76) hlt); exact (jh hX (by simp [-atD_lt, -atL_lt, hlt, hV, nilP]; rfl))) (q:=fun b2_6 => by (try simp at b2_6); exact (jh hX (by simp [-atD_lt, -atL_lt, hV, nilP]; rfl))) (k:=(jh hX (by simp [-atD_lt, -atL_lt, hV, nilP]; rfl)))))))) (k:=(jh hX (by simp [hV, nilP]; rfl))))) ?_
    refine W_seq (W_block (W_rseqK [2, 3, 8, 9, 10, 11, 12, 34] (jh hX (by simp [hV, nilP]; rfl)) ?_))
    refine jd (fun h3 => ?_) (fun h3 => ?_)
    · try simp at h3
      all_goals
        refine W_rseqK [8] (jh hX (by simp [hV, nilP]; rfl)) ?_
        refine W_ret (W_retR (by simp [hV, nilP]; rfl) ?_ rfl)
        first
          | (rw [listW, if_pos (by simpa using hW)]; exact zHo_wk _)
          | (rw [listW, if_neg (by simpa using hW), if_neg (by simp [hR])]; exact zHo_wk _)
    · try simp at h3
      all_goals
        first | (refine W_rseqK [2, 3, 8, 10, 39] (jh hX (by simp [hV, nilP]; rfl)) ?_) | (refine W_rseqK [2, 3, 8, 10, 39] (js hX 6 (by simp [hV, nilP]; rfl) (jm 6 45 [2, 3, 8, 10, 42, 51] (p:=fun b5_6 => by (try simp at b5_6); exact (js hX 2 (by simp [-atD_lt, -atL_lt, hV, nilP]; rfl) (Runs.call [] rfl (by simp) rfl (by simp [-atD_lt, -atL_lt, hV, nilP]; rfl) (by simp; rfl) (by apply ct_impl_typeClass <;> first | assumption | omega | exact hRW.1) cb_impl_typeClass (by simp) (by simp) (by simp [-atD_lt, -atL_lt, hV, nilP]; rfl) (Runs.call [] rfl (by simp) rfl (by simp [-atD_lt, -atL_lt, hV, nilP]; rfl) (by simp; rfl) (by apply ct_impl_world_known <;> first | assumption | omega | exact hRW.1) cb_impl_world_known (by simp) (by simp) (by simp [-atD_lt, -atL_lt, hV, nilP]; rfl) (jh hX (by simp [-atD_lt, -atL_lt, hV, nilP]; rfl)))))) (q:=fun b5_6 => by (try simp at b5_6); exact (jh hX (by simp [-atD_lt, -atL_lt, hV, nilP]; rfl))) (k:=(jh hX (by simp [hV, nilP]; rfl))))) ?_) | (refine W_rseqK [2, 3, 8, 10, 39] (js hX 3 (by simp [hV, nilP]; rfl) (jm 10 42 [2, 3, 8, 10, 52] (p:=fun b5_3 => by (try simp at b5_3); exact (jh hX (by simp [-atD_lt, -atL_lt, hV, nilP]; rfl))) (q:=fun b5_3 => by (try simp at b5_3); exact (js hX 3 (by simp [-atD_lt, -atL_lt, hV, nilP]; rfl) (jm 6 45 [2, 3, 8, 10, 42, 51] (p:=fun b5_6 => by (try simp at b5_6); exact (js hX 2 (by simp [-atD_lt, -atL_lt, hV, nilP]; rfl) (Runs.call [] rfl (by simp) rfl (by simp [-atD_lt, -atL_lt, hV, nilP]; rfl) (by simp; rfl) (by apply ct_impl_typeClass <;> first | assumption | omega | exact hRW.1) cb_impl_typeClass (by simp) (by simp) (by simp [-atD_lt, -atL_lt, hV, nilP]; rfl) (Runs.call [] rfl (by simp) rfl (by simp [-atD_lt, -atL_lt, hV, nilP]; rfl) (by simp; rfl) (by apply ct_impl_world_known <;> first | assumption | omega | exact hRW.1) cb_impl_world_known (by simp) (by simp) (by simp [-atD_lt, -atL_lt, hV, nilP]; rfl) (jh hX (by simp [-atD_lt, -atL_lt, hV, nilP]; rfl)))))) (q:=fun b5_6 => by (try simp at b5_6); exact (jh hX (by simp [-atD_lt, -atL_lt, hV, nilP]; rfl))) (k:=(jh hX (by simp [-atD_lt, -atL_lt, hV, nilP]; rfl)))))) (k:=(jh hX (by simp [hV, nilP]; rfl))))) ?_)
        refine jd (fun h5 => ?_) (fun h5 => ?_)
        · try simp at h5
          all_goals
            have hcd : ¬ (hpRightW l h && (typeRight d && (!isAt d 0 91 && typeK l d))) = true := by
              rw [← list_cond, hR, Bool.true_and]
              have hat : typeRight d = true → isAt d 0 76 = decide ((atD d 0).toNat = 76) := fun e => by have hlt := (len_of_typeRight e).1; rw [isAt_lt hlt, atD_lt hlt]; simp
              (try simp at h5) <;> grind
            refine W_rseqK [8] (jh hX (by simp [hV, nilP]; rfl)) ?_
            refine W_ret (W_retR (by simp [hV, nilP]; rfl) ?_ rfl)
            rw [listW, if_neg (by simpa using hW), if_neg hcd]; exact zHo_wk _
        · try simp at h5
          all_goals
            have hcd : (hpRightW l h && (typeRight d && (!isAt d 0 91 && typeK l d))) = true := by
              rw [← list_cond, hR, Bool.true_and]
              have hat : typeRight d = true → isAt d 0 76 = decide ((atD d 0).toNat = 76) := fun e => by have hlt := (len_of_typeRight e).1; rw [isAt_lt hlt, atD_lt hlt]; simp
              (try simp at h5)
              by_cases h7 : d = [73]
              · simp [h7]
              · simp [h7, h5.1 h7, h5.2 h7, hat (h5.1 h7).1]
            refine W_rseqK [2, 3, 8, 10, 54] (js hX 1 (by simp [hV, nilP]; rfl) (Runs.call [] rfl (by simp) rfl (by simp [hV, nilP]; rfl) (by simp; rfl) (by apply ct_impl_within <;> first | assumption | omega | exact hRW.1) cb_impl_within (by simp) (by simp) (by simp [hV, nilP]; rfl) (jh hX (by simp [hV, nilP]; rfl)))) ?_
            refine jd (fun h7 => ?_) (fun h7 => ?_)
            · try simp at h7
              all_goals
                refine W_rseqK [8] (jh hX (by simp [hV, nilP]; rfl)) ?_
                refine W_ret (W_retR (by simp [hV, nilP]; rfl) ?_ rfl)
                rw [listW, if_neg (by simpa using hW), if_pos hcd, if_pos (by omega)]; exact zHo_wk _
            · try simp at h7
              all_goals
                refine W_rseqK [2, 3, 8, 10, 59] (jh hX (by simp [hV, nilP]; rfl)) ?_
                refine jd (fun h9 => ?_) (fun h9 => ?_)
                · try simp at h9
                  all_goals
                    refine W_rseqK [8] (jh hX (by simp [hV, nilP]; rfl)) ?_
                    refine W_ret (W_retR (by simp [hV, nilP]; rfl) ?_ rfl)
                    rw [listW, if_neg (by simpa using hW), if_pos hcd, if_neg (by omega), if_pos (by simpa using h9)]; exact zHo_wk _
                · try simp at h9
                  all_goals
                    refine W_skip (W_rseqK [8, 10, 13] (js hX 3 (by simp [hV, nilP]; rfl) (Runs.call [] rfl (by simp) rfl (by simp [hV, nilP]; rfl) (by simp; rfl) (by apply ct_impl_listOf <;> first | assumption | omega | exact hRW.1) cb_impl_listOf (by simp) (by simp) (by simp [hV, nilP]; rfl) (Runs.call [3, 4] rfl (by simp) rfl (by simp [hV, nilP]; rfl) (by simp; rfl) (by apply (ct_impl_Heap_add (h := h) (o := listO d n.toNat)) <;> first | assumption | omega | exact hRW.1) cb_impl_Heap_add (by simp) (by simp) (by simp [hV, nilP]; rfl) (jh hX (by simp [hV, nilP]; rfl))))) ?_)
                    refine W_le (Le.expose 3 0 0 (by simp [St.expose]; rfl)) ?_
                    refine jL 4 [0, 1, 2, 3] [] [8] ([3, 5]) hX (by simp [hV, nilP]; rfl) .nil (jh hX (by simp [hV, nilP]; rfl)) ?_
                    refine W_ret (W_retR (by simp [hV, nilP]; rfl) ?_ rfl)
                    rw [listW, if_neg (by simpa using hW), if_pos hcd, if_neg (by omega), if_neg (by simpa using h9)]
                    simp only [addO, oHo, List.map_append, List.map_cons, List.map_nil]
                    exact Wk.refl _
end Go.Proofs
namespace Go.Proofs
open Go Go.Ev


theorem cb_laws_FnExactHeapList : Callable Tryz.prog 5 := ⟨_, Tryz.func5, by kernel_rfl, by kernel_rfl⟩
theorem ct_laws_FnExactHeapList {l : List Cls} {p1 : Hep} {s2 : Str} {n3 : Int} (hl : l.length < 4611686018427387904) (bl : ∀ y ∈ l, bigC y) (hp1 : bigHp p1) (hs2 : s2.length < 4611686018427387904) (hn3 : -9223372036854775808 ≤ n3 ∧ n3 < 9223372036854775808) : Ct Tryz.prog 5 [.lst false 6 (l.map eC), eHp p1, .str s2, .int .i64 n3] [] (.bool true) [] := by
  refine Ct_bodyS tok Tryz.func5 rfl 105 (by kernel_rfl) (by kernel_rfl) fun X hX => ?_
  refine jq [0, 2, 3, 5] ?_
  refine W_seq (jq [0, 2, 3, 5, 20] ?_)
  refine jd (fun h1 => ?_) (fun h1 => ?_)
  · try simp at h1
    refine jq [8] ?_
    refine W_ret (je (by simp [h1]; rfl) ?_)
    first | omega | (simp_all; done) | (simp_all <;> omega)
  · try simp at h1
    refine W_skip (jq [0, 2, 3, 5, 9] ?_)
    refine W_rseqK [0, 2, 3, 5, 9] (jt 2 (k:=(jc [] (c:=(by apply ct_laws_szClassS <;> first | assumption | omega | exact bigHp_of hbH | exact hbg.1 | (simp <;> omega))) (a:=cb_laws_szClassS) (k:=jr)))) ?_
    refine W_seq (jq [0, 2, 3, 5, 9, 25] ?_)
    refine jd (fun h5 => ?_) (fun h5 => ?_)
    · try simp at h5
      refine jq [8] ?_
      refine W_ret (je (by simp [h1, h5]; rfl) ?_)
      first | omega | (simp_all; done) | (simp_all <;> omega)
    · try simp at h5
      have k5 := sub_ok h5
      have hsL : sizeL l ≤ 1048576 := by have := k5.1; unfold sizeL; omega
      refine W_skip (W_rseqK [0, 2, 3, 5, 9] (js hX 2 (by simp [h1, h5]; rfl) (jc [] (c:=(by apply ct_laws_szHeap <;> first | assumption | omega | exact bigHp_of hbH | exact hbg.1 | (simp <;> omega))) (a:=cb_laws_szHeap) (k:=jr))) ?_)
      refine W_seq (jq [0, 2, 3, 5, 30] ?_)
      refine jd (fun h8 => ?_) (fun h8 => ?_)
      · try simp at h8
        refine jq [8] ?_
        refine W_ret (je (by simp [h1, h5, h8]; rfl) ?_)
        first | omega | (simp_all; done) | (simp_all <;> omega)
      · try simp at h8
        have k8 := sub_ok h8
        have hbH : sizeHp p1 ≤ 1048576 := by have := k8.1; omega
        have hc : cntCs l ≤ 7340032 := by have := cntCs_size l; omega
        have hco := cntOs_hp hbH
        have hbg := listW_big (l := l) (d := s2) (n := n3) hbH (by omega)
        refine W_skip (jK 8 [0, 2, 4, 5] (.two 1 7 (.two 3 7 (.two 6 7 (.one 7 .tail) (.one 6 .tail)) (.one 3 (.one 6 .tail))) (.one 1 (.one 3 (.one 6 .tail)))) [0, 2, 3, 5, 10] ([0]) hX (by simp [h1, h5, h8]; rfl) (.two (jN (p:=fun X hX => (jF (c:=(by apply ct_laws_toClassS <;> first | assumption | omega | exact fun y hy => Nat.le_trans (mem_sum hy) (by omega))) (a:=cb_laws_toClassS) (k:=jf))) (k:=(.two (jN (p:=fun X hX => (jF (c:=(by apply ct_laws_toHeap <;> first | assumption | omega | exact fun y hy => Nat.le_trans (mem_sum hy) (by omega))) (a:=cb_laws_toHeap) (k:=jf))) (k:=(.two (jN (p:=fun X hX => (jF (c:=(by apply ct_spec_HeapList <;> first | assumption | omega | exact bigHp_of hbH | exact hbg.1 | (simp <;> omega))) (a:=cb_spec_HeapList) (k:=jf))) (k:=(jN (p:=fun X hX => jr) (k:=.tail)))) (jN (p:=fun X hX => jr) (k:=(jN (p:=fun X hX => (jF (c:=(by apply ct_spec_HeapList <;> first | assumption | omega | exact bigHp_of hbH | exact hbg.1 | (simp <;> omega))) (a:=cb_spec_HeapList) (k:=jf))) (k:=.tail))))))) (jN (p:=fun X hX => jr) (k:=(jN (p:=fun X hX => (jF (c:=(by apply ct_laws_toHeap <;> first | assumption | omega | exact fun y hy => Nat.le_trans (mem_sum hy) (by omega))) (a:=cb_laws_toHeap) (k:=jf))) (k:=(jN (p:=fun X hX => (jF (c:=(by apply ct_spec_HeapList <;> first | assumption | omega | exact bigHp_of hbH | exact hbg.1 | (simp <;> omega))) (a:=cb_spec_HeapList) (k:=jf))) (k:=.tail))))))))) (jN (p:=fun X hX => jr) (k:=(jN (p:=fun X hX => (jF (c:=(by apply ct_laws_toClassS <;> first | assumption | omega | exact fun y hy => Nat.le_trans (mem_sum hy) (by omega))) (a:=cb_laws_toClassS) (k:=jf))) (k:=(jN (p:=fun X hX => (jF (c:=(by apply ct_laws_toHeap <;> first | assumption | omega | exact fun y hy => Nat.le_trans (mem_sum hy) (by omega))) (a:=cb_laws_toHeap) (k:=jf))) (k:=(jN (p:=fun X hX => (jF (c:=(by apply ct_spec_HeapList <;> first | assumption | omega | exact bigHp_of hbH | exact hbg.1 | (simp <;> omega))) (a:=cb_spec_HeapList) (k:=jf))) (k:=.tail))))))))) (jh hX (by simp [h1, h5, h8]; rfl)) ?_)
        refine W_rseqK [0, 2, 3, 5, 10, 11] (jt 1 (k:=(jc [] (c:=(by apply ct_laws_toClassS <;> first | assumption | omega | exact fun y hy => Nat.le_trans (mem_sum hy) (by omega))) (a:=cb_laws_toClassS) (k:=jr)))) ?_
        refine W_rseqK [0, 2, 3, 5, 10, 11, 12] (js hX 1 (by simp [h1, h5, h8]; rfl) (jc [] (c:=(by apply ct_laws_toHeap <;> first | assumption | omega | exact fun y hy => Nat.le_trans (mem_sum hy) (by omega))) (a:=cb_laws_toHeap) (k:=(jh hX (by simp [h1, h5, h8]; rfl))))) ?_
        refine W_rseqK [0, 2, 3, 5, 10, 11, 12, 13] (js hX 4 (by simp [h1, h5, h8]; rfl) (jB (c:=(by apply ct_impl_HeapList <;> first | assumption | omega | exact bigHp_of hbH | exact hbg.1 | (simp <;> omega))) (a:=cb_impl_HeapList) (k:=(jh hX (by simp [h1, h5, h8]; rfl))))) ?_
        refine W_seq (W_rseqK [0, 2, 3, 5, 10, 11, 12, 13, 50] (js hX 2 (by simp [h1, h5, h8]; rfl) (jB (c:=(by apply ct_laws_eqHeapOut <;> first | assumption | omega | exact bigHp_of hbH | exact hbg.1 | (simp <;> omega))) (a:=cb_laws_eqHeapOut) (k:=jr))) ?_)
        refine jd (fun h14 => ?_) (fun h14 => ?_)
        · try simp at h14
          all_goals
            refine jq [8] ?_
            refine W_ret (je (by simp [h1, h5, h8]; rfl) ?_)
            first | omega | (simp_all; done) | (simp_all <;> omega)
        · try simp at h14
          all_goals
            refine W_skip (W_seq (W_rseqK [0, 2, 3, 5, 10, 11, 12, 13, 55] (jt 2 (k:=(jF (c:=(by apply ct_laws_toClassS <;> first | assumption | omega | exact fun y hy => Nat.le_trans (mem_sum hy) (by omega))) (a:=cb_laws_toClassS) (k:=(jB (c:=(by apply ct_laws_eqClassS <;> first | assumption | omega | exact bigHp_of hbH | exact hbg.1 | (simp <;> omega))) (a:=cb_laws_eqClassS) (k:=jr)))))) ?_))
            refine jd (fun h16 => ?_) (fun h16 => ?_)
            · try simp at h16
              all_goals
                refine jq [8] ?_
                refine W_ret (je (by simp [h1, h5, h8]; rfl) ?_)
                first | omega | (simp_all; done) | (simp_all <;> omega)
            · try simp at h16
              all_goals
                refine W_skip (W_seq (jL 3 [0, 1] [2] [0, 2, 3, 5, 10, 11, 12, 13, 60] ([0, 4]) hX (by simp [h1, h5, h8]; rfl) (jH (p:=fun X hX => (jF (c:=(by apply ct_laws_toHeap <;> first | assumption | omega | exact fun y hy => Nat.le_trans (mem_sum hy) (by omega))) (a:=cb_laws_toHeap) (k:=jf))) (k:=.nil)) (jB (c:=(by apply ct_laws_eqHeap <;> first | assumption | omega | exact bigHp_of hbH | exact hbg.1 | (simp <;> omega))) (a:=cb_laws_eqHeap) (k:=jr)) ?_))
                refine jd (fun h18 => ?_) (fun h18 => ?_)
                · try simp at h18
                  all_goals
                    refine jq [8] ?_
                    refine W_ret (je (by simp [h1, h5, h8]; rfl) ?_)
                    first | omega | (simp_all; done) | (simp_all <;> omega)
                · try simp at h18
                  all_goals
                    refine W_skip (jq [0, 2, 3, 5, 10, 11, 12, 13, 14] ?_)
                    refine W_rseqK [0, 2, 3, 5, 10, 12, 13, 14] (jt 2 (k:=(jc [2] (c:=(by (try simp only [mapL_T, mapL_F, mapL_I, mapL_H, mapL_M, mapL_C, mapL_Vl, mapL_Ob]); apply ct_laws_markClassS (k := 1) <;> first | assumption | omega | exact bigHp_of hbH | exact hbg.1 | (simp <;> omega))) (a:=cb_laws_markClassS) (k:=jr)))) ?_
                    refine W_rseqK [0, 2, 3, 5, 10, 13, 14] (js hX 2 (by simp [h1, h5, h8]; rfl) (jc [3] (c:=(by (try simp only [mapL_T, mapL_F, mapL_I, mapL_H, mapL_M, mapL_C, mapL_Vl, mapL_Ob]); apply ct_laws_markHeap (k := 1 + cntCs l) <;> first | assumption | omega | exact bigHp_of hbH | exact hbg.1 | (simp <;> omega))) (a:=cb_laws_markHeap) (k:=jr))) ?_
                    refine W_seq ?_
                    first | (refine W_rseqK [0, 2, 3, 5, 10, 13, 74] (js hX 5 (by simp [h1, h5, h8]; rfl) (jB (c:=(by apply ct_laws_eqHeapOut <;> first | assumption | omega | exact bigHp_of hbH | exact hbg.1 | (simp <;> omega))) (a:=cb_laws_eqHeapOut) (k:=jr))) ?_)
                    refine jd (fun h23 => ?_) (fun h23 => ?_)
                    · try simp at h23
                      all_goals
                        refine jq [8] ?_
                        refine W_ret (je (by simp [h1, h5, h8, h23]; rfl) ?_)
                        first | omega | (simp_all; done) | (simp_all <;> omega)
                    · try simp at h23
                      all_goals
                        refine W_skip (jq [0, 2, 3, 5, 10, 13, 15] ?_)
                        refine W_rseqK [0, 2, 3, 5, 10, 13, 15] (js hX 2 (by simp [h1, h5, h8, h23]; rfl) (jc [5] (c:=(by (try simp only [mapL_T, mapL_F, mapL_I, mapL_H, mapL_M, mapL_C, mapL_Vl, mapL_Ob]); apply ct_laws_markHeapOut (k := 1) <;> first | assumption | omega | exact bigHp_of hbH | exact hbg.1 | (simp <;> omega))) (a:=cb_laws_markHeapOut) (k:=jr))) ?_
                        refine jq [0, 2, 3, 5, 10, 13, 15, 16] ?_
                        refine W_rseqK [0, 2, 3, 5, 10, 13, 15, 16] (js hX 2 (by simp [h1, h5, h8, h23]; rfl) (jB (c:=(by apply ct_laws_heldHeapOut (k := 1) <;> first | assumption | omega | exact bigHp_of hbH | exact hbg.1 | (simp <;> omega))) (a:=cb_laws_heldHeapOut) (k:=jr))) ?_
                        refine W_seq (jq [0, 2, 3, 5, 10, 13, 15, 16, 82] ?_)
                        refine jd (fun h29 => ?_) (fun h29 => ?_)
                        · try simp at h29
                          all_goals
                            refine jq [8] ?_
                            refine W_ret (je (by simp [h1, h5, h8, h23, h29]; rfl) ?_)
                            first | omega | (simp_all; done) | (simp_all <;> omega)
                        · try simp at h29
                          all_goals
                            refine W_skip (W_seq (jq [0, 2, 3, 5, 10, 13, 15, 85] ?_))
                            refine jd (fun h31 => ?_) (fun h31 => ?_)
                            · try simp at h31
                              all_goals
                                refine jq [8] ?_
                                refine W_ret (je (by simp [h1, h5, h8, h23, h29]; rfl) ?_)
                                first | omega | (simp_all; done) | (simp_all <;> omega)
                            · try simp at h31
                              all_goals
                                refine W_skip (jK 8 [0, 2, 4, 5] (.two 1 7 (.two 3 7 (.two 6 7 (.one 7 .tail) (.one 6 .tail)) (.one 3 (.one 6 .tail))) (.one 1 (.one 3 (.one 6 .tail)))) [10, 13, 15, 17] ([0]) hX (by simp [h1, h5, h8, h23, h29]; rfl) (.two (jN (p:=fun X hX => (jF (c:=(by apply ct_laws_toClassS <;> first | assumption | omega | exact fun y hy => Nat.le_trans (mem_sum hy) (by omega))) (a:=cb_laws_toClassS) (k:=jf))) (k:=(.two (jN (p:=fun X hX => (jF (c:=(by apply ct_laws_toHeap <;> first | assumption | omega | exact fun y hy => Nat.le_trans (mem_sum hy) (by omega))) (a:=cb_laws_toHeap) (k:=jf))) (k:=(.two (jN (p:=fun X hX => (jF (c:=(by apply ct_impl_HeapList <;> first | assumption | omega | exact bigHp_of hbH | exact hbg.1 | (simp <;> omega))) (a:=cb_impl_HeapList) (k:=jf))) (k:=(jN (p:=fun X hX => jr) (k:=.tail)))) (jN (p:=fun X hX => jr) (k:=(jN (p:=fun X hX => (jF (c:=(by apply ct_impl_HeapList <;> first | assumption | omega | exact bigHp_of hbH | exact hbg.1 | (simp <;> omega))) (a:=cb_impl_HeapList) (k:=jf))) (k:=.tail))))))) (jN (p:=fun X hX => jr) (k:=(jN (p:=fun X hX => (jF (c:=(by apply ct_laws_toHeap <;> first | assumption | omega | exact fun y hy => Nat.le_trans (mem_sum hy) (by omega))) (a:=cb_laws_toHeap) (k:=jf))) (k:=(jN (p:=fun X hX => (jF (c:=(by apply ct_impl_HeapList <;> first | assumption | omega | exact bigHp_of hbH | exact hbg.1 | (simp <;> omega))) (a:=cb_impl_HeapList) (k:=jf))) (k:=.tail))))))))) (jN (p:=fun X hX => jr) (k:=(jN (p:=fun X hX => (jF (c:=(by apply ct_laws_toClassS <;> first | assumption | omega | exact fun y hy => Nat.le_trans (mem_sum hy) (by omega))) (a:=cb_laws_toClassS) (k:=jf))) (k:=(jN (p:=fun X hX => (jF (c:=(by apply ct_laws_toHeap <;> first | assumption | omega | exact fun y hy => Nat.le_trans (mem_sum hy) (by omega))) (a:=cb_laws_toHeap) (k:=jf))) (k:=(jN (p:=fun X hX => (jF (c:=(by apply ct_impl_HeapList <;> first | assumption | omega | exact bigHp_of hbH | exact hbg.1 | (simp <;> omega))) (a:=cb_impl_HeapList) (k:=jf))) (k:=.tail))))))))) (jh hX (by simp [h1, h5, h8, h23, h29]; rfl)) ?_)
                                refine W_seq (W_rseqK [13, 15, 96] (js hX 2 (by simp [h1, h5, h8, h23, h29]; rfl) (jB (c:=(by apply ct_laws_eqHeapOut <;> first | assumption | omega | exact bigHp_of hbH | exact hbg.1 | (simp <;> omega))) (a:=cb_laws_eqHeapOut) (k:=jr))) ?_)
                                refine jd (fun h34 => ?_) (fun h34 => ?_)
                                · try simp at h34
                                  all_goals
                                    refine jq [8] ?_
                                    refine W_ret (je (by simp [h1, h5, h8, h23, h29]; rfl) ?_)
                                    first | omega | (simp_all; done) | (simp_all <;> omega)
                                · try simp at h34
                                  all_goals
                                    refine W_skip (jq [13, 15, 16] ?_)
                                    refine W_rseqK [15, 16] (js hX 2 (by simp [h1, h5, h8, h23, h29]; rfl) (jB (c:=(by apply ct_laws_heldHeapOut (k := 1) <;> first | assumption | omega | exact bigHp_of hbH | exact hbg.1 | (simp <;> omega))) (a:=cb_laws_heldHeapOut) (k:=jr))) ?_
                                    refine W_seq (jq [15, 16, 101] ?_)
                                    refine jd (fun h38 => ?_) (fun h38 => ?_)
                                    · try simp at h38
                                      all_goals
                                        refine jq [8] ?_
                                        refine W_ret (je (by simp [h1, h5, h8, h23, h29, h38]; rfl) ?_)
                                        first | omega | (simp_all; done) | (simp_all <;> omega)
                                    · try simp at h38
                                      all_goals
                                        refine W_skip (W_seq (jq [104] ?_))
                                        refine jd (fun h40 => ?_) (fun h40 => ?_)
                                        · try simp at h40
                                          all_goals
                                            refine jq [8] ?_
                                            refine W_ret (je (by simp [h1, h5, h8, h23, h29, h38]; rfl) ?_)
                                            first | omega | (simp_all; done) | (simp_all <;> omega)
                                        · try simp at h40
                                          all_goals
                                            refine W_skip (jq [8] ?_)
                                            refine W_ret (je (by simp [h1, h5, h8, h23, h29, h38]; rfl) ?_)
                                            first | omega | (simp_all; done) | (simp_all <;> omega)
end Go.Proofs
