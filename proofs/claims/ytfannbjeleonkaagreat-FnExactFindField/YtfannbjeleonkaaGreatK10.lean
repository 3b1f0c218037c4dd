/- Part 11 of what the proofs lean on: what the functions of the program and of the reference compute. Conditions: none. -/
import Derived.Test.YtfannbjeleonkaaGreatK09
set_option linter.all false
set_option linter.unusedVariables false
set_option linter.unusedSimpArgs false
set_option maxHeartbeats 2000000
set_option maxRecDepth 100000
namespace Go.Proofs
open Go Go.Ev


theorem cb_impl_world_findField : Callable Tryz.prog 83 := ⟨_, Tryz.func83, by kernel_rfl, by kernel_rfl⟩
theorem ct_impl_world_findField {l : List Cls} (hl : l.length ≤ 1000) (hs : sizeL l ≤ 1048576) (hw : rightW l = true) {c n t : Str} : Ct Tryz.prog 83 [wv l, .str c, .str n, .str t] [] (.tup [eFd (ffL l n t (chain l c)).1, eF (ffL l n t (chain l c)).2]) [] := by
  have hcl := chain_len l c
  have hsz : ∀ x, (clsOf l x).fields.length ≤ 1048576 := fun x => by
    have := Nat.le_trans (clsOf_size (l := l) (n := x)) hs
    simp only [sizeC] at this; omega
  refine Ct_bodyS tok Tryz.func83 rfl 62 (by kernel_rfl) (by kernel_rfl) fun X hX => ?_
  refine jq [0, 1, 2, 3, 8, 9] ?_
  refine W_seq (W_rseqK [0, 2, 3, 8, 9, 17, 18, 19] (jt 2 (k:=(jF (c:=(by apply ct_impl_world_chain <;> first | assumption | omega | exact Nat.le_trans (hsz _) (by omega))) (a:=cb_impl_world_chain) (k:=jr)))) ?_)
  refine W_block (W_loopU (α := Nat) [0, 2, 3, 8, 9, 17, 18, 19] (fun i => [(19, .int .i64 i)]) (fun i => []) (fun i => i ≤ (chain l c).length ∧ ffL l n t ((chain l c).drop i) = ffL l n t (chain l c)) (fun i => (chain l c).length - i) (0) (fun i => by simp; rfl) (by simp) ?_ ?_)
  · simp
  rintro i ⟨hi, hI⟩
  refine jq [0, 2, 3, 8, 9, 17, 18, 19, 20] ?_
  refine W_seq (jd (fun h2 => ?_) (fun h2 => ?_))
  · try simp at h2
    rw [List.drop_eq_getElem_cons h2] at hI
    simp only [ffL] at hI
    refine W_skip (W_seq (W_block (W_rseqK [0, 2, 3, 8, 9, 11, 17, 18, 19] (jh hX (by simp [h2]; rfl)) ?_)))
    refine W_rseqK [0, 2, 3, 8, 9, 11, 12, 17, 18, 19] (jt 2 (k:=(jF (c:=(by apply ct_impl_world_class <;> first | assumption | omega | exact Nat.le_trans (hsz _) (by omega))) (a:=cb_impl_world_class) (k:=(jh hX (by simp [h2]; rfl)))))) ?_
    refine W_rseqK [0, 2, 3, 8, 9, 11, 12, 14, 17, 18, 19] (js hX 2 (by simp [h2]; rfl) (jc [] (c:=(by apply ct_impl_Class_fieldAt <;> first | assumption | omega | exact Nat.le_trans (hsz _) (by omega))) (a:=cb_impl_Class_fieldAt) (k:=jr))) ?_
    refine W_rseqK [0, 2, 3, 8, 9, 11, 12, 14, 17, 18, 19, 43] (jt 3 (k:=(jm 9 34 [0, 2, 3, 8, 9, 11, 12, 14, 17, 18, 19, 43] (p:=fun b6_3 => by (try simp at b6_3); (have hlt := (fix_lt (p := fun f : Fld => decide (f.name = n)) (l := (clsOf l (chain l c)[i]).fields)).2); exact (jh hX (by simp [-atD_lt, -atL_lt, h2, b6_3, hlt]; rfl))) (q:=fun b6_3 => by (try simp at b6_3); exact (jh hX (by simp [-atD_lt, -atL_lt]; rfl))) (k:=jf)))) ?_
    refine jd (fun h6 => ?_) (fun h6 => ?_)
    · try simp at h6
      have hx := (fix_ndt (uni_of hw (chain l c)[i]) n t).1 (by simpa using h6)
      rw [if_pos hx] at hI
      obtain ⟨k, hk, j, hj, e1, e2, e3, e4, e5⟩ := ff_hit hw hx
      rw [e5, e4, e2] at hI
      simp only [Int.toNat_natCast, atL_lt hj] at hI
      rw [e3, e2, ← e1]
      refine jL 16 [0, 1, 2, 3, 4, 5, 6, 7, 10, 11, 12, 13, 14] [8, 9, 15] [8, 9] ([2]) hX (by simp [h2, h6, hk, hj]; rfl) (jH (p:=fun X hX => (jc [] (c:=(by apply ct_impl_world_placeOf <;> first | assumption | omega | exact Nat.le_trans (hsz _) (by omega))) (a:=cb_impl_world_placeOf) (k:=jf))) (k:=(jH (p:=fun X hX => jr) (k:=(jH (p:=fun X hX => (jh hX (by simp [h2, h6, hk, hj]; rfl))) (k:=.nil)))))) (jh hX (by simp [h2, h6, hk, hj]; rfl)) ?_
      refine W_ret (je (by simp [h2, h6, hk, hj]; rfl) ?_)
      rw [← hI, ← e1]; rfl
    · try simp at h6
      have hx : ¬ 0 ≤ fix (ndt n t) (clsOf l (chain l c)[i]).fields := fun hx => by
        obtain ⟨y1, y2⟩ := (fix_ndt (uni_of hw (chain l c)[i]) n t).2 hx
        exact h6 y1 y2
      rw [if_neg hx] at hI
      refine W_skip (W_reg (jh hX (by simp; (try (simp (disch := omega) only [wrap_i64]; (try simp))); rfl)) ?_)
      refine round_endT (i + 1) [0, 2, 3, 8, 9, 17, 18, 19] 2 (by simp [hX]) (by simp) (by simp [h2, h6]; try (simp (disch := omega) only [wrap_i64])) ?_ ?_
      · exact ⟨by omega, hI⟩
      · omega
  · try simp at h2
    rw [List.drop_eq_nil_of_le h2] at hI
    simp only [ffL] at hI
    rw [← hI]
    refine W_exit (W_rseqK [8, 9] (jh hX (by simp [h2]; rfl)) ?_)
    refine W_ret (je (by simp [h2]; rfl) ?_)
    rfl
end Go.Proofs
namespace Go.Proofs
open Go Go.Ev


theorem cb_impl_FindField : Callable Tryz.prog 33 := ⟨_, Tryz.func33, by kernel_rfl, by kernel_rfl⟩
theorem ct_impl_FindField {l : List Cls} (hl : l.length ≤ 1048576) (hs : sizeL l ≤ 1048576) {c n t : Str} (hc : c.length ≤ 1099511627776) (hn : n.length ≤ 1099511627776) (ht : t.length ≤ 1099511627776) : Ct Tryz.prog 33 [.lst false 6 (l.map eC), .str c, .str n, .str t] [] (eFd (ffW l c n t)) [] := by
  refine Ct_bodyS tok Tryz.func33 rfl 42 (by kernel_rfl) (by kernel_rfl) fun X hX => ?_
  refine jq [0, 1, 2, 3, 8] ?_
  refine W_seq (W_rseqK [0, 1, 2, 3, 8, 23] (jt 1 (k:=(jc [] (c:=(by apply ct_impl_isList_impl_Class <;> first | assumption | omega | (have h9 := right_len (l := l) (by simp_all); omega))) (a:=cb_impl_isList_impl_Class) (k:=(jt 2 (k:=(jm 7 16 [0, 1, 2, 3, 8, 23] (p:=fun b1_4 => by (try simp at b1_4); exact (jh hX (by simp [-atD_lt, -atL_lt]; rfl))) (q:=fun b1_4 => by (try simp at b1_4); exact (js hX 4 (by simp [-atD_lt, -atL_lt]; rfl) (Runs.callB rfl (by simp) rfl (by simp [-atD_lt, -atL_lt]; rfl) (by apply (ct_impl_isText (l := [c, n, t])) <;> simp) cb_impl_isText (by simp) (by simp [-atD_lt, -atL_lt]; rfl) (jh hX (by simp [-atD_lt, -atL_lt]; rfl))))) (k:=jf)))))))) ?_)
  refine jd (fun h1 => ?_) (fun h1 => ?_)
  · try simp at h1
    refine jq [8] ?_
    refine W_ret (je0 ?_)
    simp only [ffW, szFd, zFd]
    (try simp_all) <;> grind
  · try simp at h1
    refine W_skip (W_rseqK [1, 2, 3, 8, 9, 10] (jt 1 (k:=(jc [] (c:=(by apply ct_impl_rightWorld <;> first | assumption | omega | (have h9 := right_len (l := l) (by simp_all); omega))) (a:=cb_impl_rightWorld) (k:=jr)))) ?_)
    refine W_seq (jq [1, 2, 3, 8, 9, 31] ?_)
    refine jd (fun h4 => ?_) (fun h4 => ?_)
    · try simp at h4
      refine jq [8] ?_
      refine W_ret (je0 ?_)
      simp only [ffW, szFd, zFd]
      (try simp_all) <;> grind
    · try simp at h4
      refine W_skip (W_rseqK [8, 11] (jt 4 (k:=(jF (c:=(by apply ct_impl_world_findField <;> first | assumption | omega | (have h9 := right_len (l := l) (by simp_all); omega))) (a:=cb_impl_world_findField) (k:=jr)))) ?_)
      refine jq [8] ?_
      refine W_ret (je0 ?_)
      simp only [ffW, szFd, zFd]
      (try simp_all) <;> grind
end Go.Proofs
namespace Go.Proofs
open Go Go.Ev


theorem cb_laws_FnExactFindField : Callable Tryz.prog 7 := ⟨_, Tryz.func7, by kernel_rfl, by kernel_rfl⟩
theorem ct_laws_FnExactFindField {l : List Cls} {c : Str} {n : Str} {t : Str} (h : l.length < 4611686018427387904) (hb : ∀ y ∈ l, bigC y) (hc : c.length < 4611686018427387904) (hn : n.length < 4611686018427387904) (ht : t.length < 4611686018427387904) : Ct Tryz.prog 7 [.lst false 6 (l.map eC), .str c, .str n, .str t] [] (.bool true) [] := by
  refine Ct_bodyS tok Tryz.func7 rfl 49 (by kernel_rfl) (by kernel_rfl) fun X hX => ?_
  refine jq [0, 1, 2, 3] ?_
  refine W_seq (jq [0, 1, 2, 3, 15] ?_)
  refine jd (fun h1 => ?_) (fun h1 => ?_)
  · try simp at h1
    refine jq [8] ?_
    refine W_ret (je (by simp [h1]; rfl) ?_)
    simp_all
  · try simp at h1
    refine W_skip (W_seq (W_rseqK [0, 1, 2, 3, 18] (jh hX (by simp [h1]; rfl)) ?_))
    refine jd (fun h3 => ?_) (fun h3 => ?_)
    · try simp at h3
      refine jq [8] ?_
      refine W_ret (je (by simp [h1, h3]; rfl) ?_)
      simp_all
    · try simp at h3
      refine W_skip (W_seq (W_rseqK [0, 1, 2, 3, 21] (jh hX (by simp [h1, h3]; rfl)) ?_))
      refine jd (fun h5 => ?_) (fun h5 => ?_)
      · try simp at h5
        refine jq [8] ?_
        refine W_ret (je (by simp [h1, h3, h5]; rfl) ?_)
        simp_all
      · try simp at h5
        refine W_skip (jq [0, 1, 2, 3, 9] ?_)
        refine W_rseqK [0, 1, 2, 3, 9] (jt 2 (k:=(jc [] (c:=(by apply ct_laws_szClassS <;> first | assumption | omega)) (a:=cb_laws_szClassS) (k:=jr)))) ?_
        refine W_seq (jq [0, 1, 2, 3, 26] ?_)
        refine jd (fun h9 => ?_) (fun h9 => ?_)
        · try simp at h9
          refine jq [8] ?_
          refine W_ret (je (by simp [h1, h3, h5, h9]; rfl) ?_)
          simp_all
        · try simp at h9
          have hsz : l.length + (l.map sizeC).sum ≤ 1048576 := by unfold sub at h9; split at h9 <;> omega
          have hsL : sizeL l ≤ 1048576 := hsz
          refine W_skip (W_rseqK [0, 1, 2, 3, 10] (jt 1 (k:=(jF (c:=(by apply ct_laws_toClassS <;> first | assumption | omega | exact fun y hy => Nat.le_trans (mem_sum hy) (by omega))) (a:=cb_laws_toClassS) (k:=(jt 3 (k:=(jc [] (c:=(by apply ct_spec_FindField <;> first | assumption | omega)) (a:=cb_spec_FindField) (k:=(jh hX (by simp [h1, h3, h5, h9]; rfl)))))))))) ?_)
          refine W_rseqK [0, 1, 2, 3, 10, 11] (jt 1 (k:=(jF (c:=(by apply ct_laws_toClassS <;> first | assumption | omega | exact fun y hy => Nat.le_trans (mem_sum hy) (by omega))) (a:=cb_laws_toClassS) (k:=jr)))) ?_
          refine W_rseqK [0, 10, 11, 12] (jt 4 (k:=(jc [] (c:=(by apply ct_impl_FindField <;> first | assumption | omega)) (a:=cb_impl_FindField) (k:=(jh hX (by simp [h1, h3, h5, h9]; rfl)))))) ?_
          refine W_seq (W_rseqK [0, 11, 43] (js hX 2 (by simp [h1, h3, h5, h9]; rfl) (jc [] (c:=(by apply ct_laws_eqFound <;> first | assumption | omega)) (a:=cb_laws_eqFound) (k:=jr))) ?_)
          refine jd (fun h14 => ?_) (fun h14 => ?_)
          · try simp at h14
            all_goals
              refine jq [8] ?_
              refine W_ret (je (by simp [h1, h3, h5, h9]; rfl) ?_)
              simp_all
          · try simp at h14
            all_goals
              refine W_skip (W_seq (W_rseqK [48] (jt 2 (k:=(jF (c:=(by apply ct_laws_toClassS <;> first | assumption | omega | exact fun y hy => Nat.le_trans (mem_sum hy) (by omega))) (a:=cb_laws_toClassS) (k:=(jc [] (c:=(by apply ct_laws_eqClassS <;> first | assumption | omega)) (a:=cb_laws_eqClassS) (k:=jr)))))) ?_))
              refine jd (fun h16 => ?_) (fun h16 => ?_)
              · try simp at h16
                all_goals
                  refine jq [8] ?_
                  refine W_ret (je (by simp [h1, h3, h5, h9]; rfl) ?_)
                  simp_all
              · try simp at h16
                all_goals
                  refine W_skip (jq [8] ?_)
                  refine W_ret (je (by simp [h1, h3, h5, h9]; rfl) ?_)
                  simp_all
end Go.Proofs
