/- Part 9 of what the proofs lean on: what the functions of the program and of the reference compute. Conditions: none. -/
import Derived.Test.YtfannbjeleonkaaGreatK07
set_option linter.all false
set_option linter.unusedVariables false
set_option linter.unusedSimpArgs false
set_option maxHeartbeats 2000000
set_option maxRecDepth 100000
namespace Go.Proofs
open Go Go.Ev


theorem cb_spec_ClassRight : Callable Tryz.prog 162 := ⟨_, Tryz.func162, by kernel_rfl, by kernel_rfl⟩
theorem ct_spec_ClassRight {x : Cls} (h : sizeC x ≤ 1099511627776) : Ct Tryz.prog 162 [eC x] [] (.bool (clsRight x)) [] := by
  simp only [sizeC] at h
  refine Ct_bodyS tok Tryz.func162 rfl 137 (by kernel_rfl) (by kernel_rfl) fun X hX => ?_
  refine jq [1] ?_
  refine W_seq (W_rseqK [1, 44] (jt 2 (k:=(jc [] (c:=(by apply ct_spec_NameRight <;> first | assumption | omega | (have := mem_sum (f := sizeF) (List.getElem_mem h4); simp only [sizeF] at *; (try simp only [atL_lt h4]); omega) | (have := mem_sum (f := sizeM) (List.getElem_mem h14); omega))) (a:=cb_spec_NameRight) (k:=(jt 2 (k:=(jm 5 12 [1, 17] (p:=fun b1_5 => by (try simp at b1_5); exact (jh hX (by simp [-atD_lt, -atL_lt]; rfl))) (q:=fun b1_5 => by (try simp at b1_5); exact (js hX 2 (by simp [-atD_lt, -atL_lt]; rfl) (Runs.call [] rfl (by simp) rfl (by simp [-atD_lt, -atL_lt]; rfl) (by simp; rfl) (by apply ct_spec_NameRight <;> first | assumption | omega | (have := mem_sum (f := sizeF) (List.getElem_mem h4); simp only [sizeF] at *; (try simp only [atL_lt h4]); omega) | (have := mem_sum (f := sizeM) (List.getElem_mem h14); omega)) cb_spec_NameRight (by simp) (by simp) (by simp [-atD_lt, -atL_lt]; rfl) (jh hX (by simp [-atD_lt, -atL_lt]; rfl))))) (k:=(jt 1 (k:=(jm 6 18 [1, 24] (p:=fun b1_11 => by (try simp at b1_11); exact (jh hX (by simp [-atD_lt, -atL_lt]; rfl))) (q:=fun b1_11 => by (try simp at b1_11); exact (jh hX (by simp [-atD_lt, -atL_lt]; rfl))) (k:=(jt 1 (k:=(jm 7 25 [1, 32] (p:=fun b1_18 => by (try simp at b1_18); exact (jh hX (by simp [-atD_lt, -atL_lt]; rfl))) (q:=fun b1_18 => by (try simp at b1_18); exact (js hX 3 (by simp [-atD_lt, -atL_lt]; rfl) (jm 3 28 [1, 25, 31] (p:=fun b1_21 => by (try simp at b1_21); exact (jh hX (by simp [-atD_lt, -atL_lt]; rfl))) (q:=fun b1_21 => by (try simp at b1_21); exact (jh hX (by simp [-atD_lt, -atL_lt]; rfl))) (k:=(jh hX (by simp [-atD_lt, -atL_lt]; rfl)))))) (k:=(jt 1 (k:=(jm 5 33 [1, 38] (p:=fun b1_26 => by (try simp at b1_26); exact (jh hX (by simp [-atD_lt, -atL_lt]; rfl))) (q:=fun b1_26 => by (try simp at b1_26); exact (jh hX (by simp [-atD_lt, -atL_lt]; rfl))) (k:=(jt 1 (k:=(jm 5 39 [1, 44] (p:=fun b1_32 => by (try simp at b1_32); exact (jh hX (by simp [-atD_lt, -atL_lt]; rfl))) (q:=fun b1_32 => by (try simp at b1_32); exact (jh hX (by simp [-atD_lt, -atL_lt, b1_32]; rfl))) (k:=jf)))))))))))))))))))))))) ?_)
  refine jd (fun h1 => ?_) (fun h1 => ?_)
  · try simp at h1
    have hh : clsHead x = false := by unfold clsHead; grind
    refine jq [2] ?_
    refine W_ret (je (by simp [h1]; rfl) ?_)
    simp [clsRight, hh]
  · try simp at h1
    have hh : clsHead x = true := by unfold clsHead; grind
    rw [show clsRight x = (fldsR [] x.fields && mthsR x.abstr [] x.methods) from by simp [clsRight, hh]]
    refine W_skip (W_seq (jq [1, 3] ?_))
    refine W_block (W_loopU (α := Nat) [1, 3] (fun i => [(3, .int .i64 i)]) (fun i => []) (fun i => i ≤ x.fields.length ∧ fldsR (x.fields.take i) (x.fields.drop i) = fldsR [] x.fields) (fun i => x.fields.length - i) (0) (fun i => by simp; rfl) (by simp) ?_ ?_)
    · simp
    rintro i ⟨hi, hI⟩
    refine W_seq (W_rseqK [1, 3, 49] (jh hX (by simp [h1]; rfl)) ?_)
    refine jd (fun h4 => ?_) (fun h4 => ?_)
    · try simp at h4
      rw [List.drop_eq_getElem_cons h4] at hI
      simp only [fldsR] at hI
      refine W_skip (W_seq (W_block (W_seq (W_rseqK [1, 3, 69] (js hX 6 (by simp [h1, h4]; rfl) (jc [] (c:=(by apply ct_spec_NameRight <;> first | assumption | omega | (have := mem_sum (f := sizeF) (List.getElem_mem h4); simp only [sizeF] at *; (try simp only [atL_lt h4]); omega) | (have := mem_sum (f := sizeM) (List.getElem_mem h14); omega))) (a:=cb_spec_NameRight) (k:=(jt 2 (k:=(jm 9 60 [1, 3, 69] (p:=fun b6_9 => by (try simp at b6_9); exact (jh hX (by simp [-atD_lt, -atL_lt]; rfl))) (q:=fun b6_9 => by (try simp at b6_9); exact (js hX 6 (by simp [-atD_lt, -atL_lt, h1, h4]; rfl) (Runs.call [] rfl (by simp) rfl (by simp [-atD_lt, -atL_lt]; rfl) (by simp; rfl) (by apply ct_spec_TypeRight <;> first | assumption | omega | (have := mem_sum (f := sizeF) (List.getElem_mem h4); simp only [sizeF] at *; (try simp only [atL_lt h4]); omega) | (have := mem_sum (f := sizeM) (List.getElem_mem h14); omega)) cb_spec_TypeRight (by simp) (by simp) (by simp [-atD_lt, -atL_lt]; rfl) (jh hX (by simp [-atD_lt, -atL_lt]; rfl))))) (k:=jf))))))) ?_))))
      refine jd (fun h6 => ?_) (fun h6 => ?_)
      · try simp at h6
        refine jq [2] ?_
        refine W_ret (je (by simp [h1, h4]; rfl) ?_)
        have h6b : (nameRight x.fields[i].name && typeRight x.fields[i].type) = false := by simp only [atL_lt h4] at h6; grind
        simp [← hI, h6b]
      · try simp at h6
        have h6b : (nameRight x.fields[i].name && typeRight x.fields[i].type) = true := by simp only [atL_lt h4] at h6; grind
        refine W_skip (jq [1, 3, 4] ?_)
        refine W_block (W_loopU (α := Nat) [1, 3, 4] (fun k => [(4, .int .i64 k)]) (fun k => []) (fun k => k ≤ i ∧ ((x.fields.take i).drop k).all (fun g => !decide (g.name = x.fields[i].name)) = (x.fields.take i).all (fun g => !decide (g.name = x.fields[i].name))) (fun k => i - k) (0) (fun k => by simp; rfl) (by simp) ?_ ?_)
        · simp
        rintro k ⟨hk, hK⟩
        refine W_seq (jq [1, 3, 4, 72] ?_)
        refine jd (fun h9 => ?_) (fun h9 => ?_)
        · try simp at h9
          have hkl : k < (x.fields.take i).length := by simp; omega
          have hkf : k < x.fields.length := by omega
          rw [all_drop hkl, List.getElem_take] at hK
          refine W_skip (W_seq (W_block (jD [1, 3, 4, 87] (jQ (by simp [h1, h4, h9, hkf]; rfl)) ?_)))
          refine jd (fun h11 => ?_) (fun h11 => ?_)
          · try simp at h11
            refine jq [2] ?_
            refine W_ret (je (by simp [h1, h4, h9, hkf]; rfl) ?_)
            simp [← hI, ← hK, h11]
          · try simp at h11
            simp only [h11, decide_false, Bool.not_false, Bool.true_and] at hK
            refine W_skip (W_reg (jh hX (by simp; (try (simp (disch := omega) only [wrap_i64]; (try simp))); rfl)) ?_)
            refine round_end (k + 1) [1, 3, 4] (by simp [h1, h4, h9, hkf]; try (simp (disch := omega) only [wrap_i64])) ?_ ?_
            · exact ⟨by omega, hK⟩
            · omega
        · try simp at h9
          rw [List.drop_eq_nil_of_le (by simp; omega)] at hK
          simp only [List.all_nil] at hK
          refine W_exit (W_reg (jh hX (by simp; (try (simp (disch := omega) only [wrap_i64]; (try simp))); rfl)) ?_)
          refine round_end (i + 1) [1, 3] (by simp [h1, h4, h9]; try (simp (disch := omega) only [wrap_i64])) ?_ ?_
          · exact ⟨by omega, by rw [List.take_succ_eq_append_getElem h4, ← hI, h6b, ← hK]; simp⟩
          · omega
    · try simp at h4
      rw [List.drop_eq_nil_of_le h4] at hI
      simp only [fldsR] at hI
      rw [← hI, Bool.true_and]
      refine W_exit (W_seq (jq [1, 5] ?_))
      refine W_block (W_loopU (α := Nat) [1, 5] (fun i => [(5, .int .i64 i)]) (fun i => []) (fun i => i ≤ x.methods.length ∧ mthsR x.abstr (x.methods.take i) (x.methods.drop i) = mthsR x.abstr [] x.methods) (fun i => x.methods.length - i) (0) (fun i => by simp; rfl) (by simp) ?_ ?_)
      · simp
      rintro i ⟨hi2, hI2⟩
      refine W_seq (W_rseqK [1, 5, 92] (jh hX (by simp [h1, h4]; rfl)) ?_)
      refine jd (fun h14 => ?_) (fun h14 => ?_)
      · try simp at h14
        rw [List.drop_eq_getElem_cons h14] at hI2
        simp only [mthsR] at hI2
        refine W_skip (W_seq (W_block (W_rseqK [1, 5, 6] (jh hX (by simp [h1, h4, h14]; rfl)) ?_)))
        refine W_seq (W_rseqK [1, 5, 6, 111] (js hX 1 (by simp [h1, h4, h14]; rfl) (jc [] (c:=(by apply ct_spec_MethodRight <;> first | assumption | omega | (have := mem_sum (f := sizeF) (List.getElem_mem h4); simp only [sizeF] at *; (try simp only [atL_lt h4]); omega) | (have := mem_sum (f := sizeM) (List.getElem_mem h14); omega))) (a:=cb_spec_MethodRight) (k:=(jt 2 (k:=(jm 8 103 [1, 5, 6, 111] (p:=fun b17_4 => by (try simp at b17_4); exact (jh hX (by simp [-atD_lt, -atL_lt]; rfl))) (q:=fun b17_4 => by (try simp at b17_4); exact (js hX 3 (by simp [-atD_lt, -atL_lt, h1, h4, h14]; rfl) (jm 4 106 [1, 5, 6, 103, 110] (p:=fun b17_7 => by (try simp at b17_7); exact (jh hX (by simp [-atD_lt, -atL_lt, h1, h4, h14]; rfl))) (q:=fun b17_7 => by (try simp at b17_7); exact (jh hX (by simp [-atD_lt, -atL_lt]; rfl))) (k:=(jh hX (by simp [-atD_lt, -atL_lt]; rfl)))))) (k:=jf))))))) ?_)
        refine jd (fun h17 => ?_) (fun h17 => ?_)
        · try simp at h17
          refine jq [2] ?_
          refine W_ret (je (by simp [h1, h4, h14]; rfl) ?_)
          have h17b : (mthRight x.methods[i] && !(x.methods[i].abstr && !x.abstr)) = false := by grind
          rw [← hI2, h17b, Bool.false_and, Bool.false_and]
        · try simp at h17
          have h17b : (mthRight x.methods[i] && !(x.methods[i].abstr && !x.abstr)) = true := by grind
          refine W_skip (jq [1, 5, 6, 7] ?_)
          refine W_block (W_loopU (α := Nat) [1, 5, 6, 7] (fun k => [(7, .int .i64 k)]) (fun k => []) (fun k => k ≤ i ∧ ((x.methods.take i).drop k).all (fun g => !(decide (g.name = x.methods[i].name) && decide (g.desc = x.methods[i].desc))) = (x.methods.take i).all (fun g => !(decide (g.name = x.methods[i].name) && decide (g.desc = x.methods[i].desc)))) (fun k => i - k) (0) (fun k => by simp; rfl) (by simp) ?_ ?_)
          · simp
          rintro k ⟨hk2, hK2⟩
          refine W_seq (jq [1, 5, 6, 7, 114] ?_)
          refine jd (fun h20 => ?_) (fun h20 => ?_)
          · try simp at h20
            have hkl : k < (x.methods.take i).length := by simp; omega
            have hkf : k < x.methods.length := by omega
            rw [all_drop hkl, List.getElem_take] at hK2
            refine W_skip (W_seq (W_block (jD [1, 5, 6, 7, 136] (jS 10 (by simp [h1, h4, h14, h20, hkf]; rfl) (jM 10 126 [1, 5, 6, 7, 136] (p:=fun b22_10 => by (try simp at b22_10); exact (jQ (by simp [-atD_lt, -atL_lt, h1, h4, h14, h20, hkf]; rfl))) (q:=fun b22_10 => by (try simp at b22_10); exact (jQ (by simp [-atD_lt, -atL_lt]; rfl))) (k:=(RunsQ.fin (by (try simp); rfl))))) ?_)))
            refine jd (fun h22 => ?_) (fun h22 => ?_)
            · try simp at h22
              refine jq [2] ?_
              refine W_ret (je (by simp [h1, h4, h14, h20, hkf]; rfl) ?_)
              simp only [atL_lt hkf] at h22
              rw [← hI2, ← hK2, decide_eq_true h22.1, decide_eq_true h22.2]
              simp
            · try simp at h22
              simp only [atL_lt hkf] at h22
              have h22b : (!(decide (x.methods[k].name = x.methods[i].name) && decide (x.methods[k].desc = x.methods[i].desc))) = true := by simp; exact Decidable.not_or_of_imp h22
              rw [h22b, Bool.true_and] at hK2
              refine W_skip (W_reg (jh hX (by simp; (try (simp (disch := omega) only [wrap_i64]; (try simp))); rfl)) ?_)
              refine round_end (k + 1) [1, 5, 6, 7] (by simp [h1, h4, h14, h20, hkf]; try (simp (disch := omega) only [wrap_i64])) ?_ ?_
              · exact ⟨by omega, hK2⟩
              · omega
          · try simp at h20
            rw [List.drop_eq_nil_of_le (by simp; omega)] at hK2
            simp only [List.all_nil] at hK2
            refine W_exit (W_reg (jh hX (by simp; (try (simp (disch := omega) only [wrap_i64]; (try simp))); rfl)) ?_)
            refine round_endT (i + 1) [1, 5] 1 (by simp [hX]) (by simp) (by simp [h1, h4, h14, h20]; try (simp (disch := omega) only [wrap_i64])) ?_ ?_
            · exact ⟨by omega, by rw [List.take_succ_eq_append_getElem h14, ← hI2, h17b, ← hK2]; simp⟩
            · omega
      · try simp at h14
        rw [List.drop_eq_nil_of_le h14] at hI2
        simp only [mthsR] at hI2
        rw [← hI2]
        refine W_exit (jq [2] ?_)
        refine W_ret (je (by simp [h1, h4, h14]; rfl) ?_)
        simp
end Go.Proofs
namespace Go.Proofs
open Go Go.Ev


theorem cb_spec_TypeClass : Callable Tryz.prog 201 := ⟨_, Tryz.func201, by kernel_rfl, by kernel_rfl⟩
theorem ct_spec_TypeClass {t : Str} (ht : t.length ≤ 1099511627776) : Ct Tryz.prog 201 [.str t] [] (.str (typeClass t)) [] := by
  refine Ct_bodyS tok Tryz.func201 rfl 24 (by kernel_rfl) (by kernel_rfl) fun X hX => ?_
  refine jq [0] ?_
  refine W_seq (W_rseqK [0, 10] (jt 4 (k:=(jm 4 6 [0, 10] (p:=fun b1_4 => by (try simp at b1_4); exact (jh hX (by simp [-atD_lt, -atL_lt]; rfl))) (q:=fun b1_4 => by (try simp at b1_4); exact (js hX 1 (by simp [-atD_lt, -atL_lt]; rfl) (Runs.call [] rfl (by simp) rfl (by simp [-atD_lt, -atL_lt]; rfl) (by simp; rfl) (by apply ct_spec_TypeRight <;> first | assumption | omega | (simp at *; omega) | simp_all) cb_spec_TypeRight (by simp) (by simp) (by simp [-atD_lt, -atL_lt]; rfl) (jh hX (by simp [-atD_lt, -atL_lt]; rfl))))) (k:=jf)))) ?_)
  refine jd (fun h1 => ?_) (fun h1 => ?_)
  · try simp at h1
    have hx : typeClass t = [] := by
      rw [typeClass, if_neg]
      rintro e
      have := (len_of_typeRight e).2
      rcases h1 with h1 | h1
      · omega
      · rw [h1] at e; cases e
    refine jq [2] ?_
    refine W_ret (je (by simp [h1]; rfl) ?_)
    rw [hx]
  · try simp at h1
    have hlt := (len_of_typeRight h1.2).1
    have hlt1 : 1 ≤ t.length := hlt
    have hlong := typeRight_long h1.2
    refine W_skip (W_seq (W_rseqK [0, 13] (jh hX (by simp [h1, hlt, hlt1]; rfl)) ?_))
    refine' W_condS3 [0] (by simp; rfl) (by rfl) (fun h3 => ?a1_1) (fun h3 => ?a0_1) ?ak_1
    case a1_1 =>
      try simp at h3
      refine W_reg (jh hX (by simp [h1, hlt, hlt1]; rfl)) ?_
      exact ⟨rfl, Eq.trans (by (try simp); rfl) (by rfl)⟩
    case a0_1 =>
      try simp at h3
      refine W_skip ?_
      exact ⟨rfl, Eq.trans (by (try simp); rfl) (by rfl)⟩
    case ak_1 =>
      refine W_le (Le.of_eq (by simp; rfl)) ?_
      generalize hu : (bif _ then _ else t) = u
      have hu2 : u = if isAt t 0 91 then t.drop 1 else t := by rw [← hu, isAt_lt hlt]; simp [cond_eq_ite]
      have hx : typeClass t = tClass u := by rw [typeClass, if_pos h1.2, hu2]; split <;> rfl
      rw [hx]
      clear hu hx
      have hu0 : 0 < u.length := by
        rw [hu2]
        split
        · rename_i hb
          have := hlong.1 hb
          simp; omega
        · exact hlt
      have hul : u.length ≤ t.length := by rw [hu2]; split <;> simp
      have hu3 : isAt u 0 73 = false → 2 < u.length := by
        intro hb
        rw [hu2] at hb ⊢
        split at hb
        · rename_i hc
          rw [isAt_drop] at hb
          have := hlong.2.1 hc hb
          rw [if_pos hc]; simp; omega
        · rename_i hc
          rw [if_neg hc]
          exact hlong.2.2 (by simpa using hc) hb
      have hat := isAt_lt (n := 73) hu0
      refine W_seq (W_rseqK [0, 18] (jh hX (by simp [h1, hlt, hlt1, hu0]; rfl)) ?_)
      refine jd (fun h5 => ?_) (fun h5 => ?_)
      · try simp at h5
        refine jq [2] ?_
        refine W_ret (je (by simp [h1, hlt, hlt1, hu0]; rfl) ?_)
        rw [tClass, if_pos (by rw [hat]; simpa using h5)]
      · try simp at h5
        have hat2 : isAt u 0 73 = false := by rw [hat]; simpa using h5
        have hu4 := hu3 hat2
        have hs1 : 0 ≤ (u.length : Int) - 1 := by omega
        have hs2 : ((u.length : Int) - 1).toNat = u.length - 1 := by omega
        have hs3 : u.length - 1 ≤ u.length := by omega
        have hs4 : 1 ≤ u.length - 1 := by omega
        have hs5 : 1 ≤ u.length := hu0
        refine W_skip (W_rseqK [2] (jh hX (by simp [h1, hlt, hlt1, hu0, hs1, hs2, hs3, hs4, hs5]; (try (simp (disch := omega) only [wrap_i64]; (try simp [h1, hlt, hlt1, hu0, hs1, hs2, hs3, hs4, hs5]))); rfl)) ?_)
        refine W_ret (je (by simp [h1, hlt, hlt1, hu0, hs1, hs2, hs3, hs4, hs5]; rfl) ?_)
        rw [tClass, if_neg (by simp [hat2])]
        simp [seg]
end Go.Proofs
namespace Go.Proofs
open Go Go.Ev


theorem cb_spec_l05Type : Callable Tryz.prog 214 := ⟨_, Tryz.func214, by kernel_rfl, by kernel_rfl⟩
theorem ct_spec_l05Type {l : List Cls} {t : Str} (hl : l.length ≤ 1099511627776) (ht : t.length ≤ 1099511627776) : Ct Tryz.prog 214 [.lst false 6 (l.map eC), .str t] [] (.bool (typeK l t)) [] := by
  refine Ct_bodyS tok Tryz.func214 rfl 15 (by kernel_rfl) (by kernel_rfl) fun X hX => ?_
  refine jq [0, 1] ?_
  refine W_rseqK [0, 5] (jt 1 (k:=(jc [] (c:=(by apply ct_spec_TypeClass <;> first | assumption | omega | (simp at *; omega) | simp_all)) (a:=cb_spec_TypeClass) (k:=jr)))) ?_
  refine W_rseqK [4] (jt 3 (k:=(jm 4 10 [14] (p:=fun b2_3 => by (try simp at b2_3); exact (jh hX (by simp [-atD_lt, -atL_lt]; rfl))) (q:=fun b2_3 => by (try simp at b2_3); exact (js hX 2 (by simp [-atD_lt, -atL_lt]; rfl) (Runs.call [] rfl (by simp) rfl (by simp [-atD_lt, -atL_lt]; rfl) (by simp; rfl) (by apply ct_spec_l05Known <;> first | assumption | omega | (simp at *; omega) | simp_all) cb_spec_l05Known (by simp) (by simp) (by simp [-atD_lt, -atL_lt]; rfl) (jh hX (by simp [-atD_lt, -atL_lt]; rfl))))) (k:=jr)))) ?_
  refine W_ret (je0 ?_)
  (try simp_all [typeK])
end Go.Proofs
namespace Go.Proofs
open Go Go.Ev


theorem cb_spec_l05Desc : Callable Tryz.prog 215 := ⟨_, Tryz.func215, by kernel_rfl, by kernel_rfl⟩
theorem ct_spec_l05Desc {l : List Cls} {t : Str} (hl : l.length ≤ 1099511627776) (ht : t.length ≤ 1099511627776) : Ct Tryz.prog 215 [.lst false 6 (l.map eC), .str t] [] (.bool (descK l t)) [] := by
  have hpl := descRead_le t
  have hps := descRead_parts t
  refine Ct_bodyS tok Tryz.func215 rfl 29 (by kernel_rfl) (by kernel_rfl) fun X hX => ?_
  refine jq [0, 1] ?_
  refine W_rseqK [0, 5] (jt 1 (k:=(jF (c:=(by apply ct_spec_DescRead <;> first | assumption | omega | exact Nat.le_trans (hps.2 _ (List.getElem_mem _)) ht)) (a:=cb_spec_DescRead) (k:=jr)))) ?_
  refine W_seq (jq [0, 5, 6] ?_)
  refine W_block (W_loopU (α := Nat) [0, 5, 6] (fun i => [(6, .int .i64 i)]) (fun i => []) (fun i => i ≤ (descRead t).params.length ∧ ((descRead t).params.drop i).all (typeK l) = (descRead t).params.all (typeK l)) (fun i => (descRead t).params.length - i) (0) (fun i => by simp; rfl) (by simp) ?_ ?_)
  · simp
  rintro i ⟨hi, hI⟩
  refine W_seq (jq [0, 5, 6, 14] ?_)
  refine jd (fun h3 => ?_) (fun h3 => ?_)
  · try simp at h3
    rw [all_drop h3] at hI
    refine W_skip (W_seq (W_block (W_rseqK [0, 5, 6, 24] (js hX 6 (by simp [h3]; rfl) (jc [] (c:=(by apply ct_spec_l05Type <;> first | assumption | omega | exact Nat.le_trans (hps.2 _ (List.getElem_mem _)) ht)) (a:=cb_spec_l05Type) (k:=jr))) ?_)))
    refine jd (fun h5 => ?_) (fun h5 => ?_)
    · try simp at h5
      refine jq [4] ?_
      refine W_ret (je (by simp [h3]; rfl) ?_)
      simp [descK, ← hI, h5]
    · try simp at h5
      rw [h5, Bool.true_and] at hI
      refine W_skip (W_reg (jh hX (by simp; (try (simp (disch := omega) only [wrap_i64]; (try simp))); rfl)) ?_)
      refine round_end (i + 1) [0, 5, 6] (by simp [h3]; try (simp (disch := omega) only [wrap_i64])) ?_ ?_
      · exact ⟨by omega, hI⟩
      · omega
  · try simp at h3
    rw [List.drop_eq_nil_of_le h3] at hI
    refine W_exit (W_rseqK [4] (js hX 3 (by simp [h3]; rfl) (jc [] (c:=(by apply ct_spec_l05Type <;> first | assumption | omega | exact Nat.le_trans (hps.2 _ (List.getElem_mem _)) ht)) (a:=cb_spec_l05Type) (k:=jr))) ?_)
    refine W_ret (je (by simp [h3]; rfl) ?_)
    simp [descK, ← hI]
end Go.Proofs
namespace Go.Proofs
open Go Go.Ev


theorem cb_spec_l05Types : Callable Tryz.prog 163 := ⟨_, Tryz.func163, by kernel_rfl, by kernel_rfl⟩
theorem ct_spec_l05Types {l : List Cls} {x : Cls} (hl : l.length ≤ 1099511627776) (h : sizeC x ≤ 1099511627776) : Ct Tryz.prog 163 [.lst false 6 (l.map eC), eC x] [] (.bool (clsK l x)) [] := by
  simp only [sizeC] at h
  refine Ct_bodyS tok Tryz.func163 rfl 39 (by kernel_rfl) (by kernel_rfl) fun X hX => ?_
  refine jq [0, 3] ?_
  refine W_seq (jq [0, 3, 5] ?_)
  refine W_block (W_loopU (α := Nat) [0, 3, 5] (fun i => [(5, .int .i64 i)]) (fun i => []) (fun i => i ≤ x.fields.length ∧ (x.fields.drop i).all (fun f => typeK l f.type) = x.fields.all (fun f => typeK l f.type)) (fun i => x.fields.length - i) (0) (fun i => by simp; rfl) (by simp) ?_ ?_)
  · simp
  rintro i ⟨hi, hI⟩
  refine W_seq (jq [0, 3, 5, 11] ?_)
  refine jd (fun h2 => ?_) (fun h2 => ?_)
  · try simp at h2
    rw [all_drop h2] at hI
    refine W_skip (W_seq (W_block (W_rseqK [0, 3, 5, 22] (js hX 7 (by simp [h2]; rfl) (jc [] (c:=(by apply ct_spec_l05Type <;> first | assumption | omega | (have := mem_sum (f := sizeF) (List.getElem_mem h2); simp only [sizeF] at *; omega) | (have := mem_sum (f := sizeM) (List.getElem_mem h7); simp only [sizeM] at *; omega))) (a:=cb_spec_l05Type) (k:=jr))) ?_)))
    refine jd (fun h4 => ?_) (fun h4 => ?_)
    · try simp at h4
      refine jq [4] ?_
      refine W_ret (je (by simp [h2]; rfl) ?_)
      simp [clsK, ← hI, h4]
    · try simp at h4
      rw [h4, Bool.true_and] at hI
      refine W_skip (W_reg (jh hX (by simp; (try (simp (disch := omega) only [wrap_i64]; (try simp))); rfl)) ?_)
      refine round_end (i + 1) [0, 3, 5] (by simp [h2]; try (simp (disch := omega) only [wrap_i64])) ?_ ?_
      · exact ⟨by omega, hI⟩
      · omega
  · try simp at h2
    rw [List.drop_eq_nil_of_le h2] at hI
    refine W_exit (W_seq (jq [0, 3, 6] ?_))
    refine W_block (W_loopU (α := Nat) [0, 3, 6] (fun i => [(6, .int .i64 i)]) (fun i => []) (fun i => i ≤ x.methods.length ∧ (x.methods.drop i).all (fun m => descK l m.desc) = x.methods.all (fun m => descK l m.desc)) (fun i => x.methods.length - i) (0) (fun i => by simp; rfl) (by simp) ?_ ?_)
    · simp
    rintro i ⟨hi2, hI2⟩
    refine W_seq (W_rseqK [0, 3, 6, 27] (jh hX (by simp [h2]; rfl)) ?_)
    refine jd (fun h7 => ?_) (fun h7 => ?_)
    · try simp at h7
      rw [all_drop h7] at hI2
      refine W_skip (W_seq (W_block (W_rseqK [0, 3, 6, 38] (js hX 7 (by simp [h2, h7]; rfl) (jc [] (c:=(by apply ct_spec_l05Desc <;> first | assumption | omega | (have := mem_sum (f := sizeF) (List.getElem_mem h2); simp only [sizeF] at *; omega) | (have := mem_sum (f := sizeM) (List.getElem_mem h7); simp only [sizeM] at *; omega))) (a:=cb_spec_l05Desc) (k:=jr))) ?_)))
      refine jd (fun h9 => ?_) (fun h9 => ?_)
      · try simp at h9
        refine jq [4] ?_
        refine W_ret (je (by simp [h2, h7]; rfl) ?_)
        simp [clsK, ← hI2, h9]
      · try simp at h9
        rw [h9, Bool.true_and] at hI2
        refine W_skip (W_reg (jh hX (by simp; (try (simp (disch := omega) only [wrap_i64]; (try simp))); rfl)) ?_)
        refine round_end (i + 1) [0, 3, 6] (by simp [h2, h7]; try (simp (disch := omega) only [wrap_i64])) ?_ ?_
        · exact ⟨by omega, hI2⟩
        · omega
    · try simp at h7
      rw [List.drop_eq_nil_of_le h7] at hI2
      refine W_exit (jq [4] ?_)
      refine W_ret (je (by simp [h2, h7]; rfl) ?_)
      simp [clsK, ← hI, ← hI2]
end Go.Proofs
namespace Go.Proofs
open Go Go.Ev


theorem cb_spec_l05Method : Callable Tryz.prog 122 := ⟨_, Tryz.func122, by kernel_rfl, by kernel_rfl⟩
theorem ct_spec_l05Method {x : Cls} {n d : Str} (h : sizeC x ≤ 1099511627776) : Ct Tryz.prog 122 [eC x, .str n, .str d] [] (.int .i64 (mthFrom n d x.methods 0)) [] := by
  simp only [sizeC] at h
  refine Ct_bodyS tok Tryz.func122 rfl 34 (by kernel_rfl) (by kernel_rfl) fun X hX => ?_
  refine jq [1, 2, 3] ?_
  refine W_seq (jq [1, 2, 3, 7] ?_)
  refine W_block (W_loopU (α := Nat) [1, 2, 3, 7] (fun i => [(7, .int .i64 i)]) (fun i => []) (fun i => i ≤ x.methods.length ∧ mthFrom n d (x.methods.drop i) i = mthFrom n d x.methods 0) (fun i => x.methods.length - i) (0) (fun i => by simp; rfl) (by simp) ?_ ?_)
  · simp
  rintro i ⟨hi, hI⟩
  refine W_seq (jq [1, 2, 3, 7, 12] ?_)
  refine jd (fun h2 => ?_) (fun h2 => ?_)
  · try simp at h2
    rw [List.drop_eq_getElem_cons h2] at hI
    simp only [mthFrom] at hI
    refine W_skip (W_seq (W_block (W_rseqK [1, 2, 3, 7, 32] (js hX 9 (by simp [h2]; rfl) (jm 9 23 [1, 2, 3, 7, 32] (p:=fun b4_9 => by (try simp at b4_9); exact (jh hX (by simp [-atD_lt, -atL_lt, h2]; rfl))) (q:=fun b4_9 => by (try simp at b4_9); exact (jh hX (by simp [-atD_lt, -atL_lt]; rfl))) (k:=jf))) ?_)))
    refine jd (fun h4 => ?_) (fun h4 => ?_)
    · try simp at h4
      refine jq [6] ?_
      refine W_ret (je (by simp [h2]; rfl) ?_)
      simp only [atL_lt h2] at h4
      rw [← hI, if_pos h4]
    · try simp at h4
      simp only [atL_lt h2] at h4
      have h4c : ¬ (x.methods[i].name = n ∧ x.methods[i].desc = d) := fun e => h4 e.1 e.2
      refine W_skip (W_reg (jh hX (by simp; (try (simp (disch := omega) only [wrap_i64]; (try simp))); rfl)) ?_)
      refine round_end (i + 1) [1, 2, 3, 7] (by simp [h2]; try (simp (disch := omega) only [wrap_i64])) ?_ ?_
      · exact ⟨by omega, by rw [← hI, if_neg h4c]⟩
      · omega
  · try simp at h2
    refine W_exit (jq [6] ?_)
    refine W_ret (je (by simp [h2]; rfl) ?_)
    simp [← hI, List.drop_eq_nil_of_le h2, mthFrom]
end Go.Proofs
namespace Go.Proofs
open Go Go.Ev


theorem cb_spec_l05Access : Callable Tryz.prog 164 := ⟨_, Tryz.func164, by kernel_rfl, by kernel_rfl⟩
theorem ct_spec_l05Access {l : List Cls} {i : Nat} (hl : sizeL l ≤ 1099511627776) (hi : i < l.length) (hu : findFrom l[i].name l 0 = i) (hEn : ∀ j : Nat, j < l.length → Ends l (l.length + 1) j) : Ct Tryz.prog 164 [.lst false 6 (l.map eC), eC l[i]] [] (.bool (accOK l i)) [] := by
  have hll : l.length ≤ 1099511627776 := by unfold sizeL at hl; omega
  have hsz : ∀ {k : Nat} (h : k < l.length), sizeC l[k] ≤ 1099511627776 := fun h => Nat.le_trans (sizeL_at h) hl
  have hE0 : Ends l l.length (nxt l i) := by obtain ⟨g, h1, h2⟩ := Ends_nat (hEn i hi); rw [show l.length = g from by omega]; exact h2
  refine Ct_bodyS tok Tryz.func164 rfl 112 (by kernel_rfl) (by kernel_rfl) fun X hX => ?_
  refine jq [0, 3] ?_
  refine W_seq (W_rseqK [0, 3, 5] (jt 3 (k:=(jc [] (c:=(by apply ct_spec_l05Find <;> first | assumption | omega | exact hsz (by assumption) | (rw [atL_lt (by assumption)]; exact hsz (by assumption)) | (have := hsz hp; simp only [sizeC] at this; omega) | (have := hsz hq; simp only [sizeC] at this; omega))) (a:=cb_spec_l05Find) (k:=jr)))) ?_)
  refine W_block (W_loopU (α := Nat × Int) [0, 3, 5] (fun a => [(5, .int .i64 a.2)]) (fun a => []) (fun a => Ends l a.1 a.2 ∧ (-1 ≤ a.2 ∧ a.2 < l.length) ∧ (∀ u ∈ ups l a.1 a.2, u ∈ ups l (l.length + 1) i) ∧ (ups l a.1 a.2).all (fun u => (atL l u).methods.all (okPair l l[i] i)) = accOK l i) (fun a => a.1) ((l.length, nxt l i)) (fun a => by simp; rfl) (by simp [nxt_nat, atL_lt hi]) ?_ ?_)
  · exact ⟨hE0, @nxt_ge l i, fun u h => by rw [ups_nat]; exact List.mem_cons_of_mem _ h, by simp only [accOK, atL_lt hi]⟩
  rintro ⟨f, up⟩ ⟨hE, hup, hS, hI⟩
  simp only at hE hup hS hI
  refine W_seq (jq [0, 3, 5, 15] ?_)
  refine jd (fun h2 => ?_) (fun h2 => ?_)
  · try simp at h2
    obtain ⟨p, rfl⟩ : ∃ k : Nat, up = k := ⟨up.toNat, by omega⟩
    have hp : p < l.length := by omega
    obtain ⟨f, rfl, hE2⟩ := Ends_nat hE
    rw [ups_nat] at hI
    simp only [List.all_cons, atL_lt hp] at hI
    have hml : l[p].methods.length ≤ 1099511627776 := by have := hsz hp; simp only [sizeC] at this; omega
    refine W_skip (W_seq (W_block (jq [0, 3, 5, 6] ?_)))
    refine W_block (W_loopU (α := Nat) [0, 3, 5, 6] (fun j => [(6, .int .i64 j)]) (fun j => []) (fun j => j ≤ l[p].methods.length ∧ (l[p].methods.drop j).all (okPair l l[i] i) = l[p].methods.all (okPair l l[i] i)) (fun j => l[p].methods.length - j) (0) (fun j => by simp; rfl) (by simp) ?_ ?_)
    · simp
    rintro j ⟨hj, hJ⟩
    refine W_seq (W_rseqK [0, 3, 5, 6, 30] (jh hX (by simp [h2, hp]; rfl)) ?_)
    refine jd (fun h5 => ?_) (fun h5 => ?_)
    · try simp at h5
      rw [all_drop h5] at hJ
      refine W_skip (W_seq (W_block (W_rseqK [0, 3, 5, 6, 7] (jh hX (by simp [h2, hp, h5]; rfl)) ?_)))
      refine W_seq (W_rseqK [0, 3, 5, 6, 7, 43] (jh hX (by simp [h2, hp, h5]; rfl)) ?_)
      refine jd (fun h8 => ?_) (fun h8 => ?_)
      · try simp at h8
        have hq8 : okPair l l[i] i l[p].methods[j] = true := by simp [okPair, h8, init]
        have hJ2 := hJ
        rw [hq8, Bool.true_and] at hJ2
        refine W_exit (W_reg (jh hX (by simp; (try (simp (disch := omega) only [wrap_i64]; (try simp))); rfl)) ?_)
        refine round_endT (j + 1) [0, 3, 5, 6] 1 (by simp [hX]) (by simp) (by simp; try (simp (disch := omega) only [wrap_i64])) ?_ ?_
        · exact ⟨by omega, hJ2⟩
        · omega
      · try simp at h8
        refine W_skip (W_rseqK [0, 3, 5, 6, 7, 8] (js hX 5 (by simp [h2, hp, h5]; rfl) (jc [] (c:=(by apply ct_spec_l05Method <;> first | assumption | omega | exact hsz (by assumption) | (rw [atL_lt (by assumption)]; exact hsz (by assumption)) | (have := hsz hp; simp only [sizeC] at this; omega) | (have := hsz hq; simp only [sizeC] at this; omega))) (a:=cb_spec_l05Method) (k:=jr))) ?_)
        refine W_seq (jD [0, 3, 5, 6, 7, 66] (jS 3 (by simp; rfl) (jM 14 52 [0, 3, 5, 6, 7, 66] (p:=fun b10_3 => by (try simp at b10_3); (have hk8 := mthFrom_lt b10_3); exact (jS 3 (by simp [-atD_lt, -atL_lt, h2, hp, h5, b10_3, hk8, hi]; rfl) (jM 10 55 [0, 3, 5, 6, 7, 52, 65] (p:=fun b10_6 => by (try simp at b10_6); exact (jQ (by simp [-atD_lt, -atL_lt]; rfl))) (q:=fun b10_6 => by (try simp at b10_6); exact (jQ (by simp [-atD_lt, -atL_lt, h2, hp, h5, b10_3, hk8, hi]; rfl))) (k:=(jQ (by simp [-atD_lt, -atL_lt]; rfl)))))) (q:=fun b10_3 => by (try simp at b10_3); exact (jQ (by simp [-atD_lt, -atL_lt]; rfl))) (k:=(RunsQ.fin (by (try simp); rfl))))) ?_)
        refine jd (fun h10 => ?_) (fun h10 => ?_)
        · try simp at h10
          have hq10 : okPair l l[i] i l[p].methods[j] = false := by simp only [okPair, decide_eq_false (show ¬ l[p].methods[j].name = init from h8)]; simp; grind
          refine jq [4] ?_
          refine W_ret (je (by simp [h2, hp, h5, h10]; rfl) ?_)
          rw [← hI, ← hJ, hq10]; simp
        · try simp at h10
          have hq10 : okPair l l[i] i l[p].methods[j] = !(l[p].methods[j].abstr && !l[i].abstr && near l l[p].methods[j].name l[p].methods[j].desc (l.length + 1) i) := by simp only [okPair, decide_eq_false (show ¬ l[p].methods[j].name = init from h8)]; simp; grind
          refine W_skip (W_rseqK [0, 3, 5, 6, 7, 73] (js hX 3 (by simp [h2, hp, h5, h10]; rfl) (jm 4 69 [0, 3, 5, 6, 7, 73] (p:=fun b12_3 => by (try simp at b12_3); exact (jh hX (by simp [-atD_lt, -atL_lt, h2, hp, h5, h10]; rfl))) (q:=fun b12_3 => by (try simp at b12_3); exact (jh hX (by simp [-atD_lt, -atL_lt]; rfl))) (k:=jf))) ?_)
          refine jd (fun h12 => ?_) (fun h12 => ?_)
          · try simp at h12
            refine W_rseqK [0, 3, 5, 6, 7, 9] (js hX 3 (by simp [h2, hp, h5, h10]; rfl) (jc [] (c:=(by apply ct_spec_l05Find <;> first | assumption | omega | exact hsz (by assumption) | (rw [atL_lt (by assumption)]; exact hsz (by assumption)) | (have := hsz hp; simp only [sizeC] at this; omega) | (have := hsz hq; simp only [sizeC] at this; omega))) (a:=cb_spec_l05Find) (k:=jr))) ?_
            refine W_seq (W_block (W_loopU (α := Nat × Int) [0, 3, 5, 6, 7, 9] (fun a => [(9, .int .i64 a.2)]) (fun a => []) (fun a => Ends l a.1 a.2 ∧ (0 ≤ a.2 ∧ a.2 < l.length) ∧ near l l[p].methods[j].name l[p].methods[j].desc a.1 a.2 = near l l[p].methods[j].name l[p].methods[j].desc (l.length + 1) i ∧ ∃ u ∈ ups l a.1 a.2, 0 ≤ mthFrom l[p].methods[j].name l[p].methods[j].desc (atL l u).methods 0) (fun a => a.1) ((l.length + 1, (i : Int))) (fun a => by simp; rfl) (by simp [hu]) ?_ ?_))
            · exact ⟨hEn i hi, by omega, rfl, p, hS p (by rw [ups_nat]; simp), by rw [atL_lt hp]; exact mthFrom_has h5⟩
            rintro ⟨g, q⟩ ⟨gE, gq, gN, gU⟩
            simp only at gE gq gN gU
            obtain ⟨q, rfl⟩ : ∃ k : Nat, q = k := ⟨q.toNat, by omega⟩
            have hq : q < l.length := by omega
            obtain ⟨g, rfl, gE2⟩ := Ends_nat gE
            rw [near_nat, atL_lt hq] at gN
            rw [ups_nat] at gU
            refine W_seq (jD [0, 3, 5, 6, 7, 9, 87] (jS 8 (by simp [h2, hp, h5, h10, hq]; rfl) (jC (c:=by apply ct_spec_l05Method <;> first | assumption | omega | exact hsz (by assumption) | (rw [atL_lt (by assumption)]; exact hsz (by assumption)) | (have := hsz hp; simp only [sizeC] at this; omega) | (have := hsz hq; simp only [sizeC] at this; omega)) (a:=cb_spec_l05Method) (k:=(jQ (by simp; rfl))))) ?_)
            refine jd (fun h14 => ?_) (fun h14 => ?_)
            · try simp at h14
              rw [if_neg (by (try simp only [atL_lt hq] at h14); omega)] at gN
              have gU2 : ∃ u ∈ ups l g (nxt l q), 0 ≤ mthFrom l[p].methods[j].name l[p].methods[j].desc (atL l u).methods 0 := by
                obtain ⟨u, h1, h2⟩ := gU
                rcases List.mem_cons.1 h1 with rfl | h1
                · rw [atL_lt hq] at h2; (try simp only [atL_lt hq] at h14); omega
                · exact ⟨u, h1, h2⟩
              have gP : 0 ≤ nxt l q := by
                obtain ⟨u, h1, _⟩ := gU2
                rcases Int.lt_or_le (nxt l q) 0 with h | h
                · cases g <;> simp [ups, h] at h1
                · exact h
              refine W_skip (W_block (W_reg (js hX 6 (by simp [h2, hp, h5, h10, hq, h14]; rfl) (jc [] (c:=(by apply ct_spec_l05Find <;> first | assumption | omega | exact hsz (by assumption) | (rw [atL_lt (by assumption)]; exact hsz (by assumption)) | (have := hsz hp; simp only [sizeC] at this; omega) | (have := hsz hq; simp only [sizeC] at this; omega))) (a:=cb_spec_l05Find) (k:=jr))) ?_))
              refine round_end ((g, nxt l q)) [0, 3, 5, 6, 7, 9] (by simp [nxt_nat, hq]) ?_ ?_
              · exact ⟨gE2, ⟨gP, (@nxt_ge l q).2⟩, gN, gU2⟩
              · simp
            · try simp at h14
              have h14b := mthFrom_lt h14
              rw [if_pos h14, atL_lt h14b] at gN
              refine W_exit (jD [0, 3, 5, 6, 111] (jS 13 (by simp [h2, hp, h5, h10, hq, h14, hq, h14b, h14]; rfl) (jC (c:=by apply ct_spec_l05Method <;> first | assumption | omega | exact hsz (by assumption) | (rw [atL_lt (by assumption)]; exact hsz (by assumption)) | (have := hsz hp; simp only [sizeC] at this; omega) | (have := hsz hq; simp only [sizeC] at this; omega)) (a:=cb_spec_l05Method) (k:=(jQ (by simp [h2, hp, h5, h10, hq, h14, hq, h14b, h14]; rfl))))) ?_)
              refine jd (fun h16 => ?_) (fun h16 => ?_)
              · try simp at h16
                have hq16 : okPair l l[i] i l[p].methods[j] = false := by rw [hq10, ← gN, h16]; grind
                refine jq [4] ?_
                refine W_ret (je (by simp [h2, hp, h5, h10, hq, h14, hq, h14b, h14]; rfl) ?_)
                rw [← hI, ← hJ, hq16]; simp
              · try simp at h16
                have hq16 : okPair l l[i] i l[p].methods[j] = true := by rw [hq10, ← gN, h16]; simp
                have hJ2 := hJ
                rw [hq16, Bool.true_and] at hJ2
                refine W_skip (W_reg (jh hX (by simp; (try (simp (disch := omega) only [wrap_i64]; (try simp))); rfl)) ?_)
                refine round_endT (j + 1) [0, 3, 5, 6] 1 (by simp [hX]) (by simp) (by simp; try (simp (disch := omega) only [wrap_i64])) ?_ ?_
                · exact ⟨by omega, hJ2⟩
                · omega
          · try simp at h12
            have hJ2 := hJ
            rw [hq10, show (l[p].methods[j].abstr && !l[i].abstr) = false from by grind] at hJ2
            simp only [Bool.false_and, Bool.not_false, Bool.true_and] at hJ2
            refine W_skip (W_reg (jh hX (by simp; (try (simp (disch := omega) only [wrap_i64]; (try simp))); rfl)) ?_)
            refine round_endT (j + 1) [0, 3, 5, 6] 1 (by simp [hX]) (by simp) (by simp; try (simp (disch := omega) only [wrap_i64])) ?_ ?_
            · exact ⟨by omega, hJ2⟩
            · omega
    · try simp at h5
      rw [List.drop_eq_nil_of_le h5] at hJ
      simp only [List.all_nil] at hJ
      rw [← hJ, Bool.true_and] at hI
      refine W_exit (W_reg (js hX 6 (by simp [h2, hp, h5]; rfl) (jc [] (c:=(by apply ct_spec_l05Find <;> first | assumption | omega | exact hsz (by assumption) | (rw [atL_lt (by assumption)]; exact hsz (by assumption)) | (have := hsz hp; simp only [sizeC] at this; omega) | (have := hsz hq; simp only [sizeC] at this; omega))) (a:=cb_spec_l05Find) (k:=jr))) ?_)
      refine round_end ((f, nxt l p)) [0, 3, 5] (by simp [nxt_nat, hp]) ?_ ?_
      · exact ⟨hE2, @nxt_ge l p, fun u h => hS u (by rw [ups_nat]; exact List.mem_cons_of_mem _ h), hI⟩
      · simp
  · try simp at h2
    have hnil : ups l f up = [] := by cases f <;> simp [ups, h2]
    rw [hnil] at hI
    refine W_exit (jq [4] ?_)
    refine W_ret (je (by simp [h2]; rfl) ?_)
    simp [← hI]
end Go.Proofs
namespace Go.Proofs
open Go Go.Ev


theorem cb_spec_WorldCheck : Callable Tryz.prog 110 := ⟨_, Tryz.func110, by kernel_rfl, by kernel_rfl⟩
theorem ct_spec_WorldCheck {l : List Cls} (hl : sizeL l ≤ 1099511627776) : Ct Tryz.prog 110 [.lst false 6 (l.map eC)] [] (.agg [.int .i64 (worldCheck l).1, .int .i64 (worldCheck l).2]) [] := by
  have hll : l.length ≤ 1099511627776 := by unfold sizeL at hl; omega
  have hsz : ∀ {k : Nat} (h : k < l.length), sizeC l[k] ≤ 1099511627776 := fun h => Nat.le_trans (sizeL_at h) hl
  refine Ct_bodyS tok Tryz.func110 rfl 162 (by kernel_rfl) (by kernel_rfl) fun X hX => ?_
  refine jq [0, 2] ?_
  refine W_seq (jq [0, 2, 13] ?_)
  refine jd (fun h1 => ?_) (fun h1 => ?_)
  · try simp at h1
    refine W_rseqK [2] (jh hX (by simp [h1]; rfl)) ?_
    refine W_ret (je (by simp [h1]; rfl) ?_)
    simp [worldCheck, h1]
  · try simp at h1
    refine W_skip (W_seq (W_rseqK [0, 2, 17] (jh hX (by simp [h1]; rfl)) ?_))
    refine jd (fun h3 => ?_) (fun h3 => ?_)
    · try simp at h3
      refine W_rseqK [2] (jh hX (by simp [h1, h3]; rfl)) ?_
      refine W_ret (je (by simp [h1, h3]; rfl) ?_)
      have h1b : ¬ 400 < l.length := by omega
      simp [worldCheck, h1b, h3]
    · try simp at h3
      rw [show worldCheck l = checkAll l from by unfold worldCheck; rw [if_neg (by omega), if_neg (by omega)]]
      refine W_skip (W_seq (jq [0, 2, 3] ?_))
      refine W_block (W_loopU (α := Nat) [0, 2, 3] (fun i => [(3, .int .i64 i)]) (fun i => []) (fun i => i ≤ l.length ∧ firstBad (pass1 l) (l.length - i) i = firstBad (pass1 l) l.length 0) (fun i => l.length - i) (0) (fun i => by simp; rfl) (by simp) ?_ ?_)
      · simp
      rintro i ⟨hi1, hI1⟩
      refine W_seq (W_rseqK [0, 2, 3, 22] (jh hX (by simp [h1, h3]; rfl)) ?_)
      refine jd (fun h6 => ?_) (fun h6 => ?_)
      · try simp at h6
        rw [show l.length - i = (l.length - (i + 1)) + 1 from by omega] at hI1
        simp only [firstBad] at hI1
        refine W_skip (W_seq (W_block (W_seq (W_rseqK [0, 2, 3, 30] (js hX 4 (by simp [h1, h3, h6]; rfl) (jc [] (c:=(by apply ct_spec_ClassRight <;> first | assumption | omega | exact hsz (by assumption) | (rw [atL_lt (by assumption)]; exact hsz (by assumption)) | (have := hsz h22; simp only [sizeC] at this; omega) | (have := hsz h13; simp only [sizeC] at this; omega) | (have := hsz h6; simp only [sizeC] at this; (try simp only [atL_lt h6]); omega)| (have := hsz h26; simp only [sizeC] at this; (try simp only [atL_lt h26]); omega) | (have := hsz h30q; simp only [sizeC] at this; omega))) (a:=cb_spec_ClassRight) (k:=jr))) ?_))))
        refine jd (fun h8 => ?_) (fun h8 => ?_)
        · try simp at h8
          refine W_rseqK [2] (jh hX (by simp [h1, h3, h6]; rfl)) ?_
          refine W_ret (je (by simp [h1, h3, h6]; rfl) ?_)
          have hp : pass1 l i = 1 := by simp [pass1, atL_lt h6, h8]
          rw [if_neg (by rw [hp]; simp), hp] at hI1
          simp [checkAll, ← hI1]
        · try simp at h8
          refine W_skip (W_rseqK [0, 2, 3, 50] (js hX 5 (by simp [h1, h3, h6]; rfl) (jc [] (c:=(by apply ct_spec_l05Built <;> first | assumption | omega | exact hsz (by assumption) | (rw [atL_lt (by assumption)]; exact hsz (by assumption)) | (have := hsz h22; simp only [sizeC] at this; omega) | (have := hsz h13; simp only [sizeC] at this; omega) | (have := hsz h6; simp only [sizeC] at this; (try simp only [atL_lt h6]); omega)| (have := hsz h26; simp only [sizeC] at this; (try simp only [atL_lt h26]); omega) | (have := hsz h30q; simp only [sizeC] at this; omega))) (a:=cb_spec_l05Built) (k:=(jt 2 (k:=(jm 10 40 [0, 2, 3, 50] (p:=fun b10_8 => by (try simp at b10_8); exact (jh hX (by simp [-atD_lt, -atL_lt]; rfl))) (q:=fun b10_8 => by (try simp at b10_8); exact (js hX 6 (by simp [-atD_lt, -atL_lt, h1, h3, h6, b10_8]; rfl) (Runs.call [] rfl (by simp) rfl (by simp [-atD_lt, -atL_lt]; rfl) (by simp; rfl) (by apply ct_spec_l05Find <;> first | assumption | omega | exact hsz (by assumption) | (rw [atL_lt (by assumption)]; exact hsz (by assumption)) | (have := hsz h22; simp only [sizeC] at this; omega) | (have := hsz h13; simp only [sizeC] at this; omega) | (have := hsz h6; simp only [sizeC] at this; (try simp only [atL_lt h6]); omega)| (have := hsz h26; simp only [sizeC] at this; (try simp only [atL_lt h26]); omega) | (have := hsz h30q; simp only [sizeC] at this; omega)) cb_spec_l05Find (by simp) (by simp) (by simp [-atD_lt, -atL_lt]; rfl) (jh hX (by simp [-atD_lt, -atL_lt]; rfl))))) (k:=jf))))))) ?_)
          refine jd (fun h10 => ?_) (fun h10 => ?_)
          · try simp at h10
            refine W_rseqK [2] (jh hX (by simp [h1, h3, h6, h10]; rfl)) ?_
            refine W_ret (je (by simp [h1, h3, h6, h10]; rfl) ?_)
            have hp : pass1 l i = 7 := by simp only [pass1, atL_lt h6, h8, if_true]; rw [if_pos (by simpa [atL_lt h6] using h10)]
            rw [if_neg (by rw [hp]; simp), hp] at hI1
            simp [checkAll, ← hI1]
          · try simp at h10
            have hp : pass1 l i = 0 := by simp only [pass1, atL_lt h6, h8, if_true]; rw [if_neg (by simp [atL_lt h6] at h10 ⊢; omega)]
            rw [if_pos hp] at hI1
            have hJ := hI1
            refine W_skip (W_reg (jh hX (by simp; (try (simp (disch := omega) only [wrap_i64]; (try simp))); rfl)) ?_)
            refine round_end (i + 1) [0, 2, 3] (by simp [h1, h3, h6, h10]; try (simp (disch := omega) only [wrap_i64])) ?_ ?_
            · exact ⟨by omega, hJ⟩
            · omega
      · try simp at h6
        rw [show l.length - i = 0 from by omega] at hI1
        simp only [firstBad] at hI1
        refine W_exit (W_seq (jq [0, 2, 4] ?_))
        refine W_block (W_loopU (α := Nat) [0, 2, 4] (fun i => [(4, .int .i64 i)]) (fun i => []) (fun i => i ≤ l.length ∧ firstBad (pass2 l) (l.length - i) i = firstBad (pass2 l) l.length 0) (fun i => l.length - i) (0) (fun i => by simp; rfl) (by simp) ?_ ?_)
        · simp
        rintro i ⟨hi2, hI2⟩
        refine W_seq (W_rseqK [0, 2, 4, 56] (jh hX (by simp [h1, h3, h6]; rfl)) ?_)
        refine jd (fun h13 => ?_) (fun h13 => ?_)
        · try simp at h13
          rw [show l.length - i = (l.length - (i + 1)) + 1 from by omega] at hI2
          simp only [firstBad] at hI2
          refine W_skip (W_seq (W_block (W_rseqK [0, 2, 4, 5] (js hX 6 (by simp [h1, h3, h6, h13]; rfl) (jc [] (c:=(by apply ct_spec_l05Find <;> first | assumption | omega | exact hsz (by assumption) | (rw [atL_lt (by assumption)]; exact hsz (by assumption)) | (have := hsz h22; simp only [sizeC] at this; omega) | (have := hsz h13; simp only [sizeC] at this; omega) | (have := hsz h6; simp only [sizeC] at this; (try simp only [atL_lt h6]); omega)| (have := hsz h26; simp only [sizeC] at this; (try simp only [atL_lt h26]); omega) | (have := hsz h30q; simp only [sizeC] at this; omega))) (a:=cb_spec_l05Find) (k:=jr))) ?_)))
          refine W_seq (W_rseqK [0, 2, 4, 5, 73] (js hX 6 (by simp [h1, h3, h6, h13]; rfl) (jc [] (c:=(by apply ct_spec_l05Known <;> first | assumption | omega | exact hsz (by assumption) | (rw [atL_lt (by assumption)]; exact hsz (by assumption)) | (have := hsz h22; simp only [sizeC] at this; omega) | (have := hsz h13; simp only [sizeC] at this; omega) | (have := hsz h6; simp only [sizeC] at this; (try simp only [atL_lt h6]); omega)| (have := hsz h26; simp only [sizeC] at this; (try simp only [atL_lt h26]); omega) | (have := hsz h30q; simp only [sizeC] at this; omega))) (a:=cb_spec_l05Known) (k:=jr))) ?_)
          refine jd (fun h16 => ?_) (fun h16 => ?_)
          · try simp at h16
            refine W_rseqK [2] (jh hX (by simp [h1, h3, h6, h13]; rfl)) ?_
            refine W_ret (je (by simp [h1, h3, h6, h13]; rfl) ?_)
            have hp : pass2 l i = 8 := by simp [pass2, atL_lt h13, h16]
            rw [if_neg (by rw [hp]; simp), hp] at hI2
            simp [checkAll, ← hI1, ← hI2]
          · try simp at h16
            refine W_skip (W_rseqK [0, 2, 4, 93] (js hX 5 (by simp [h1, h3, h6, h13]; rfl) (jc [] (c:=(by apply ct_spec_l05Built <;> first | assumption | omega | exact hsz (by assumption) | (rw [atL_lt (by assumption)]; exact hsz (by assumption)) | (have := hsz h22; simp only [sizeC] at this; omega) | (have := hsz h13; simp only [sizeC] at this; omega) | (have := hsz h6; simp only [sizeC] at this; (try simp only [atL_lt h6]); omega)| (have := hsz h26; simp only [sizeC] at this; (try simp only [atL_lt h26]); omega) | (have := hsz h30q; simp only [sizeC] at this; omega))) (a:=cb_spec_l05Built) (k:=(jt 2 (k:=(jm 10 83 [0, 2, 4, 93] (p:=fun b18_8 => by (try simp at b18_8); exact (jh hX (by simp [-atD_lt, -atL_lt]; rfl))) (q:=fun b18_8 => by (try simp at b18_8); exact (js hX 3 (by simp [-atD_lt, -atL_lt]; rfl) (jm 6 86 [0, 2, 4, 83, 92] (p:=fun b18_11 => by (try simp at b18_11); (have hfl := findFrom_lt (l := l) b18_11); exact (jh hX (by simp [-atD_lt, -atL_lt, h1, h3, h6, h13, b18_8, b18_11, hfl, b18_11]; rfl))) (q:=fun b18_11 => by (try simp at b18_11); exact (jh hX (by simp [-atD_lt, -atL_lt]; rfl))) (k:=(jh hX (by simp [-atD_lt, -atL_lt]; rfl)))))) (k:=jf))))))) ?_)
            refine jd (fun h18 => ?_) (fun h18 => ?_)
            · try simp at h18
              refine W_rseqK [2] (jh hX (by simp [h1, h3, h6, h13, h18]; rfl)) ?_
              refine W_ret (je (by simp [h1, h3, h6, h13, h18]; rfl) ?_)
              have hp : pass2 l i = 14 := by simp only [pass2, atL_lt h13, h16, if_true]; rw [if_pos (by simpa using h18)]
              rw [if_neg (by rw [hp]; simp), hp] at hI2
              simp [checkAll, ← hI1, ← hI2]
            · try simp at h18
              have hp : pass2 l i = 0 := by simp only [pass2, atL_lt h13, h16, if_true]; rw [if_neg (by simp at h18 ⊢; exact h18)]
              rw [if_pos hp] at hI2
              have hJ := hI2
              refine W_skip (W_reg (jh hX (by simp; (try (simp (disch := omega) only [wrap_i64]; (try simp))); rfl)) ?_)
              refine round_end (i + 1) [0, 2, 4] (by simp [h1, h3, h6, h13, h18]; try (simp (disch := omega) only [wrap_i64])) ?_ ?_
              · exact ⟨by omega, hJ⟩
              · omega
        · try simp at h13
          rw [show l.length - i = 0 from by omega] at hI2
          simp only [firstBad] at hI2
          refine W_exit (W_seq (jq [0, 2, 6] ?_))
          refine W_block (W_loopU (α := Nat) [0, 2, 6] (fun i => [(6, .int .i64 i)]) (fun i => []) (fun i => i ≤ l.length ∧ firstBad (pass3 l) (l.length - i) i = firstBad (pass3 l) l.length 0) (fun i => l.length - i) (0) (fun i => by simp; rfl) (by simp) ?_ ?_)
          · simp
          rintro i ⟨hi3, hI3⟩
          refine W_seq (W_rseqK [0, 2, 6, 99] (jh hX (by simp [h1, h3, h6, h13]; rfl)) ?_)
          refine jd (fun h21 => ?_) (fun h21 => ?_)
          · try simp at h21
            rw [show l.length - i = (l.length - (i + 1)) + 1 from by omega] at hI3
            simp only [firstBad] at hI3
            refine W_skip (W_seq (W_block (W_rseqK [0, 2, 6, 108] (js hX 5 (by simp [h1, h3, h6, h13, h21]; rfl) (jc [] (c:=(by apply ct_spec_l05Types <;> first | assumption | omega | exact hsz (by assumption) | (rw [atL_lt (by assumption)]; exact hsz (by assumption)) | (have := hsz h22; simp only [sizeC] at this; omega) | (have := hsz h13; simp only [sizeC] at this; omega) | (have := hsz h6; simp only [sizeC] at this; (try simp only [atL_lt h6]); omega)| (have := hsz h26; simp only [sizeC] at this; (try simp only [atL_lt h26]); omega) | (have := hsz h30q; simp only [sizeC] at this; omega))) (a:=cb_spec_l05Types) (k:=jr))) ?_)))
            refine jd (fun h23 => ?_) (fun h23 => ?_)
            · try simp at h23
              refine W_rseqK [2] (jh hX (by simp [h1, h3, h6, h13, h21]; rfl)) ?_
              refine W_ret (je (by simp [h1, h3, h6, h13, h21]; rfl) ?_)
              have hp : pass3 l i = 6 := by simp [pass3, atL_lt h21, h23]
              rw [if_neg (by rw [hp]; simp), hp] at hI3
              simp [checkAll, ← hI1, ← hI2, ← hI3]
            · try simp at h23
              have hp : pass3 l i = 0 := by simp [pass3, atL_lt h21, h23]
              rw [if_pos hp] at hI3
              have hJ := hI3
              refine W_skip (W_reg (jh hX (by simp; (try (simp (disch := omega) only [wrap_i64]; (try simp))); rfl)) ?_)
              refine round_end (i + 1) [0, 2, 6] (by simp [h1, h3, h6, h13, h21]; try (simp (disch := omega) only [wrap_i64])) ?_ ?_
              · exact ⟨by omega, hJ⟩
              · omega
          · try simp at h21
            rw [show l.length - i = 0 from by omega] at hI3
            simp only [firstBad] at hI3
            refine W_exit (W_seq (jq [0, 2, 7] ?_))
            refine W_block (W_loopU (α := Nat) [0, 2, 7] (fun i => [(7, .int .i64 i)]) (fun i => []) (fun i => i ≤ l.length ∧ firstBad (pass4 l) (l.length - i) i = firstBad (pass4 l) l.length 0) (fun i => l.length - i) (0) (fun i => by simp; rfl) (by simp) ?_ ?_)
            · simp
            rintro i ⟨hi4, hI4⟩
            refine W_seq (W_rseqK [0, 2, 7, 114] (jh hX (by simp [h1, h3, h6, h13, h21]; rfl)) ?_)
            refine jd (fun h26 => ?_) (fun h26 => ?_)
            · try simp at h26
              rw [show l.length - i = (l.length - (i + 1)) + 1 from by omega] at hI4
              simp only [firstBad] at hI4
              refine W_skip (W_seq (W_block (W_rseqK [0, 2, 7, 8] (js hX 6 (by simp [h1, h3, h6, h13, h21, h26]; rfl) (jc [] (c:=(by apply ct_spec_l05Find <;> first | assumption | omega | exact hsz (by assumption) | (rw [atL_lt (by assumption)]; exact hsz (by assumption)) | (have := hsz h22; simp only [sizeC] at this; omega) | (have := hsz h13; simp only [sizeC] at this; omega) | (have := hsz h6; simp only [sizeC] at this; (try simp only [atL_lt h6]); omega)| (have := hsz h26; simp only [sizeC] at this; (try simp only [atL_lt h26]); omega) | (have := hsz h30q; simp only [sizeC] at this; omega))) (a:=cb_spec_l05Find) (k:=jr))) ?_)))
              refine jq [0, 2, 7, 8, 9] ?_
              refine W_block (W_loopU (α := Nat × Int) [0, 2, 7, 8, 9] (fun a => [(8, .int .i64 a.2), (9, .int .i64 a.1)]) (fun a => []) (fun a => a.1 ≤ l.length + 1 ∧ (-1 ≤ a.2 ∧ a.2 < l.length) ∧ cycF l i (l.length + 1 - a.1) a.2 = cyc l i) (fun a => l.length + 1 - a.1) ((0, nxt l i)) (fun a => by simp; rfl) (by simp [nxt_nat, atL_lt h26]) ?_ ?_)
              · exact ⟨by simp, @nxt_ge l i, rfl⟩
              rintro ⟨s, up⟩ ⟨hs, hup, hC⟩
              simp only at hs hup hC
              refine W_seq (W_rseqK [0, 2, 7, 8, 9, 131] (js hX 5 (by simp [h1, h3, h6, h13, h21, h26]; rfl) (jm 3 128 [0, 2, 7, 8, 9, 131] (p:=fun b30_5 => by (try simp at b30_5); exact (jh hX (by simp [-atD_lt, -atL_lt]; rfl))) (q:=fun b30_5 => by (try simp at b30_5); exact (jh hX (by simp [-atD_lt, -atL_lt]; rfl))) (k:=jf))) ?_)
              refine jd (fun h30 => ?_) (fun h30 => ?_)
              · try simp at h30
                obtain ⟨p, rfl⟩ : ∃ k : Nat, up = k := ⟨up.toNat, by omega⟩
                have h30q : p < l.length := by omega
                rw [show l.length + 1 - s = (l.length + 1 - (s + 1)) + 1 from by omega] at hC
                simp only [cycF] at hC
                rw [if_neg (by omega)] at hC
                refine W_skip (W_seq (W_block (W_seq (jq [0, 2, 7, 8, 9, 136] ?_))))
                refine jd (fun h32 => ?_) (fun h32 => ?_)
                · try simp at h32
                  refine W_rseqK [2] (jh hX (by simp [h1, h3, h6, h13, h21, h26, h30, h30q]; rfl)) ?_
                  refine W_ret (je (by simp [h1, h3, h6, h13, h21, h26, h30, h30q]; rfl) ?_)
                  rw [if_pos (by simpa using h32)] at hC
                  have hp : pass4 l i = 9 := by simp [pass4, ← hC]
                  rw [if_neg (by rw [hp]; simp), hp] at hI4
                  simp [checkAll, ← hI1, ← hI2, ← hI3, ← hI4]
                · try simp at h32
                  rw [if_neg (by simpa using h32)] at hC
                  refine W_skip (W_reg (js hX 6 (by simp [h1, h3, h6, h13, h21, h26, h30, h30q]; rfl) (jc [] (c:=(by apply ct_spec_l05Find <;> first | assumption | omega | exact hsz (by assumption) | (rw [atL_lt (by assumption)]; exact hsz (by assumption)) | (have := hsz h22; simp only [sizeC] at this; omega) | (have := hsz h13; simp only [sizeC] at this; omega) | (have := hsz h6; simp only [sizeC] at this; (try simp only [atL_lt h6]); omega)| (have := hsz h26; simp only [sizeC] at this; (try simp only [atL_lt h26]); omega) | (have := hsz h30q; simp only [sizeC] at this; omega))) (a:=cb_spec_l05Find) (k:=jr))) ?_)
                  refine W_reg (jh hX (by simp; (try (simp (disch := omega) only [wrap_i64]; (try simp))); rfl)) ?_
                  refine round_end ((s + 1, nxt l p)) [0, 2, 7, 8, 9] (by simp [nxt_nat, h30q]; (try (simp (disch := omega) only [wrap_i64]))) ?_ ?_
                  · exact ⟨by omega, @nxt_ge l p, hC⟩
                  · simp; omega
              · try simp at h30
                have hcy : cyc l i = false := by
                  rw [← hC]
                  rcases Nat.lt_or_ge s (l.length + 1) with h | h
                  · rw [show l.length + 1 - s = (l.length - s) + 1 from by omega, cycF, if_pos (by omega)]
                  · rw [show l.length + 1 - s = 0 from by omega, cycF]
                have hp : pass4 l i = 0 := by simp [pass4, hcy]
                rw [if_pos hp] at hI4
                have hJ := hI4
                refine W_exit (W_reg (jh hX (by simp; (try (simp (disch := omega) only [wrap_i64]; (try simp))); rfl)) ?_)
                refine round_end (i + 1) [0, 2, 7] (by simp [h1, h3, h6, h13, h21, h26, h30]; try (simp (disch := omega) only [wrap_i64])) ?_ ?_
                · exact ⟨by omega, hJ⟩
                · omega
            · try simp at h26
              rw [show l.length - i = 0 from by omega] at hI4
              simp only [firstBad] at hI4
              have hu : ∀ {j : Nat} (h : j < l.length), findFrom l[j].name l 0 = j := fun h => uniq_of_pass1 h (firstBad_none hI1.symm _ (Nat.zero_le _) (by omega))
              have hEn : ∀ j : Nat, j < l.length → Ends l (l.length + 1) j := fun j h => ends_of_noCyc (fun k hk => by have := firstBad_none hI4.symm k (Nat.zero_le _) (by omega); simp only [pass4] at this; split at this <;> simp_all) h
              refine W_exit (W_seq (jq [0, 2, 10] ?_))
              refine W_block (W_loopU (α := Nat) [0, 2, 10] (fun i => [(10, .int .i64 i)]) (fun i => []) (fun i => i ≤ l.length ∧ firstBad (pass5 l) (l.length - i) i = firstBad (pass5 l) l.length 0) (fun i => l.length - i) (0) (fun i => by simp; rfl) (by simp) ?_ ?_)
              · simp
              rintro i ⟨hi5, hI5⟩
              refine W_seq (W_rseqK [0, 2, 10, 149] (jh hX (by simp [h1, h3, h6, h13, h21, h26]; rfl)) ?_)
              refine jd (fun h36 => ?_) (fun h36 => ?_)
              · try simp at h36
                rw [show l.length - i = (l.length - (i + 1)) + 1 from by omega] at hI5
                simp only [firstBad] at hI5
                have hu36 := hu h36
                refine W_skip (W_seq (W_block (W_rseqK [0, 2, 10, 158] (js hX 5 (by simp [h1, h3, h6, h13, h21, h26, h36]; rfl) (jc [] (c:=(by apply ct_spec_l05Access <;> first | assumption | omega | exact hsz (by assumption) | (rw [atL_lt (by assumption)]; exact hsz (by assumption)) | (have := hsz h22; simp only [sizeC] at this; omega) | (have := hsz h13; simp only [sizeC] at this; omega) | (have := hsz h6; simp only [sizeC] at this; (try simp only [atL_lt h6]); omega)| (have := hsz h26; simp only [sizeC] at this; (try simp only [atL_lt h26]); omega) | (have := hsz h30q; simp only [sizeC] at this; omega))) (a:=cb_spec_l05Access) (k:=jr))) ?_)))
                refine jd (fun h38 => ?_) (fun h38 => ?_)
                · try simp at h38
                  refine W_rseqK [2] (jh hX (by simp [h1, h3, h6, h13, h21, h26, h36]; rfl)) ?_
                  refine W_ret (je (by simp [h1, h3, h6, h13, h21, h26, h36]; rfl) ?_)
                  have hp : pass5 l i = 14 := by simp [pass5, h38]
                  rw [if_neg (by rw [hp]; simp), hp] at hI5
                  simp [checkAll, ← hI1, ← hI2, ← hI3, ← hI4, ← hI5]
                · try simp at h38
                  have hp : pass5 l i = 0 := by simp [pass5, h38]
                  rw [if_pos hp] at hI5
                  have hJ := hI5
                  refine W_skip (W_reg (jh hX (by simp; (try (simp (disch := omega) only [wrap_i64]; (try simp))); rfl)) ?_)
                  refine round_end (i + 1) [0, 2, 10] (by simp [h1, h3, h6, h13, h21, h26, h36]; try (simp (disch := omega) only [wrap_i64])) ?_ ?_
                  · exact ⟨by omega, hJ⟩
                  · omega
              · try simp at h36
                rw [show l.length - i = 0 from by omega] at hI5
                simp only [firstBad] at hI5
                refine W_exit (W_rseqK [2] (jh hX (by simp [h1, h3, h6, h13, h21, h26, h36]; rfl)) ?_)
                refine W_ret (je (by simp [h1, h3, h6, h13, h21, h26, h36]; rfl) ?_)
                simp [checkAll, ← hI1, ← hI2, ← hI3, ← hI4, ← hI5]
end Go.Proofs
namespace Go.Proofs
open Go Go.Ev


theorem cb_spec_l05Right : Callable Tryz.prog 61 := ⟨_, Tryz.func61, by kernel_rfl, by kernel_rfl⟩
theorem ct_spec_l05Right {l : List Cls} (hl : sizeL l ≤ 1099511627776) : Ct Tryz.prog 61 [.lst false 6 (l.map eC)] [] (.bool (rightW l)) [] := by
  refine Ct_bodyS tok Tryz.func61 rfl 7 (by kernel_rfl) (by kernel_rfl) fun X hX => ?_
  refine jq [0] ?_
  refine W_rseqK [2] (jt 1 (k:=(jc [] (c:=(by apply ct_spec_WorldCheck <;> first | assumption | omega | (simp at *; omega) | simp_all)) (a:=cb_spec_WorldCheck) (k:=jr)))) ?_
  refine W_ret (je0 ?_)
  simp [rightW]
end Go.Proofs
namespace Go.Proofs
open Go Go.Ev


theorem cb_spec_l06Known : Callable Tryz.prog 73 := ⟨_, Tryz.func73, by kernel_rfl, by kernel_rfl⟩
theorem ct_spec_l06Known {l : List Cls} {t : Typ} (hl : l.length ≤ 1099511627776) : Ct Tryz.prog 73 [.lst false 6 (l.map eC), eT t] [] (.bool (knownT l t)) [] := by
  refine Ct_bodyS tok Tryz.func73 rfl 49 (by kernel_rfl) (by kernel_rfl) fun X hX => ?_
  refine jq [0, 3] ?_
  refine W_seq (jq [0, 3, 6] ?_)
  refine W_block (W_seq (jq [0, 3, 6, 7] ?_))
  refine jd (fun h2 => ?_) (fun h2 => ?_)
  · try simp at h2
    refine W_skip (jd (fun h2_1 => ?_) (fun h2_1 => ?_))
    · try simp at h2_1
      refine W_rseqK [4] (jt 4 (k:=(jm 4 16 [20] (p:=fun b7_4 => by (try simp at b7_4); exact (jh hX (by simp [-atD_lt, -atL_lt]; rfl))) (q:=fun b7_4 => by (try simp at b7_4); exact (jh hX (by simp [-atD_lt, -atL_lt]; rfl))) (k:=jr)))) ?_
      refine W_ret (je0 ?_)
      simp only [knownT]
      (try simp_all) <;> grind
    · try simp at h2_1
      refine W_seq (jq [0, 3, 6, 21] ?_)
      refine jd (fun h8 => ?_) (fun h8 => ?_)
      · try simp at h8
        refine W_skip (jd (fun h8_1 => ?_) (fun h8_1 => ?_))
        · try simp at h8_1
          refine W_rseqK [4] (jt 3 (k:=(jc [] (c:=(by apply ct_spec_l05Known <;> first | assumption | omega | (simp at *; omega) | simp_all)) (a:=cb_spec_l05Known) (k:=(jt 1 (k:=(jm 4 28 [32] (p:=fun b10_5 => by (try simp at b10_5); exact (jh hX (by simp [-atD_lt, -atL_lt]; rfl))) (q:=fun b10_5 => by (try simp at b10_5); exact (jh hX (by simp [-atD_lt, -atL_lt]; rfl))) (k:=jr)))))))) ?_
          refine W_ret (je0 ?_)
          simp only [knownT]
          (try simp_all) <;> grind
        · try simp at h8_1
          refine jq [0, 3, 33] ?_
          refine jd (fun h11 => ?_) (fun h11 => ?_)
          · try simp at h11
            refine W_rseqK [4] (jt 3 (k:=(jc [] (c:=(by apply ct_spec_l05Known <;> first | assumption | omega | (simp at *; omega) | simp_all)) (a:=cb_spec_l05Known) (k:=(jt 1 (k:=(jm 4 39 [3, 43] (p:=fun b12_5 => by (try simp at b12_5); exact (jh hX (by simp [-atD_lt, -atL_lt]; rfl))) (q:=fun b12_5 => by (try simp at b12_5); exact (jh hX (by simp [-atD_lt, -atL_lt]; rfl))) (k:=(jt 1 (k:=(jm 4 44 [48] (p:=fun b12_10 => by (try simp at b12_10); exact (jh hX (by simp [-atD_lt, -atL_lt, b12_10]; rfl))) (q:=fun b12_10 => by (try simp at b12_10); exact (jh hX (by simp [-atD_lt, -atL_lt]; rfl))) (k:=jr)))))))))))) ?_
            refine W_ret (je0 ?_)
            simp only [knownT]
            (try simp_all) <;> grind
          · try simp at h11
            refine W_skip (jq [4] ?_)
            refine W_ret (je0 ?_)
            simp only [knownT]
            (try simp_all) <;> grind
      · try simp at h8
        refine W_reg jr ?_
        refine jd (fun h9 => ?_) (fun h9 => ?_)
        · try simp at h9
          refine W_rseqK [4] (jt 3 (k:=(jc [] (c:=(by apply ct_spec_l05Known <;> first | assumption | omega | (simp at *; omega) | simp_all)) (a:=cb_spec_l05Known) (k:=(jt 1 (k:=(jm 4 28 [32] (p:=fun b10_5 => by (try simp at b10_5); exact (jh hX (by simp [-atD_lt, -atL_lt]; rfl))) (q:=fun b10_5 => by (try simp at b10_5); exact (jh hX (by simp [-atD_lt, -atL_lt]; rfl))) (k:=jr)))))))) ?_
          refine W_ret (je0 ?_)
          simp only [knownT]
          (try simp_all) <;> grind
        · try simp at h9
          refine jq [0, 3, 33] ?_
          refine jd (fun h11 => ?_) (fun h11 => ?_)
          · try simp at h11
            refine W_rseqK [4] (jt 3 (k:=(jc [] (c:=(by apply ct_spec_l05Known <;> first | assumption | omega | (simp at *; omega) | simp_all)) (a:=cb_spec_l05Known) (k:=(jt 1 (k:=(jm 4 39 [3, 43] (p:=fun b12_5 => by (try simp at b12_5); exact (jh hX (by simp [-atD_lt, -atL_lt]; rfl))) (q:=fun b12_5 => by (try simp at b12_5); exact (jh hX (by simp [-atD_lt, -atL_lt]; rfl))) (k:=(jt 1 (k:=(jm 4 44 [48] (p:=fun b12_10 => by (try simp at b12_10); exact (jh hX (by simp [-atD_lt, -atL_lt, b12_10]; rfl))) (q:=fun b12_10 => by (try simp at b12_10); exact (jh hX (by simp [-atD_lt, -atL_lt]; rfl))) (k:=jr)))))))))))) ?_
            refine W_ret (je0 ?_)
            simp only [knownT]
            (try simp_all) <;> grind
          · try simp at h11
            refine W_skip (jq [4] ?_)
            refine W_ret (je0 ?_)
            simp only [knownT]
            (try simp_all) <;> grind
  · try simp at h2
    refine jq [0, 3, 6, 7] ?_
    refine jd (fun h3 => ?_) (fun h3 => ?_)
    · try simp at h3
      refine W_skip (jd (fun h3_1 => ?_) (fun h3_1 => ?_))
      · try simp at h3_1
        refine W_rseqK [4] (jt 4 (k:=(jm 4 16 [20] (p:=fun b7_4 => by (try simp at b7_4); exact (jh hX (by simp [-atD_lt, -atL_lt]; rfl))) (q:=fun b7_4 => by (try simp at b7_4); exact (jh hX (by simp [-atD_lt, -atL_lt]; rfl))) (k:=jr)))) ?_
        refine W_ret (je0 ?_)
        simp only [knownT]
        (try simp_all) <;> grind
      · try simp at h3_1
        refine W_seq (jq [0, 3, 6, 21] ?_)
        refine jd (fun h8 => ?_) (fun h8 => ?_)
        · try simp at h8
          refine W_skip (jd (fun h8_1 => ?_) (fun h8_1 => ?_))
          · try simp at h8_1
            refine W_rseqK [4] (jt 3 (k:=(jc [] (c:=(by apply ct_spec_l05Known <;> first | assumption | omega | (simp at *; omega) | simp_all)) (a:=cb_spec_l05Known) (k:=(jt 1 (k:=(jm 4 28 [32] (p:=fun b10_5 => by (try simp at b10_5); exact (jh hX (by simp [-atD_lt, -atL_lt]; rfl))) (q:=fun b10_5 => by (try simp at b10_5); exact (jh hX (by simp [-atD_lt, -atL_lt]; rfl))) (k:=jr)))))))) ?_
            refine W_ret (je0 ?_)
            simp only [knownT]
            (try simp_all) <;> grind
          · try simp at h8_1
            refine jq [0, 3, 33] ?_
            refine jd (fun h11 => ?_) (fun h11 => ?_)
            · try simp at h11
              refine W_rseqK [4] (jt 3 (k:=(jc [] (c:=(by apply ct_spec_l05Known <;> first | assumption | omega | (simp at *; omega) | simp_all)) (a:=cb_spec_l05Known) (k:=(jt 1 (k:=(jm 4 39 [3, 43] (p:=fun b12_5 => by (try simp at b12_5); exact (jh hX (by simp [-atD_lt, -atL_lt]; rfl))) (q:=fun b12_5 => by (try simp at b12_5); exact (jh hX (by simp [-atD_lt, -atL_lt]; rfl))) (k:=(jt 1 (k:=(jm 4 44 [48] (p:=fun b12_10 => by (try simp at b12_10); exact (jh hX (by simp [-atD_lt, -atL_lt, b12_10]; rfl))) (q:=fun b12_10 => by (try simp at b12_10); exact (jh hX (by simp [-atD_lt, -atL_lt]; rfl))) (k:=jr)))))))))))) ?_
              refine W_ret (je0 ?_)
              simp only [knownT]
              (try simp_all) <;> grind
            · try simp at h11
              refine W_skip (jq [4] ?_)
              refine W_ret (je0 ?_)
              simp only [knownT]
              (try simp_all) <;> grind
        · try simp at h8
          refine W_reg jr ?_
          refine jd (fun h9 => ?_) (fun h9 => ?_)
          · try simp at h9
            refine W_rseqK [4] (jt 3 (k:=(jc [] (c:=(by apply ct_spec_l05Known <;> first | assumption | omega | (simp at *; omega) | simp_all)) (a:=cb_spec_l05Known) (k:=(jt 1 (k:=(jm 4 28 [32] (p:=fun b10_5 => by (try simp at b10_5); exact (jh hX (by simp [-atD_lt, -atL_lt]; rfl))) (q:=fun b10_5 => by (try simp at b10_5); exact (jh hX (by simp [-atD_lt, -atL_lt]; rfl))) (k:=jr)))))))) ?_
            refine W_ret (je0 ?_)
            simp only [knownT]
            (try simp_all) <;> grind
          · try simp at h9
            refine jq [0, 3, 33] ?_
            refine jd (fun h11 => ?_) (fun h11 => ?_)
            · try simp at h11
              refine W_rseqK [4] (jt 3 (k:=(jc [] (c:=(by apply ct_spec_l05Known <;> first | assumption | omega | (simp at *; omega) | simp_all)) (a:=cb_spec_l05Known) (k:=(jt 1 (k:=(jm 4 39 [3, 43] (p:=fun b12_5 => by (try simp at b12_5); exact (jh hX (by simp [-atD_lt, -atL_lt]; rfl))) (q:=fun b12_5 => by (try simp at b12_5); exact (jh hX (by simp [-atD_lt, -atL_lt]; rfl))) (k:=(jt 1 (k:=(jm 4 44 [48] (p:=fun b12_10 => by (try simp at b12_10); exact (jh hX (by simp [-atD_lt, -atL_lt, b12_10]; rfl))) (q:=fun b12_10 => by (try simp at b12_10); exact (jh hX (by simp [-atD_lt, -atL_lt]; rfl))) (k:=jr)))))))))))) ?_
              refine W_ret (je0 ?_)
              simp only [knownT]
              (try simp_all) <;> grind
            · try simp at h11
              refine W_skip (jq [4] ?_)
              refine W_ret (je0 ?_)
              simp only [knownT]
              (try simp_all) <;> grind
    · try simp at h3
      refine jq [0, 3, 6, 7] ?_
      refine jd (fun h4 => ?_) (fun h4 => ?_)
      · try simp at h4
        refine W_skip (jd (fun h4_1 => ?_) (fun h4_1 => ?_))
        · try simp at h4_1
          refine W_rseqK [4] (jt 4 (k:=(jm 4 16 [20] (p:=fun b7_4 => by (try simp at b7_4); exact (jh hX (by simp [-atD_lt, -atL_lt]; rfl))) (q:=fun b7_4 => by (try simp at b7_4); exact (jh hX (by simp [-atD_lt, -atL_lt]; rfl))) (k:=jr)))) ?_
          refine W_ret (je0 ?_)
          simp only [knownT]
          (try simp_all) <;> grind
        · try simp at h4_1
          refine W_seq (jq [0, 3, 6, 21] ?_)
          refine jd (fun h8 => ?_) (fun h8 => ?_)
          · try simp at h8
            refine W_skip (jd (fun h8_1 => ?_) (fun h8_1 => ?_))
            · try simp at h8_1
              refine W_rseqK [4] (jt 3 (k:=(jc [] (c:=(by apply ct_spec_l05Known <;> first | assumption | omega | (simp at *; omega) | simp_all)) (a:=cb_spec_l05Known) (k:=(jt 1 (k:=(jm 4 28 [32] (p:=fun b10_5 => by (try simp at b10_5); exact (jh hX (by simp [-atD_lt, -atL_lt]; rfl))) (q:=fun b10_5 => by (try simp at b10_5); exact (jh hX (by simp [-atD_lt, -atL_lt]; rfl))) (k:=jr)))))))) ?_
              refine W_ret (je0 ?_)
              simp only [knownT]
              (try simp_all) <;> grind
            · try simp at h8_1
              refine jq [0, 3, 33] ?_
              refine jd (fun h11 => ?_) (fun h11 => ?_)
              · try simp at h11
                refine W_rseqK [4] (jt 3 (k:=(jc [] (c:=(by apply ct_spec_l05Known <;> first | assumption | omega | (simp at *; omega) | simp_all)) (a:=cb_spec_l05Known) (k:=(jt 1 (k:=(jm 4 39 [3, 43] (p:=fun b12_5 => by (try simp at b12_5); exact (jh hX (by simp [-atD_lt, -atL_lt]; rfl))) (q:=fun b12_5 => by (try simp at b12_5); exact (jh hX (by simp [-atD_lt, -atL_lt]; rfl))) (k:=(jt 1 (k:=(jm 4 44 [48] (p:=fun b12_10 => by (try simp at b12_10); exact (jh hX (by simp [-atD_lt, -atL_lt, b12_10]; rfl))) (q:=fun b12_10 => by (try simp at b12_10); exact (jh hX (by simp [-atD_lt, -atL_lt]; rfl))) (k:=jr)))))))))))) ?_
                refine W_ret (je0 ?_)
                simp only [knownT]
                (try simp_all) <;> grind
              · try simp at h11
                refine W_skip (jq [4] ?_)
                refine W_ret (je0 ?_)
                simp only [knownT]
                (try simp_all) <;> grind
          · try simp at h8
            refine W_reg jr ?_
            refine jd (fun h9 => ?_) (fun h9 => ?_)
            · try simp at h9
              refine W_rseqK [4] (jt 3 (k:=(jc [] (c:=(by apply ct_spec_l05Known <;> first | assumption | omega | (simp at *; omega) | simp_all)) (a:=cb_spec_l05Known) (k:=(jt 1 (k:=(jm 4 28 [32] (p:=fun b10_5 => by (try simp at b10_5); exact (jh hX (by simp [-atD_lt, -atL_lt]; rfl))) (q:=fun b10_5 => by (try simp at b10_5); exact (jh hX (by simp [-atD_lt, -atL_lt]; rfl))) (k:=jr)))))))) ?_
              refine W_ret (je0 ?_)
              simp only [knownT]
              (try simp_all) <;> grind
            · try simp at h9
              refine jq [0, 3, 33] ?_
              refine jd (fun h11 => ?_) (fun h11 => ?_)
              · try simp at h11
                refine W_rseqK [4] (jt 3 (k:=(jc [] (c:=(by apply ct_spec_l05Known <;> first | assumption | omega | (simp at *; omega) | simp_all)) (a:=cb_spec_l05Known) (k:=(jt 1 (k:=(jm 4 39 [3, 43] (p:=fun b12_5 => by (try simp at b12_5); exact (jh hX (by simp [-atD_lt, -atL_lt]; rfl))) (q:=fun b12_5 => by (try simp at b12_5); exact (jh hX (by simp [-atD_lt, -atL_lt]; rfl))) (k:=(jt 1 (k:=(jm 4 44 [48] (p:=fun b12_10 => by (try simp at b12_10); exact (jh hX (by simp [-atD_lt, -atL_lt, b12_10]; rfl))) (q:=fun b12_10 => by (try simp at b12_10); exact (jh hX (by simp [-atD_lt, -atL_lt]; rfl))) (k:=jr)))))))))))) ?_
                refine W_ret (je0 ?_)
                simp only [knownT]
                (try simp_all) <;> grind
              · try simp at h11
                refine W_skip (jq [4] ?_)
                refine W_ret (je0 ?_)
                simp only [knownT]
                (try simp_all) <;> grind
      · try simp at h4
        refine jq [0, 3, 6, 7] ?_
        refine jd (fun h5 => ?_) (fun h5 => ?_)
        · try simp at h5
          refine W_skip (jd (fun h5_1 => ?_) (fun h5_1 => ?_))
          · try simp at h5_1
            refine W_rseqK [4] (jt 4 (k:=(jm 4 16 [20] (p:=fun b7_4 => by (try simp at b7_4); exact (jh hX (by simp [-atD_lt, -atL_lt]; rfl))) (q:=fun b7_4 => by (try simp at b7_4); exact (jh hX (by simp [-atD_lt, -atL_lt]; rfl))) (k:=jr)))) ?_
            refine W_ret (je0 ?_)
            simp only [knownT]
            (try simp_all) <;> grind
          · try simp at h5_1
            refine W_seq (jq [0, 3, 6, 21] ?_)
            refine jd (fun h8 => ?_) (fun h8 => ?_)
            · try simp at h8
              refine W_skip (jd (fun h8_1 => ?_) (fun h8_1 => ?_))
              · try simp at h8_1
                refine W_rseqK [4] (jt 3 (k:=(jc [] (c:=(by apply ct_spec_l05Known <;> first | assumption | omega | (simp at *; omega) | simp_all)) (a:=cb_spec_l05Known) (k:=(jt 1 (k:=(jm 4 28 [32] (p:=fun b10_5 => by (try simp at b10_5); exact (jh hX (by simp [-atD_lt, -atL_lt]; rfl))) (q:=fun b10_5 => by (try simp at b10_5); exact (jh hX (by simp [-atD_lt, -atL_lt]; rfl))) (k:=jr)))))))) ?_
                refine W_ret (je0 ?_)
                simp only [knownT]
                (try simp_all) <;> grind
              · try simp at h8_1
                refine jq [0, 3, 33] ?_
                refine jd (fun h11 => ?_) (fun h11 => ?_)
                · try simp at h11
                  refine W_rseqK [4] (jt 3 (k:=(jc [] (c:=(by apply ct_spec_l05Known <;> first | assumption | omega | (simp at *; omega) | simp_all)) (a:=cb_spec_l05Known) (k:=(jt 1 (k:=(jm 4 39 [3, 43] (p:=fun b12_5 => by (try simp at b12_5); exact (jh hX (by simp [-atD_lt, -atL_lt]; rfl))) (q:=fun b12_5 => by (try simp at b12_5); exact (jh hX (by simp [-atD_lt, -atL_lt]; rfl))) (k:=(jt 1 (k:=(jm 4 44 [48] (p:=fun b12_10 => by (try simp at b12_10); exact (jh hX (by simp [-atD_lt, -atL_lt, b12_10]; rfl))) (q:=fun b12_10 => by (try simp at b12_10); exact (jh hX (by simp [-atD_lt, -atL_lt]; rfl))) (k:=jr)))))))))))) ?_
                  refine W_ret (je0 ?_)
                  simp only [knownT]
                  (try simp_all) <;> grind
                · try simp at h11
                  refine W_skip (jq [4] ?_)
                  refine W_ret (je0 ?_)
                  simp only [knownT]
                  (try simp_all) <;> grind
            · try simp at h8
              refine W_reg jr ?_
              refine jd (fun h9 => ?_) (fun h9 => ?_)
              · try simp at h9
                refine W_rseqK [4] (jt 3 (k:=(jc [] (c:=(by apply ct_spec_l05Known <;> first | assumption | omega | (simp at *; omega) | simp_all)) (a:=cb_spec_l05Known) (k:=(jt 1 (k:=(jm 4 28 [32] (p:=fun b10_5 => by (try simp at b10_5); exact (jh hX (by simp [-atD_lt, -atL_lt]; rfl))) (q:=fun b10_5 => by (try simp at b10_5); exact (jh hX (by simp [-atD_lt, -atL_lt]; rfl))) (k:=jr)))))))) ?_
                refine W_ret (je0 ?_)
                simp only [knownT]
                (try simp_all) <;> grind
              · try simp at h9
                refine jq [0, 3, 33] ?_
                refine jd (fun h11 => ?_) (fun h11 => ?_)
                · try simp at h11
                  refine W_rseqK [4] (jt 3 (k:=(jc [] (c:=(by apply ct_spec_l05Known <;> first | assumption | omega | (simp at *; omega) | simp_all)) (a:=cb_spec_l05Known) (k:=(jt 1 (k:=(jm 4 39 [3, 43] (p:=fun b12_5 => by (try simp at b12_5); exact (jh hX (by simp [-atD_lt, -atL_lt]; rfl))) (q:=fun b12_5 => by (try simp at b12_5); exact (jh hX (by simp [-atD_lt, -atL_lt]; rfl))) (k:=(jt 1 (k:=(jm 4 44 [48] (p:=fun b12_10 => by (try simp at b12_10); exact (jh hX (by simp [-atD_lt, -atL_lt, b12_10]; rfl))) (q:=fun b12_10 => by (try simp at b12_10); exact (jh hX (by simp [-atD_lt, -atL_lt]; rfl))) (k:=jr)))))))))))) ?_
                  refine W_ret (je0 ?_)
                  simp only [knownT]
                  (try simp_all) <;> grind
                · try simp at h11
                  refine W_skip (jq [4] ?_)
                  refine W_ret (je0 ?_)
                  simp only [knownT]
                  (try simp_all) <;> grind
        · try simp at h5
          refine W_reg jr ?_
          refine jd (fun h6 => ?_) (fun h6 => ?_)
          · try simp at h6
            refine W_rseqK [4] (jt 4 (k:=(jm 4 16 [20] (p:=fun b7_4 => by (try simp at b7_4); exact (jh hX (by simp [-atD_lt, -atL_lt]; rfl))) (q:=fun b7_4 => by (try simp at b7_4); exact (jh hX (by simp [-atD_lt, -atL_lt]; rfl))) (k:=jr)))) ?_
            refine W_ret (je0 ?_)
            simp only [knownT]
            (try simp_all) <;> grind
          · try simp at h6
            refine W_seq (jq [0, 3, 6, 21] ?_)
            refine jd (fun h8 => ?_) (fun h8 => ?_)
            · try simp at h8
              refine W_skip (jd (fun h8_1 => ?_) (fun h8_1 => ?_))
              · try simp at h8_1
                refine W_rseqK [4] (jt 3 (k:=(jc [] (c:=(by apply ct_spec_l05Known <;> first | assumption | omega | (simp at *; omega) | simp_all)) (a:=cb_spec_l05Known) (k:=(jt 1 (k:=(jm 4 28 [32] (p:=fun b10_5 => by (try simp at b10_5); exact (jh hX (by simp [-atD_lt, -atL_lt]; rfl))) (q:=fun b10_5 => by (try simp at b10_5); exact (jh hX (by simp [-atD_lt, -atL_lt]; rfl))) (k:=jr)))))))) ?_
                refine W_ret (je0 ?_)
                simp only [knownT]
                (try simp_all) <;> grind
              · try simp at h8_1
                refine jq [0, 3, 33] ?_
                refine jd (fun h11 => ?_) (fun h11 => ?_)
                · try simp at h11
                  refine W_rseqK [4] (jt 3 (k:=(jc [] (c:=(by apply ct_spec_l05Known <;> first | assumption | omega | (simp at *; omega) | simp_all)) (a:=cb_spec_l05Known) (k:=(jt 1 (k:=(jm 4 39 [3, 43] (p:=fun b12_5 => by (try simp at b12_5); exact (jh hX (by simp [-atD_lt, -atL_lt]; rfl))) (q:=fun b12_5 => by (try simp at b12_5); exact (jh hX (by simp [-atD_lt, -atL_lt]; rfl))) (k:=(jt 1 (k:=(jm 4 44 [48] (p:=fun b12_10 => by (try simp at b12_10); exact (jh hX (by simp [-atD_lt, -atL_lt, b12_10]; rfl))) (q:=fun b12_10 => by (try simp at b12_10); exact (jh hX (by simp [-atD_lt, -atL_lt]; rfl))) (k:=jr)))))))))))) ?_
                  refine W_ret (je0 ?_)
                  simp only [knownT]
                  (try simp_all) <;> grind
                · try simp at h11
                  refine W_skip (jq [4] ?_)
                  refine W_ret (je0 ?_)
                  simp only [knownT]
                  (try simp_all) <;> grind
            · try simp at h8
              refine W_reg jr ?_
              refine jd (fun h9 => ?_) (fun h9 => ?_)
              · try simp at h9
                refine W_rseqK [4] (jt 3 (k:=(jc [] (c:=(by apply ct_spec_l05Known <;> first | assumption | omega | (simp at *; omega) | simp_all)) (a:=cb_spec_l05Known) (k:=(jt 1 (k:=(jm 4 28 [32] (p:=fun b10_5 => by (try simp at b10_5); exact (jh hX (by simp [-atD_lt, -atL_lt]; rfl))) (q:=fun b10_5 => by (try simp at b10_5); exact (jh hX (by simp [-atD_lt, -atL_lt]; rfl))) (k:=jr)))))))) ?_
                refine W_ret (je0 ?_)
                simp only [knownT]
                (try simp_all) <;> grind
              · try simp at h9
                refine jq [0, 3, 33] ?_
                refine jd (fun h11 => ?_) (fun h11 => ?_)
                · try simp at h11
                  refine W_rseqK [4] (jt 3 (k:=(jc [] (c:=(by apply ct_spec_l05Known <;> first | assumption | omega | (simp at *; omega) | simp_all)) (a:=cb_spec_l05Known) (k:=(jt 1 (k:=(jm 4 39 [3, 43] (p:=fun b12_5 => by (try simp at b12_5); exact (jh hX (by simp [-atD_lt, -atL_lt]; rfl))) (q:=fun b12_5 => by (try simp at b12_5); exact (jh hX (by simp [-atD_lt, -atL_lt]; rfl))) (k:=(jt 1 (k:=(jm 4 44 [48] (p:=fun b12_10 => by (try simp at b12_10); exact (jh hX (by simp [-atD_lt, -atL_lt, b12_10]; rfl))) (q:=fun b12_10 => by (try simp at b12_10); exact (jh hX (by simp [-atD_lt, -atL_lt]; rfl))) (k:=jr)))))))))))) ?_
                  refine W_ret (je0 ?_)
                  simp only [knownT]
                  (try simp_all) <;> grind
                · try simp at h11
                  refine W_skip (jq [4] ?_)
                  refine W_ret (je0 ?_)
                  simp only [knownT]
                  (try simp_all) <;> grind
end Go.Proofs
namespace Go.Proofs
open Go Go.Ev


theorem cb_spec_l07Frame : Callable Tryz.prog 78 := ⟨_, Tryz.func78, by kernel_rfl, by kernel_rfl⟩
theorem ct_spec_l07Frame {l : List Cls} {f : Frm} (hl : l.length ≤ 1099511627776) : Ct Tryz.prog 78 [.lst false 6 (l.map eC), eFr f] [] (.bool (frmR l f)) [] := by
  refine Ct_bodyS tok Tryz.func78 rfl 47 (by kernel_rfl) (by kernel_rfl) fun X hX => ?_
  refine jq [0, 3] ?_
  refine W_seq (W_rseqK [0, 3, 16] (jt 5 (k:=(jm 5 11 [0, 3, 16] (p:=fun b1_5 => by (try simp at b1_5); exact (jh hX (by simp [-atD_lt, -atL_lt]; rfl))) (q:=fun b1_5 => by (try simp at b1_5); exact (jh hX (by simp [-atD_lt, -atL_lt, b1_5]; rfl))) (k:=jf)))) ?_)
  refine jd (fun h1 => ?_) (fun h1 => ?_)
  · try simp at h1
    refine jq [4] ?_
    refine W_ret (je (by simp [h1]; rfl) ?_)
    unfold frmR; grind
  · try simp at h1
    refine W_skip (W_seq (jq [0, 3, 5] ?_))
    refine W_block (W_loopU (α := Nat) [0, 3, 5] (fun i => [(5, .int .i64 i)]) (fun i => []) (fun i => i ≤ f.stack.length ∧ (f.stack.drop i).all (knownT l) = f.stack.all (knownT l)) (fun i => f.stack.length - i) (0) (fun i => by simp; rfl) (by simp) ?_ ?_)
    · simp
    rintro i ⟨hi, hI⟩
    refine W_seq (W_rseqK [0, 3, 5, 21] (jh hX (by simp [h1]; rfl)) ?_)
    refine jd (fun h4 => ?_) (fun h4 => ?_)
    · try simp at h4
      rw [all_drop h4] at hI
      refine W_skip (W_seq (W_block (W_rseqK [0, 3, 5, 31] (js hX 6 (by simp [h1, h4]; rfl) (jc [] (c:=(by apply ct_spec_l06Known <;> first | assumption | omega | (simp at *; omega) | simp_all)) (a:=cb_spec_l06Known) (k:=jr))) ?_)))
      refine jd (fun h6 => ?_) (fun h6 => ?_)
      · try simp at h6
        refine jq [4] ?_
        refine W_ret (je (by simp [h1, h4]; rfl) ?_)
        unfold frmR; rw [← hI, h6]; simp
      · try simp at h6
        rw [h6, Bool.true_and] at hI
        refine W_skip (W_reg (jh hX (by simp; (try (simp (disch := omega) only [wrap_i64]; (try simp))); rfl)) ?_)
        refine round_end (i + 1) [0, 3, 5] (by simp [h1, h4]; try (simp (disch := omega) only [wrap_i64])) ?_ ?_
        · exact ⟨by omega, hI⟩
        · omega
    · try simp at h4
      rw [List.drop_eq_nil_of_le h4] at hI
      refine W_exit (W_seq (jq [0, 3, 6] ?_))
      refine W_block (W_loopU (α := Nat) [0, 3, 6] (fun i => [(6, .int .i64 i)]) (fun i => []) (fun i => i ≤ f.locals.length ∧ (f.locals.drop i).all (knownT l) = f.locals.all (knownT l)) (fun i => f.locals.length - i) (0) (fun i => by simp; rfl) (by simp) ?_ ?_)
      · simp
      rintro i ⟨hj, hJ⟩
      refine W_seq (W_rseqK [0, 3, 6, 36] (jh hX (by simp [h1, h4]; rfl)) ?_)
      refine jd (fun h9 => ?_) (fun h9 => ?_)
      · try simp at h9
        rw [all_drop h9] at hJ
        refine W_skip (W_seq (W_block (W_rseqK [0, 3, 6, 46] (js hX 6 (by simp [h1, h4, h9]; rfl) (jc [] (c:=(by apply ct_spec_l06Known <;> first | assumption | omega | (simp at *; omega) | simp_all)) (a:=cb_spec_l06Known) (k:=jr))) ?_)))
        refine jd (fun h11 => ?_) (fun h11 => ?_)
        · try simp at h11
          refine jq [4] ?_
          refine W_ret (je (by simp [h1, h4, h9]; rfl) ?_)
          unfold frmR; rw [← hJ, h11]; simp
        · try simp at h11
          rw [h11, Bool.true_and] at hJ
          refine W_skip (W_reg (jh hX (by simp; (try (simp (disch := omega) only [wrap_i64]; (try simp))); rfl)) ?_)
          refine round_end (i + 1) [0, 3, 6] (by simp [h1, h4, h9]; try (simp (disch := omega) only [wrap_i64])) ?_ ?_
          · exact ⟨by omega, hJ⟩
          · omega
      · try simp at h9
        rw [List.drop_eq_nil_of_le h9] at hJ
        refine W_exit (jq [4] ?_)
        refine W_ret (je (by simp [h1, h4, h9]; rfl) ?_)
        unfold frmR; rw [← hI, ← hJ]; grind
end Go.Proofs
namespace Go.Proofs
open Go Go.Ev


theorem cb_spec_FrameRight : Callable Tryz.prog 28 := ⟨_, Tryz.func28, by kernel_rfl, by kernel_rfl⟩
theorem ct_spec_FrameRight {l : List Cls} {f : Frm} (hl : sizeL l ≤ 1099511627776) : Ct Tryz.prog 28 [.lst false 6 (l.map eC), eFr f] [] (.bool (frmRightW l f)) [] := by
  have hll : l.length ≤ 1099511627776 := by unfold sizeL at hl; omega
  refine Ct_bodyS tok Tryz.func28 rfl 12 (by kernel_rfl) (by kernel_rfl) fun X hX => ?_
  refine jq [0, 3] ?_
  refine W_rseqK [4] (jt 1 (k:=(jc [] (c:=(by apply ct_spec_l05Right <;> first | assumption | omega | (simp at *; omega) | simp_all)) (a:=cb_spec_l05Right) (k:=(jt 1 (k:=(jm 4 7 [11] (p:=fun b1_3 => by (try simp at b1_3); exact (js hX 2 (by simp [-atD_lt, -atL_lt]; rfl) (Runs.call [] rfl (by simp) rfl (by simp [-atD_lt, -atL_lt]; rfl) (by simp; rfl) (by apply ct_spec_l07Frame <;> first | assumption | omega | (simp at *; omega) | simp_all) cb_spec_l07Frame (by simp) (by simp) (by simp [-atD_lt, -atL_lt]; rfl) (jh hX (by simp [-atD_lt, -atL_lt]; rfl))))) (q:=fun b1_3 => by (try simp at b1_3); exact (jh hX (by simp [-atD_lt, -atL_lt]; rfl))) (k:=jr)))))))) ?_
  refine W_ret (je0 ?_)
  simp only [frmRightW]
end Go.Proofs
namespace Go.Proofs
open Go Go.Ev


theorem cb_spec_l05Super : Callable Tryz.prog 114 := ⟨_, Tryz.func114, by kernel_rfl, by kernel_rfl⟩
theorem ct_spec_l05Super {l : List Cls} {n : Str} (hl : l.length ≤ 1099511627776) : Ct Tryz.prog 114 [.lst false 6 (l.map eC), .str n] [] (.str (superOf l n)) [] := by
  refine Ct_bodyS tok Tryz.func114 rfl 24 (by kernel_rfl) (by kernel_rfl) fun X hX => ?_
  refine jq [0, 1] ?_
  refine W_rseqK [0, 1, 5] (jt 1 (k:=(jc [] (c:=(by apply ct_spec_l05Built <;> first | assumption | omega | (simp at *; omega) | simp_all)) (a:=cb_spec_l05Built) (k:=jr)))) ?_
  refine W_seq (jq [0, 1, 5, 9] ?_)
  refine jd (fun h2 => ?_) (fun h2 => ?_)
  · try simp at h2
    refine jq [4] ?_
    refine W_ret (je0 ?_)
    simp only [superOf, sObject, sError]
    (try simp_all) <;> grind
  · try simp at h2
    refine W_skip (W_seq (jq [0, 1, 5, 11] ?_))
    refine jd (fun h4 => ?_) (fun h4 => ?_)
    · try simp at h4
      refine jq [4] ?_
      refine W_ret (je0 ?_)
      simp only [superOf, sObject, sError]
      (try simp_all) <;> grind
    · try simp at h4
      refine W_skip (W_seq (jq [0, 1, 13] ?_))
      refine jd (fun h6 => ?_) (fun h6 => ?_)
      · try simp at h6
        refine jq [4] ?_
        refine W_ret (je (by simp [h6]; rfl) ?_)
        simp only [superOf, sObject, sError]
        (try simp_all) <;> grind
      · try simp at h6
        refine W_skip (W_rseqK [0, 5] (jt 2 (k:=(jc [] (c:=(by apply ct_spec_l05Find <;> first | assumption | omega | (simp at *; omega) | simp_all)) (a:=cb_spec_l05Find) (k:=jr)))) ?_)
        refine W_seq (jq [0, 5, 18] ?_)
        refine jd (fun h9 => ?_) (fun h9 => ?_)
        · try simp at h9
          refine jq [4] ?_
          refine W_ret (je (by simp [h6, h9]; rfl) ?_)
          simp only [superOf, sObject, sError]
          (try simp_all) <;> grind
        · try simp at h9
          have h9b := findFrom_lt (n := n) (l := l) (by omega)
          have h9c : 0 ≤ findFrom n l 0 := by omega
          refine W_skip (W_rseqK [4] (jh hX (by simp [h6, h9, h9b, h9c]; rfl)) ?_)
          refine W_ret (je (by simp [h6, h9, h9b, h9c]; rfl) ?_)
          simp only [superOf, sObject, sError]
          (try simp_all) <;> grind
end Go.Proofs
namespace Go.Proofs
open Go Go.Ev


theorem cb_spec_l05Sub : Callable Tryz.prog 113 := ⟨_, Tryz.func113, by kernel_rfl, by kernel_rfl⟩
theorem ct_spec_l05Sub {l : List Cls} {a b : Str} (hl : l.length ≤ 1099511627776) (hw : rightW l = true) : Ct Tryz.prog 113 [.lst false 6 (l.map eC), .str a, .str b] [] (.bool (subS l a b)) [] := by
  refine Ct_bodyS tok Tryz.func113 rfl 15 (by kernel_rfl) (by kernel_rfl) fun X hX => ?_
  refine jq [0, 1, 2] ?_
  refine W_seq (W_block (W_loopU (α := Str) [0, 1, 2] (fun x => [(1, .str x)]) (fun x => []) (fun x => subS l x b = subS l a b) (fun x => (chS l x).length) (a) (fun x => by simp; rfl) (by simp) ?_ ?_))
  · rfl
  rintro x hI
  refine W_seq (jq [0, 1, 2, 8] ?_)
  refine jd (fun h1 => ?_) (fun h1 => ?_)
  · try simp at h1
    rw [subS_go hw h1] at hI
    refine W_skip (W_block (W_seq (jq [0, 1, 2, 11] ?_)))
    refine jd (fun h2 => ?_) (fun h2 => ?_)
    · try simp at h2
      refine jq [6] ?_
      refine W_ret (je0 ?_)
      rw [← hI, h2]; simp
    · try simp at h2
      rw [decide_eq_false (fun e => h2 e.symm), Bool.false_or] at hI
      refine W_skip (W_reg (jt 2 (k:=(jc [] (c:=(by apply ct_spec_l05Super <;> first | assumption | omega | (simp at *; omega) | simp_all)) (a:=cb_spec_l05Super) (k:=jr)))) ?_)
      refine round_end (superOf l x) [0, 1, 2] (by simp; try (simp (disch := omega) only [wrap_i64])) ?_ ?_
      · exact hI
      · rw [chS_go hw h1]; simp
  · try simp at h1
    refine W_exit (jq [6] ?_)
    refine W_ret (je0 ?_)
    rw [← hI, h1, subS_nil hw]
end Go.Proofs
namespace Go.Proofs
open Go Go.Ev


theorem cb_spec_l05Common : Callable Tryz.prog 63 := ⟨_, Tryz.func63, by kernel_rfl, by kernel_rfl⟩
theorem ct_spec_l05Common {l : List Cls} (hl : l.length ≤ 1099511627776) (hw : rightW l = true) {a b : Str} : Ct Tryz.prog 63 [.lst false 6 (l.map eC), .str a, .str b] [] (.str (comS l a b)) [] := by
  refine Ct_bodyS tok Tryz.func63 rfl 20 (by kernel_rfl) (by kernel_rfl) fun X hX => ?_
  refine jq [0, 1, 2] ?_
  refine W_seq (W_block (W_loopU (α := Str) [0, 1, 2] (fun x => [(1, .str x)]) (fun x => []) (fun x => comS l x b = comS l a b) (fun x => (chS l x).length) (a) (fun x => by simp; rfl) (by simp) ?_ ?_))
  · rfl
  rintro x hI
  refine W_seq (W_rseqK [0, 1, 2, 15] (jt 3 (k:=(jm 6 9 [0, 1, 2, 15] (p:=fun b1_3 => by (try simp at b1_3); exact (js hX 3 (by simp [-atD_lt, -atL_lt]; rfl) (Runs.call [] rfl (by simp) rfl (by simp [-atD_lt, -atL_lt]; rfl) (by simp; rfl) (by apply ct_spec_l05Sub <;> first | assumption | omega | (simp at *; omega) | simp_all) cb_spec_l05Sub (by simp) (by simp) (by simp [-atD_lt, -atL_lt]; rfl) (jh hX (by simp [-atD_lt, -atL_lt]; rfl))))) (q:=fun b1_3 => by (try simp at b1_3); exact (jh hX (by simp [-atD_lt, -atL_lt]; rfl))) (k:=jf)))) ?_)
  refine jd (fun h1 => ?_) (fun h1 => ?_)
  · try simp at h1
    rw [comS_go hw h1.1, if_neg (by simp [h1.2])] at hI
    refine W_skip (W_block (W_reg (jt 2 (k:=(jc [] (c:=(by apply ct_spec_l05Super <;> first | assumption | omega | (simp at *; omega) | simp_all)) (a:=cb_spec_l05Super) (k:=jr)))) ?_))
    refine round_end (superOf l x) [0, 1, 2] (by simp; try (simp (disch := omega) only [wrap_i64])) ?_ ?_
    · exact hI
    · rw [chS_go hw h1.1]; simp
  · try simp at h1
    refine W_exit (jq [6] ?_)
    refine W_ret (je0 ?_)
    rw [← hI]
    by_cases hx : x = []
    · rw [hx, comS_nil hw]
    · rw [comS_go hw hx, if_pos (by simpa using h1 hx)]
end Go.Proofs
namespace Go.Proofs
open Go Go.Ev


theorem cb_spec_l06List : Callable Tryz.prog 126 := ⟨_, Tryz.func126, by kernel_rfl, by kernel_rfl⟩
theorem ct_spec_l06List {t : Typ} : Ct Tryz.prog 126 [eT t] [] (.bool (decide (t.k = 4 ∨ t.k = 5))) [] := by
  refine Ct_bodyS tok Tryz.func126 rfl 11 (by kernel_rfl) (by kernel_rfl) fun X hX => ?_
  refine jq [1] ?_
  refine W_rseqK [2] (jt 4 (k:=(jm 4 6 [10] (p:=fun b1_4 => by (try simp at b1_4); exact (jh hX (by simp [-atD_lt, -atL_lt]; rfl))) (q:=fun b1_4 => by (try simp at b1_4); exact (jh hX (by simp [-atD_lt, -atL_lt]; rfl))) (k:=jr)))) ?_
  refine W_ret (je0 ?_)
  simp
end Go.Proofs
namespace Go.Proofs
open Go Go.Ev


theorem cb_spec_l06Lub : Callable Tryz.prog 84 := ⟨_, Tryz.func84, by kernel_rfl, by kernel_rfl⟩
theorem ct_spec_l06Lub {l : List Cls} (hl : l.length ≤ 1099511627776) (hw : rightW l = true) {a b : Typ} : Ct Tryz.prog 84 [.lst false 6 (l.map eC), eT a, eT b] [] (eT (lubT l a b)) [] := by
  refine Ct_bodyS tok Tryz.func84 rfl 78 (by kernel_rfl) (by kernel_rfl) fun X hX => ?_
  refine jq [0, 4, 5, 6] ?_
  refine jq [0, 4, 5, 6, 7] ?_
  refine W_rseqK [0, 4, 5, 6, 7, 8] (jt 4 (k:=(jm 3 14 [0, 4, 5, 6, 7, 17] (p:=fun b2_4 => by (try simp at b2_4); exact (jh hX (by simp [-atD_lt, -atL_lt]; rfl))) (q:=fun b2_4 => by (try simp at b2_4); exact (js hX 1 (by simp [-atD_lt, -atL_lt]; rfl) (Runs.call [] rfl (by simp) rfl (by simp [-atD_lt, -atL_lt]; rfl) (by simp; rfl) (by apply ct_spec_l06List <;> first | assumption | omega | (simp at *; omega) | simp_all) cb_spec_l06List (by simp) (by simp) (by simp [-atD_lt, -atL_lt]; rfl) (jh hX (by simp [-atD_lt, -atL_lt]; rfl))))) (k:=jr)))) ?_
  refine W_rseqK [0, 4, 5, 6, 7, 8, 9] (jt 4 (k:=(jm 3 21 [0, 4, 5, 6, 7, 8, 24] (p:=fun b3_4 => by (try simp at b3_4); exact (jh hX (by simp [-atD_lt, -atL_lt]; rfl))) (q:=fun b3_4 => by (try simp at b3_4); exact (js hX 1 (by simp [-atD_lt, -atL_lt]; rfl) (Runs.call [] rfl (by simp) rfl (by simp [-atD_lt, -atL_lt]; rfl) (by simp; rfl) (by apply ct_spec_l06List <;> first | assumption | omega | (simp at *; omega) | simp_all) cb_spec_l06List (by simp) (by simp) (by simp [-atD_lt, -atL_lt]; rfl) (jh hX (by simp [-atD_lt, -atL_lt]; rfl))))) (k:=jr)))) ?_
  refine W_seq (W_block (jq [0, 4, 5, 6, 7, 8, 9, 25] ?_))
  refine jd (fun h4 => ?_) (fun h4 => ?_)
  · try simp at h4
    refine jq [6] ?_
    refine W_ret (je0 ?_)
    cases a; cases b; simp only [lubT, objT, zT, sObject, eT] at *
    (try simp_all) <;> grind
  · try simp at h4
    refine W_rseqK [0, 4, 5, 6, 7, 8, 9, 30] (jt 4 (k:=(jm 2 34 [0, 4, 5, 6, 7, 8, 9, 36] (p:=fun b6_4 => by (try simp at b6_4); exact (jh hX (by simp [-atD_lt, -atL_lt]; rfl))) (q:=fun b6_4 => by (try simp at b6_4); exact (jh hX (by simp [-atD_lt, -atL_lt]; rfl))) (k:=jr)))) ?_
    refine jd (fun h6 => ?_) (fun h6 => ?_)
    · try simp at h6
      refine jq [6] ?_
      refine W_ret (je0 ?_)
      cases a; cases b; simp only [lubT, objT, zT, sObject, eT] at *
      (try simp_all) <;> grind
    · try simp at h6
      refine W_rseqK [0, 4, 5, 6, 7, 8, 9, 38] (jt 4 (k:=(jm 2 42 [0, 4, 5, 6, 7, 8, 9, 44] (p:=fun b8_4 => by (try simp at b8_4); exact (jh hX (by simp [-atD_lt, -atL_lt]; rfl))) (q:=fun b8_4 => by (try simp at b8_4); exact (jh hX (by simp [-atD_lt, -atL_lt]; rfl))) (k:=jr)))) ?_
      refine jd (fun h8 => ?_) (fun h8 => ?_)
      · try simp at h8
        refine jq [6] ?_
        refine W_ret (je0 ?_)
        cases a; cases b; simp only [lubT, objT, zT, sObject, eT] at *
        (try simp_all) <;> grind
      · try simp at h8
        refine W_rseqK [0, 4, 5, 6, 7, 8, 9, 46] (jt 6 (k:=(jm 9 52 [0, 4, 5, 6, 7, 8, 9, 61] (p:=fun b10_6 => by (try simp at b10_6); exact (js hX 4 (by simp [-atD_lt, -atL_lt]; rfl) (jm 4 56 [0, 4, 5, 6, 7, 8, 9, 52, 60] (p:=fun b10_10 => by (try simp at b10_10); exact (jh hX (by simp [-atD_lt, -atL_lt]; rfl))) (q:=fun b10_10 => by (try simp at b10_10); exact (jh hX (by simp [-atD_lt, -atL_lt]; rfl))) (k:=(jh hX (by simp [-atD_lt, -atL_lt]; rfl)))))) (q:=fun b10_6 => by (try simp at b10_6); exact (jh hX (by simp [-atD_lt, -atL_lt]; rfl))) (k:=jr)))) ?_
        refine jd (fun h10 => ?_) (fun h10 => ?_)
        · try simp at h10
          refine jL 8 [0, 1, 2, 3, 4, 5, 6] [7] [6] ([0, 1]) hX (by simp; rfl) (jH (p:=fun X hX => (jc [] (c:=(by apply ct_spec_l05Common <;> first | assumption | omega | (simp at *; omega) | simp_all)) (a:=cb_spec_l05Common) (k:=jf))) (k:=.nil)) jr ?_
          refine W_ret (je0 ?_)
          cases a; cases b; simp only [lubT, objT, zT, sObject, eT] at *
          (try simp_all) <;> grind
        · try simp at h10
          refine W_rseqK [6, 7, 71] (jt 2 (k:=(jm 2 73 [6, 7, 75] (p:=fun b12_2 => by (try simp at b12_2); exact (jh hX (by simp [-atD_lt, -atL_lt]; rfl))) (q:=fun b12_2 => by (try simp at b12_2); exact (jh hX (by simp [-atD_lt, -atL_lt]; rfl))) (k:=jr)))) ?_
          refine jd (fun h12 => ?_) (fun h12 => ?_)
          · try simp at h12
            refine jq [6] ?_
            refine W_ret (je0 ?_)
            cases a; cases b; simp only [lubT, objT, zT, sObject, eT] at *
            (try simp_all) <;> grind
          · try simp at h12
            refine W_skip (jq [6] ?_)
            refine W_ret (je0 ?_)
            cases a; cases b; simp only [lubT, objT, zT, sObject, eT] at *
            (try simp_all) <;> grind
end Go.Proofs
namespace Go.Proofs
open Go Go.Ev


theorem cb_spec_l07Lubs : Callable Tryz.prog 158 := ⟨_, Tryz.func158, by kernel_rfl, by kernel_rfl⟩
theorem ct_spec_l07Lubs {l : List Cls} (hl : l.length ≤ 1099511627776) (hw : rightW l = true) {x y : List Typ} (hx : x.length ≤ 1048576) (e : x.length = y.length) : Ct Tryz.prog 158 [.lst false 6 (l.map eC), .lst false 3 (x.map eT), .lst false 3 (y.map eT)] [] (.lst true 3 ((lubLs (lubT l) x y).map eT)) [] := by
  refine Ct_bodyS tok Tryz.func158 rfl 30 (by kernel_rfl) (by kernel_rfl) fun X hX => ?_
  refine jq [0, 1, 2] ?_
  refine jq [0, 1, 2, 7] ?_
  refine W_seq (jq [0, 1, 2, 7, 8] ?_)
  refine W_block (W_loopU (α := List Typ × Nat) [0, 1, 2, 7, 8] (fun p => [(7, .arr 0 0 p.1.length), (8, .int .i64 p.2)]) (fun p => [(0, some (3, p.1.map eT))]) (fun p => p.2 ≤ x.length ∧ p.1.length = p.2 ∧ p.1 = lubLs (lubT l) (x.take p.2) (y.take p.2)) (fun p => x.length - p.2) (([], 0)) (fun p => by simp; rfl) (by simp) ?_ ?_)
  · simp [lubLs]
  rintro ⟨o, i⟩ ⟨hi, hn, hI⟩
  simp only at hi hn hI
  have w0 : o.length ≤ 1099511627776 := by omega
  have w1 : (o.length + 1) * 32 ≤ 140737488355328 := by omega
  have w2 : o.length ≤ 1099511627775 := by omega
  refine W_seq (W_rseqK [0, 1, 2, 7, 8, 13] (jh hX (by simp [w0, w1, w2]; rfl)) ?_)
  refine jd (fun h3 => ?_) (fun h3 => ?_)
  · try simp at h3
    have h3b : i < y.length := by omega
    refine W_skip (W_seq (W_block (W_held (n := 12) (A := [0, 1, 2, 3, 4, 5, 6, 7, 8, 9]) (B := [10, 11]) (L := []) hmo (by kernel_rfl) tok hX (by simp [w0, w1, w2, h3, h3b]; rfl) (jH (p:=fun X hX => (jc [] (c:=(by apply ct_spec_l06Lub <;> first | assumption | omega | (simp at *; omega) | simp_all)) (a:=cb_spec_l06Lub) (k:=jf))) (k:=(jH (p:=fun X hX => jr) (k:=.nil)))) (jh hX (by simp [w0, w1, w2, h3, h3b]; rfl)) ?_)))
    refine W_reg (jh hX (by simp; (try (simp (disch := omega) only [wrap_i64]; (try simp))); rfl)) ?_
    refine round_endT ((o ++ [lubT l x[i] y[i]], i + 1)) [0, 1, 2, 7, 8] 1 (by simp [hX]) (by simp) (by simp [w0, w1, w2, h3, h3b]; try (simp (disch := omega) only [wrap_i64])) ?_ ?_
    · exact ⟨by simp only; omega, by simp [hn], by simp only; rw [lubLs_snoc h3 e, hI]⟩
    · simp only; omega
  · try simp at h3
    refine W_exit (jq [6] ?_)
    refine W_ret (W_retR (by simp [w0, w1, w2, h3]; rfl) ?_ rfl)
    obtain rfl : i = x.length := by omega
    rw [List.take_of_length_le (Nat.le_refl _), List.take_of_length_le (by omega)] at hI
    rw [← hI]
    exact Wk.refl _
end Go.Proofs
namespace Go.Proofs
open Go Go.Ev


theorem cb_spec_l07Lub : Callable Tryz.prog 105 := ⟨_, Tryz.func105, by kernel_rfl, by kernel_rfl⟩
theorem ct_spec_l07Lub {l : List Cls} (hl : l.length ≤ 1099511627776) (hw : rightW l = true) {a b : Frm} (ha : a.stack.length ≤ 1048576) (hb : a.locals.length ≤ 1048576) (e : a.locals.length = b.locals.length) : Ct Tryz.prog 105 [.lst false 6 (l.map eC), eFr a, eFr b] [] (oFo (if a.stack.length = b.stack.length then ⟨frmLubT l a b, 0⟩ else zFo 11)) [] := by
  refine Ct_bodyS tok Tryz.func105 rfl 29 (by kernel_rfl) (by kernel_rfl) fun X hX => ?_
  refine jq [0, 4, 5, 6] ?_
  refine W_seq (jq [0, 4, 5, 6, 13] ?_)
  refine jd (fun h1 => ?_) (fun h1 => ?_)
  · try simp at h1
    refine jq [6] ?_
    refine W_ret (W_retR (by simp; rfl) ?_ rfl)
    rw [if_neg (by omega)]
    simp only [zFo]
    exact Wk.agg (.cons (Wk.nilSlice _ _) (.cons (Wk.nilSlice _ _) (.cons (Wk.refl _) .nil)))
  · try simp at h1
    have h1b : a.stack.length = b.stack.length := by omega
    refine W_skip (jL 11 [0, 1, 2, 3, 4, 6, 7, 8, 9, 10] [5] [6] ([0, 1]) hX (by simp; rfl) (jH (p:=fun X hX => (jc [] (c:=(by apply ct_spec_l07Lubs <;> first | assumption | omega | (simp at *; omega) | simp_all)) (a:=cb_spec_l07Lubs) (k:=jf))) (k:=.nil)) (jc [] (c:=(by apply ct_spec_l07Lubs <;> first | assumption | omega | (simp at *; omega) | simp_all)) (a:=cb_spec_l07Lubs) (k:=jr)) ?_)
    refine W_ret (W_retR (by simp; rfl) ?_ rfl)
    rw [if_pos (by omega)]
    exact Wk.refl _
end Go.Proofs
namespace Go.Proofs
open Go Go.Ev


theorem cb_spec_FrameLub : Callable Tryz.prog 57 := ⟨_, Tryz.func57, by kernel_rfl, by kernel_rfl⟩
theorem ct_spec_FrameLub {l : List Cls} {a b : Frm} (hl : sizeL l ≤ 1099511627776) (ha : sizeFr a ≤ 1099511627776) (hb : sizeFr b ≤ 1099511627776) : Ct Tryz.prog 57 [.lst false 6 (l.map eC), eFr a, eFr b] [] (oFo (frmLubW l a b)) [] := by
  have hll : l.length ≤ 1099511627776 := by unfold sizeL at hl; omega
  simp only [sizeFr] at ha hb
  refine Ct_bodyS tok Tryz.func57 rfl 35 (by kernel_rfl) (by kernel_rfl) fun X hX => ?_
  refine jq [0, 4, 5, 6] ?_
  refine W_seq (jq [0, 4, 5, 6, 9] ?_)
  refine jd (fun h1 => ?_) (fun h1 => ?_)
  · try simp at h1
    refine W_rseqK [6] (jh hX (by simp [h1]; rfl)) ?_
    refine W_ret (W_retR (by simp [h1]; rfl) ?_ rfl)
    rw [frmLubW, if_pos (by omega)]
    exact Wk.agg (.cons (Wk.nilSlice _ _) (.cons (Wk.nilSlice _ _) (.cons (Wk.refl _) .nil)))
  · try simp at h1
    refine W_skip (W_seq (W_rseqK [0, 4, 5, 6, 29] (js hX 2 (by simp [h1]; rfl) (jc [] (c:=(by apply ct_spec_FrameRight <;> first | assumption | omega | (have h8 : frmRightW l a = true := h3.1.1; simp only [frmRightW, Bool.and_eq_true] at h8; have h9 := frmR_len h8.2; first | exact h8.1 | omega))) (a:=cb_spec_FrameRight) (k:=(jt 2 (k:=(jm 5 15 [0, 4, 5, 6, 20] (p:=fun b3_5 => by (try simp at b3_5); exact (jh hX (by simp [-atD_lt, -atL_lt]; rfl))) (q:=fun b3_5 => by (try simp at b3_5); exact (js hX 2 (by simp [-atD_lt, -atL_lt, h1]; rfl) (Runs.call [] rfl (by simp) rfl (by simp [-atD_lt, -atL_lt]; rfl) (by simp; rfl) (by apply ct_spec_l07Frame <;> first | assumption | omega | (have h8 : frmRightW l a = true := h3.1.1; simp only [frmRightW, Bool.and_eq_true] at h8; have h9 := frmR_len h8.2; first | exact h8.1 | omega)) cb_spec_l07Frame (by simp) (by simp) (by simp [-atD_lt, -atL_lt]; rfl) (jh hX (by simp [-atD_lt, -atL_lt]; rfl))))) (k:=(jt 1 (k:=(jm 8 21 [0, 4, 5, 6, 29] (p:=fun b3_11 => by (try simp at b3_11); exact (jh hX (by simp [-atD_lt, -atL_lt]; rfl))) (q:=fun b3_11 => by (try simp at b3_11); exact (jh hX (by simp [-atD_lt, -atL_lt, h1]; rfl))) (k:=jf))))))))))) ?_))
    refine jd (fun h3 => ?_) (fun h3 => ?_)
    · try simp at h3
      refine W_rseqK [6] (jh hX (by simp [h1]; rfl)) ?_
      refine W_ret (W_retR (by simp [h1]; rfl) ?_ rfl)
      rw [frmLubW, if_neg (by omega), if_neg (fun e9 => by simp only [frmRightW, Bool.and_eq_true, decide_eq_true_eq] at e9 h3; grind)]
      exact Wk.agg (.cons (Wk.nilSlice _ _) (.cons (Wk.nilSlice _ _) (.cons (Wk.refl _) .nil)))
    · try simp at h3
      refine W_skip (W_rseqK [6] (js hX 3 (by simp [h1]; rfl) (jc [] (c:=(by apply ct_spec_l07Lub <;> first | assumption | omega | (have h8 : frmRightW l a = true := h3.1.1; simp only [frmRightW, Bool.and_eq_true] at h8; have h9 := frmR_len h8.2; first | exact h8.1 | omega))) (a:=cb_spec_l07Lub) (k:=(jh hX (by simp [h1]; rfl))))) ?_)
      refine W_ret (W_retR (by simp [h1]; rfl) ?_ rfl)
      have hW : frmLubW l a b = if a.stack.length = b.stack.length then ⟨frmLubT l a b, 0⟩ else zFo 11 := by rw [frmLubW, if_neg (by omega), if_pos (by simp only [frmRightW, Bool.and_eq_true, decide_eq_true_eq] at h3 ⊢; grind)]
      rw [hW]
      exact Wk.refl _
end Go.Proofs
namespace Go.Proofs
open Go Go.Ev
theorem plc_next {l : List Cls} {es : List (Str × Int)} {i : Nat} (h : i < l.length) :
    plc es i (l.drop i) = plc (if (lookM es l[i].name).isSome then es else es ++ [(l[i].name, (i : Int))]) (i + 1) (l.drop (i + 1)) := by
  rw [List.drop_eq_getElem_cons h]; rfl
abbrev wob (l : List Cls) (bm : Nat) : Ob := some (2, [.agg [.lst false 6 (l.map eC), .raw (.map (some bm))]])
abbrev wst (l : List Cls) (bm : Nat) (a : Nat × List (Str × Int)) : St := ⟨sp 40 [(3, .ptr 0 0 0), (12, .lst false 6 (l.map eC)), (13, .int .i64 l.length), (14, .int .i64 a.1)], [wob l bm]⟩
theorem cb_impl_worldOf : Callable Tryz.prog 117 := ⟨_, Tryz.func117, by kernel_rfl, by kernel_rfl⟩
set_option maxHeartbeats 2000000 in
set_option maxRecDepth 100000 in
theorem ct_impl_worldOf {l : List Cls} (hl : l.length ≤ 1099511627776) : Ct Tryz.prog 117 [.lst false 6 (l.map eC)] [] (wv l) [] := by
  refine Ct_bodyS tok Tryz.func117 rfl 40 (by kernel_rfl) (by kernel_rfl) fun X hX => ?_
  refine W_rseqK [0] (Runs.run tok hX (by simp; rfl)) ?_
  refine W_le (Le.of_eq (by simp; rfl)) ?_
  refine W_mono2 (W_makeMap (F := places l) (x := .lst false 6 (l.map eC)) (t2 := 2) (Qj := fun bm e s es => e = .ret ∧ s = ⟨sp 40 [(2, .ptr 0 0 0)], [wob l bm]⟩ ∧ es = places l) hX (by rfl)
    (by intro X hX; exact opB_ok tok hX (by simp; rfl)) (by rfl) (by simp; rfl) (by rfl) (by rfl) (by rfl) (by rfl) (by simp [V.fz]) (by rfl) ?_ ?_) ?_
  · intro X1 bm hX1
    refine WLJ_lift fun X' hX' hmk => ?_
    refine WL_runsK [3, 0] (Runs.run tok hX' (by simp; rfl)) ⟨rfl, ?_⟩
    refine WJ_seq ?_
    refine WJ_seq ?_
    refine WJ_lift fun X' hX' hmk => ?_
    refine W_regK [3, 12, 13, 14] (Runs.run tok hX' (by simp; rfl)) ?_
    simp only [thenJ]
    refine WJ_block ?_
    refine WJ_loop (α := Nat × List (Str × Int)) (wst l bm) (fun a => a.2) (fun a => a.1 ≤ l.length ∧ plc a.2 a.1 (l.drop a.1) = places l) (fun a => l.length - a.1) (0, []) (by simp) rfl ⟨by simp, rfl⟩ ?_
    rintro ⟨i, es⟩ ⟨hi, hI⟩
    simp only at hi hI
    refine WJ_seq ?_
    refine WJ_lift fun X' hX' hmk => ?_
    refine W_regK [3, 12, 13, 14, 15] (Runs.run tok hX' (by simp; rfl)) ?_
    simp only [thenJ]
    refine WJ_seq ?_
    refine WJ_cond (by simp; rfl) (fun h => ?_) (fun h => ?_)
    · simp at h
      refine WJ_lift fun X' hX' hmk => W_skip ?_
      simp only [thenJ]
      refine WJ_seq ?_
      refine WJ_block ?_
      refine WJ_seq ?_
      refine WJ_lift fun X' hX' hmk => ?_
      refine W_regK [3, 12, 13, 14, 4, 5] (Runs.run tok hX' (by simp [h]; rfl)) ?_
      simp only [thenJ]
      refine WJ_seq ?_
      refine WJ_lift fun X' hX' hmk => ?_
      refine W_drawnK [3, 12, 13, 14, 4, 5, 7] hmo (by kernel_rfl) (RunsQ.step (n0 := 0) 6 tok (by simp; rfl) (RunsQ.lookR tok hmk (by rfl) (by rfl) (by rfl) (by rfl) (by rfl) (by rfl) (by rfl) (by rfl) (by simp) (by simp; rfl) (RunsQ.run (n0 := 0) tok (by simp; rfl)))) ?_
      simp only [thenJ]
      refine WJ_seq ?_
      refine WJ_lift fun X' hX' hmk => ?_
      refine W_regK [3, 12, 13, 14, 4, 5, 30] (Runs.run tok hX' (by simp; rfl)) ?_
      simp only [thenJ]
      have hnx := plc_next (es := es) h
      have hw : IntKind.i64.wrap ((i : Int) + 1) = ((i + 1 : Nat) : Int) := by rw [wrap_i64 (by omega) (by omega)]; simp
      refine WJ_cond (by simp; rfl) (fun h2 => ?_) (fun h2 => ?_)
      · have hn : lookM es l[i].name = none := by simpa using h2
        refine WJ_mapSet (s := l[i].name) (i := (i : Int)) 7 tok hmo (by kernel_rfl) (RunsS.run (n0 := 0) tok (by simp; rfl)) (by rfl) (by rfl) (by rfl) (by rfl) (by rfl) (by rfl) (by rfl) (by rfl) (by simp) (by simp) (by simp) hn ?_
        simp only [blockJ, thenJ]
        refine WJ_trimK 1 (by rw [hX1]; omega) (by simp) (by simp; rfl) ?_
        refine WJ_lift fun X' hX' hmk => ?_
        refine W_regK [3, 12, 13, 14] (Runs.run tok hX' (by simp; rfl)) ?_
        simp only [thenJ]
        refine ⟨(i + 1, es ++ [(l[i].name, (i : Int))]), by simp [hw], rfl, ⟨by simp; omega, ?_⟩, by simp; omega⟩
        rw [hnx, hn] at hI
        exact hI
      · have hn : (lookM es l[i].name).isSome = true := by simpa using h2
        refine WJ_lift fun X' hX' hmk => W_skip ?_
        simp only [blockJ, thenJ]
        refine WJ_trimK 1 (by rw [hX1]; omega) (by simp) (by simp; rfl) ?_
        refine WJ_lift fun X' hX' hmk => ?_
        refine W_regK [3, 12, 13, 14] (Runs.run tok hX' (by simp; rfl)) ?_
        simp only [thenJ]
        refine ⟨(i + 1, es), by simp [hw], rfl, ⟨by simp; omega, ?_⟩, by simp; omega⟩
        rw [hnx, if_pos hn] at hI
        exact hI
    · simp at h
      refine WJ_lift fun X' hX' hmk => W_exit ?_
      simp only [thenJ, blockJ]
      rw [if_pos trivial]
      rw [List.drop_eq_nil_of_le h] at hI
      simp only [plc] at hI
      subst hI
      refine WJ_seq ?_
      refine WJ_lift fun X' hX' hmk => ?_
      refine W_regK [2] (Runs.run tok hX' (by simp; rfl)) ?_
      simp only [thenJ]
      exact WJ_lift fun X' hX' hmk => W_ret ⟨rfl, by simp, rfl⟩
  · rintro bm e s es ⟨rfl, rfl, rfl⟩
    exact ⟨.inl rfl, rfl, by simp, by simp [sp_length], rfl⟩
  · rintro e s ⟨he, rfl⟩
    rcases he with rfl | rfl
    · exact W_retR (by simp; rfl) (.of_eq (by rfl)) rfl
    · exact W_endR (by simp; rfl) (.of_eq (by rfl)) rfl
end Go.Proofs

namespace Go.Proofs
open Go Go.Ev


theorem cb_impl_builtIn : Callable Tryz.prog 143 := ⟨_, Tryz.func143, by kernel_rfl, by kernel_rfl⟩
theorem ct_impl_builtIn  : Ct Tryz.prog 143 [] [] (.lst true 1 (builtIn.map V.str)) [] := by
  refine Ct_bodyS tok Tryz.func143 rfl 2 (by kernel_rfl) (by kernel_rfl) fun X hX => ?_
  refine jq [] ?_
  refine jq [0] ?_
  refine W_ret (je0 ?_)
  simp [builtIn]
end Go.Proofs
namespace Go.Proofs
open Go Go.Ev


theorem cb_slices_Index_string_string : Callable Tryz.prog 224 := ⟨_, Tryz.func224, by kernel_rfl, by kernel_rfl⟩
theorem ct_slices_Index_string_string {l : List Str} {t : Str} (hl : l.length ≤ 1099511627776) : Ct Tryz.prog 224 [.lst false 1 (l.map V.str), .str t] [] (.int .i64 (fix (fun x => decide (t = x)) l)) [] := by
  refine Ct_bodyS tok Tryz.func224 rfl 19 (by kernel_rfl) (by kernel_rfl) fun X hX => ?_
  refine jq [0, 1] ?_
  refine W_seq (jq [0, 1, 7, 8] ?_)
  refine W_block (W_loopU (α := Nat) [0, 1, 7, 8] (fun i => [(8, .int .i64 i)]) (fun i => []) (fun i => i ≤ l.length ∧ ∀ x ∈ l.take i, (fun x => decide (t = x)) x = false) (fun i => l.length - i) (0) (fun i => by simp; rfl) (by simp) ?_ ?_)
  · simp
  rintro i ⟨hi, hI⟩
  refine jq [0, 1, 7, 8, 9] ?_
  refine W_seq (jd (fun h2 => ?_) (fun h2 => ?_))
  · try simp at h2
    refine W_skip (W_seq (W_block (jq [0, 1, 5, 7, 8] ?_)))
    refine W_rseqK [0, 1, 5, 7, 8, 16] (jh hX (by simp [h2]; rfl)) ?_
    refine jd (fun h4 => ?_) (fun h4 => ?_)
    · try simp at h4
      refine jq [4] ?_
      refine W_ret (je (by simp [h2]; rfl) ?_)
      rw [fix_hit h2 hI (by simpa using h4)]
    · try simp at h4
      refine W_skip (W_reg (jh hX (by simp; (try (simp (disch := omega) only [wrap_i64]; (try simp))); rfl)) ?_)
      refine round_end (i + 1) [0, 1, 7, 8] (by simp [h2]; try (simp (disch := omega) only [wrap_i64])) ?_ ?_
      · exact ⟨by omega, take_not h2 hI (by simpa using h4)⟩
      · omega
  · try simp at h2
    refine W_exit (jq [4] ?_)
    refine W_ret (je (by simp [h2]; rfl) ?_)
    rw [fix_none (p := fun x => decide (t = x)) (fun x hx => hI x (by rw [List.take_of_length_le h2]; exact hx))]
end Go.Proofs
namespace Go.Proofs
open Go Go.Ev


theorem cb_slices_Contains_string_string : Callable Tryz.prog 178 := ⟨_, Tryz.func178, by kernel_rfl, by kernel_rfl⟩
theorem ct_slices_Contains_string_string {l : List Str} {t : Str} (hl : l.length ≤ 1099511627776) : Ct Tryz.prog 178 [.lst false 1 (l.map V.str), .str t] [] (.bool (l.any (fun x => decide (t = x)))) [] := by
  refine Ct_bodyS tok Tryz.func178 rfl 9 (by kernel_rfl) (by kernel_rfl) fun X hX => ?_
  refine jq [0, 1] ?_
  refine W_rseqK [4] (jt 2 (k:=(jc [] (c:=(by apply ct_slices_Index_string_string <;> first | assumption | omega | (simp at *; omega) | simp_all)) (a:=cb_slices_Index_string_string) (k:=jr)))) ?_
  refine W_ret (je0 ?_)
  rw [← fix_ge]
end Go.Proofs
namespace Go.Proofs
open Go Go.Ev


theorem cb_impl_isBuiltIn : Callable Tryz.prog 125 := ⟨_, Tryz.func125, by kernel_rfl, by kernel_rfl⟩
theorem ct_impl_isBuiltIn {n : Str} : Ct Tryz.prog 125 [.str n] [] (.bool (bIn n)) [] := by
  refine Ct_bodyS tok Tryz.func125 rfl 6 (by kernel_rfl) (by kernel_rfl) fun X hX => ?_
  refine jq [0] ?_
  refine W_rseqK [2] (jc [] (c:=(by apply ct_impl_builtIn <;> first | assumption | omega | (simp at *; omega) | simp_all)) (a:=cb_impl_builtIn) (k:=(jt 1 (k:=(jB (c:=(by apply (ct_slices_Contains_string_string (l := builtIn)) <;> first | decide | simp)) (a:=cb_slices_Contains_string_string) (k:=jr)))))) ?_
  refine W_ret (je0 ?_)
  rw [bIn_any]
end Go.Proofs
namespace Go.Proofs
open Go Go.Ev


theorem cb_impl_Class_methodAt_1 : Callable Tryz.prog 182 := ⟨_, Tryz.func182, by kernel_rfl, by kernel_rfl⟩
theorem ct_impl_Class_methodAt_1 {x : Mth} {n d : Str} : Ct Tryz.prog 182 [eM x, .fp [.str n], .fp [.str d]] [] (.bool (decide (x.name = n) && decide (x.desc = d))) [] := by
  refine Ct_bodyS tok Tryz.func182 rfl 15 (by kernel_rfl) (by kernel_rfl) fun X hX => ?_
  refine jq [1, 2, 3] ?_
  refine W_rseqK [4] (jt 5 (k:=(jm 5 9 [14] (p:=fun b1_5 => by (try simp at b1_5); exact (jh hX (by simp [-atD_lt, -atL_lt]; rfl))) (q:=fun b1_5 => by (try simp at b1_5); exact (jh hX (by simp [-atD_lt, -atL_lt]; rfl))) (k:=jr)))) ?_
  refine W_ret (je0 ?_)
  simp_all
end Go.Proofs
namespace Go.Proofs
open Go Go.Ev


theorem cb_slices_IndexFunc_impl_Method_impl_Method : Callable Tryz.prog 181 := ⟨_, Tryz.func181, by kernel_rfl, by kernel_rfl⟩
theorem ct_slices_IndexFunc_impl_Method_impl_Method {n d : Str} {l : List Mth} (hl : l.length ≤ 1099511627776) : Ct Tryz.prog 181 [.lst false 9 (l.map eM), .clo (.func 182) [] [.fp [.str n], .fp [.str d]]] [] (.int .i64 (fix (fun x => decide (x.name = n) && decide (x.desc = d)) l)) [] := by
  refine Ct_bodyS tok Tryz.func181 rfl 19 (by kernel_rfl) (by kernel_rfl) fun X hX => ?_
  refine jq [0, 1] ?_
  refine W_seq (jq [0, 1, 7, 8] ?_)
  refine W_block (W_loopU (α := Nat) [0, 1, 7, 8] (fun i => [(8, .int .i64 i)]) (fun i => []) (fun i => i ≤ l.length ∧ ∀ x ∈ l.take i, (fun x => decide (x.name = n) && decide (x.desc = d)) x = false) (fun i => l.length - i) (0) (fun i => by simp; rfl) (by simp) ?_ ?_)
  · simp
  rintro i ⟨hi, hI⟩
  refine jq [0, 1, 7, 8, 9] ?_
  refine W_seq (jd (fun h2 => ?_) (fun h2 => ?_))
  · try simp at h2
    refine W_skip (W_seq (W_block (jq [0, 1, 5, 7, 8] ?_)))
    refine W_rseqK [0, 1, 5, 7, 8, 16] (js hX 5 (by simp [h2]; rfl) (jc [] (c:=(by apply ct_impl_Class_methodAt_1 <;> first | assumption | exact hs _ (List.getElem_mem h2) | omega)) (a:=cb_impl_Class_methodAt_1) (k:=jf))) ?_
    refine jd (fun h4 => ?_) (fun h4 => ?_)
    · try simp at h4
      refine jq [4] ?_
      refine W_ret (je (by simp [h2]; rfl) ?_)
      rw [fix_hit h2 hI (by simpa using h4)]
    · try simp at h4
      refine W_skip (W_reg (jh hX (by simp; (try (simp (disch := omega) only [wrap_i64]; (try simp))); rfl)) ?_)
      refine round_end (i + 1) [0, 1, 7, 8] (by simp [h2]; try (simp (disch := omega) only [wrap_i64])) ?_ ?_
      · exact ⟨by omega, take_not h2 hI (by simpa using h4)⟩
      · omega
  · try simp at h2
    refine W_exit (jq [4] ?_)
    refine W_ret (je (by simp [h2]; rfl) ?_)
    rw [fix_none (p := fun x => decide (x.name = n) && decide (x.desc = d)) (fun x hx => hI x (by rw [List.take_of_length_le h2]; exact hx))]
end Go.Proofs
namespace Go.Proofs
open Go Go.Ev


theorem cb_impl_Class_methodAt : Callable Tryz.prog 124 := ⟨_, Tryz.func124, by kernel_rfl, by kernel_rfl⟩
theorem ct_impl_Class_methodAt {x : Cls} {n d : Str} (h : x.methods.length ≤ 1099511627776) : Ct Tryz.prog 124 [eC x, .str n, .str d] [] (.int .i64 (fix (fun f => decide (f.name = n) && decide (f.desc = d)) x.methods)) [] := by
  refine Ct_bodyS tok Tryz.func124 rfl 11 (by kernel_rfl) (by kernel_rfl) fun X hX => ?_
  refine jq [3, 4, 5] ?_
  refine W_rseqK [6] (jt 3 (k:=(jB (c:=(by apply ct_slices_IndexFunc_impl_Method_impl_Method <;> first | assumption | omega | (simp at *; omega) | simp_all)) (a:=cb_slices_IndexFunc_impl_Method_impl_Method) (k:=jr)))) ?_
  refine W_ret (je0 ?_)
  simp_all
end Go.Proofs
namespace Go.Proofs
open Go Go.Ev


theorem cb_impl_Class_fieldAt_1 : Callable Tryz.prog 185 := ⟨_, Tryz.func185, by kernel_rfl, by kernel_rfl⟩
theorem ct_impl_Class_fieldAt_1 {x : Fld} {n : Str} : Ct Tryz.prog 185 [eF x, .fp [.str n]] [] (.bool (decide (x.name = n))) [] := by
  refine Ct_bodyS tok Tryz.func185 rfl 8 (by kernel_rfl) (by kernel_rfl) fun X hX => ?_
  refine jq [1, 2] ?_
  refine jq [3] ?_
  refine W_ret (je0 ?_)
  simp_all
end Go.Proofs
namespace Go.Proofs
open Go Go.Ev


theorem cb_slices_IndexFunc_impl_Field_impl_Field : Callable Tryz.prog 184 := ⟨_, Tryz.func184, by kernel_rfl, by kernel_rfl⟩
theorem ct_slices_IndexFunc_impl_Field_impl_Field {n : Str} {l : List Fld} (hl : l.length ≤ 1099511627776) : Ct Tryz.prog 184 [.lst false 3 (l.map eF), .clo (.func 185) [] [.fp [.str n]]] [] (.int .i64 (fix (fun x => decide (x.name = n)) l)) [] := by
  refine Ct_bodyS tok Tryz.func184 rfl 19 (by kernel_rfl) (by kernel_rfl) fun X hX => ?_
  refine jq [0, 1] ?_
  refine W_seq (jq [0, 1, 7, 8] ?_)
  refine W_block (W_loopU (α := Nat) [0, 1, 7, 8] (fun i => [(8, .int .i64 i)]) (fun i => []) (fun i => i ≤ l.length ∧ ∀ x ∈ l.take i, (fun x => decide (x.name = n)) x = false) (fun i => l.length - i) (0) (fun i => by simp; rfl) (by simp) ?_ ?_)
  · simp
  rintro i ⟨hi, hI⟩
  refine jq [0, 1, 7, 8, 9] ?_
  refine W_seq (jd (fun h2 => ?_) (fun h2 => ?_))
  · try simp at h2
    refine W_skip (W_seq (W_block (jq [0, 1, 5, 7, 8] ?_)))
    refine W_rseqK [0, 1, 5, 7, 8, 16] (js hX 5 (by simp [h2]; rfl) (jc [] (c:=(by apply ct_impl_Class_fieldAt_1 <;> first | assumption | exact hs _ (List.getElem_mem h2) | omega)) (a:=cb_impl_Class_fieldAt_1) (k:=jf))) ?_
    refine jd (fun h4 => ?_) (fun h4 => ?_)
    · try simp at h4
      refine jq [4] ?_
      refine W_ret (je (by simp [h2]; rfl) ?_)
      rw [fix_hit h2 hI (by simpa using h4)]
    · try simp at h4
      refine W_skip (W_reg (jh hX (by simp; (try (simp (disch := omega) only [wrap_i64]; (try simp))); rfl)) ?_)
      refine round_end (i + 1) [0, 1, 7, 8] (by simp [h2]; try (simp (disch := omega) only [wrap_i64])) ?_ ?_
      · exact ⟨by omega, take_not h2 hI (by simpa using h4)⟩
      · omega
  · try simp at h2
    refine W_exit (jq [4] ?_)
    refine W_ret (je (by simp [h2]; rfl) ?_)
    rw [fix_none (p := fun x => decide (x.name = n)) (fun x hx => hI x (by rw [List.take_of_length_le h2]; exact hx))]
end Go.Proofs
namespace Go.Proofs
open Go Go.Ev


theorem cb_impl_Class_fieldAt : Callable Tryz.prog 133 := ⟨_, Tryz.func133, by kernel_rfl, by kernel_rfl⟩
theorem ct_impl_Class_fieldAt {x : Cls} {n : Str} (h : x.fields.length ≤ 1099511627776) : Ct Tryz.prog 133 [eC x, .str n] [] (.int .i64 (fix (fun f => decide (f.name = n)) x.fields)) [] := by
  refine Ct_bodyS tok Tryz.func133 rfl 9 (by kernel_rfl) (by kernel_rfl) fun X hX => ?_
  refine jq [2, 3] ?_
  refine W_rseqK [4] (jt 3 (k:=(jB (c:=(by apply ct_slices_IndexFunc_impl_Field_impl_Field <;> first | assumption | omega | (simp at *; omega) | simp_all)) (a:=cb_slices_IndexFunc_impl_Field_impl_Field) (k:=jr)))) ?_
  refine W_ret (je0 ?_)
  simp_all
end Go.Proofs
namespace Go.Proofs
open Go Go.Ev


theorem cb_impl_length : Callable Tryz.prog 205 := ⟨_, Tryz.func205, by kernel_rfl, by kernel_rfl⟩
theorem ct_impl_length {t : Str} : Ct Tryz.prog 205 [.str t] [] (.int .i64 t.length) [] := by
  refine Ct_bodyS tok Tryz.func205 rfl 5 (by kernel_rfl) (by kernel_rfl) fun X hX => ?_
  refine jq [0] ?_
  refine jq [2] ?_
  refine W_ret (je0 ?_)
  simp
end Go.Proofs
namespace Go.Proofs
open Go Go.Ev


theorem cb_impl_reader_is : Callable Tryz.prog 233 := ⟨_, Tryz.func233, by kernel_rfl, by kernel_rfl⟩
theorem ct_impl_reader_is {t : Str} {p : Nat} {b : Bool} {n : Int} (ht : t.length ≤ 1099511627776) (hp : p ≤ t.length) (hn0 : 0 ≤ n) (hn1 : n < 256) : Ct Tryz.prog 233 [.ptr 0 0 0, .int .u8 n] [rdr t p b] (.bool (hit t p b n.toNat)) [rdr t p b] := by
  obtain ⟨m, rfl⟩ : ∃ m : Nat, n = m := ⟨n.toNat, by omega⟩
  refine Ct_bodyS tok Tryz.func233 rfl 35 (by kernel_rfl) (by kernel_rfl) fun X hX => ?_
  refine jq [0, 1] ?_
  refine jD [4] (jS 6 (by simp; rfl) (jM 11 10 [0, 1, 21] (p:=fun b1_6 => by (try simp at b1_6); exact (jS 8 (by simp [-atD_lt, -atL_lt]; rfl) (jC (c:=by apply ct_impl_length <;> first | assumption | omega | (simp at *; omega) | simp_all) (a:=cb_impl_length) (k:=(jQ (by simp [-atD_lt, -atL_lt]; rfl)))))) (q:=fun b1_6 => by (try simp at b1_6); exact (jQ (by simp [-atD_lt, -atL_lt]; rfl))) (k:=(jS 1 (by simp; rfl) (jM 12 22 [34] (p:=fun b1_18 => by (try simp at b1_18); exact (jQ (by simp [-atD_lt, -atL_lt, b1_18]; rfl))) (q:=fun b1_18 => by (try simp at b1_18); exact (jQ (by simp [-atD_lt, -atL_lt]; rfl))) (k:=(jQ (by simp; rfl)))))))) ?_
  refine W_ret (je0 ?_)
  rcases Nat.lt_or_ge p t.length with h | h
  · (simp [hit, isAt_lt h, h]) <;> grind
  · (simp [hit, isAt_ge h]) <;> omega
end Go.Proofs
namespace Go.Proofs
open Go Go.Ev


theorem cb_impl_reader_take : Callable Tryz.prog 203 := ⟨_, Tryz.func203, by kernel_rfl, by kernel_rfl⟩
theorem ct_impl_reader_take {t : Str} {p : Nat} {b : Bool} {n : Int} (ht : t.length ≤ 1099511627776) (hp : p ≤ t.length) (hn0 : 0 ≤ n) (hn1 : n < 256) : Ct Tryz.prog 203 [.ptr 0 0 0, .int .u8 n] [rdr t p b] (.bool (hit t p b n.toNat)) [rdr t (adv (hit t p b n.toNat) p) b] := by
  refine Ct_bodyS tok Tryz.func203 rfl 16 (by kernel_rfl) (by kernel_rfl) fun X hX => ?_
  refine jq [0, 1] ?_
  refine W_seq (W_rseqK [0, 8] (jt 2 (k:=(jc [0] (c:=(by apply ct_impl_reader_is <;> first | assumption | omega | (simp at *; omega) | simp_all)) (a:=cb_impl_reader_is) (k:=jr)))) ?_)
  refine jd (fun h1 => ?_) (fun h1 => ?_)
  · try simp at h1
    refine jq [4] ?_
    refine W_ret (W_retR2 (by simp; rfl) (by rfl) (.of_eq ?_) ?_)
    all_goals clear hX
    · skip
      simp_all
    · skip
      simp_all
  · try simp at h1
    refine W_skip (W_rseqK [] (jh hX (by simp; (try (simp (disch := omega) only [wrap_i64]; (try simp))); rfl)) ?_)
    refine jq [4] ?_
    refine W_ret (W_retR2 (by simp; rfl) (by rfl) (.of_eq ?_) ?_)
    all_goals clear hX
    · skip
      simp_all
    · skip
      simp_all
end Go.Proofs
namespace Go.Proofs
open Go Go.Ev


theorem cb_impl_reader_want : Callable Tryz.prog 202 := ⟨_, Tryz.func202, by kernel_rfl, by kernel_rfl⟩
theorem ct_impl_reader_want {t : Str} {p : Nat} {b : Bool} {n : Int} (ht : t.length ≤ 1099511627776) (hp : p ≤ t.length) (hn0 : 0 ≤ n) (hn1 : n < 256) : Ct Tryz.prog 202 [.ptr 0 0 0, .int .u8 n] [rdr t p b] (.tup []) [rdr t (adv (hit t p b n.toNat) p) (b || !hit t p b n.toNat)] := by
  refine Ct_bodyS tok Tryz.func202 rfl 11 (by kernel_rfl) (by kernel_rfl) fun X hX => ?_
  refine W_rseqK [0, 7] (jt 2 (k:=(jc [0] (c:=(by apply ct_impl_reader_take <;> first | assumption | omega | (simp at *; omega) | simp_all)) (a:=cb_impl_reader_take) (k:=jr)))) ?_
  refine jd (fun h0 => ?_) (fun h0 => ?_)
  · try simp at h0
    refine W_reg jr ?_
    refine W_endR2 (by simp; rfl) (by rfl) (.of_eq ?_) ?_
    all_goals clear hX
    · skip
      rfl
    · skip
      simp_all
  · try simp at h0
    refine W_skip (W_endR2 (by simp; rfl) (by rfl) (.of_eq ?_) ?_)
    all_goals clear hX
    · skip
      rfl
    · skip
      simp_all
end Go.Proofs
namespace Go.Proofs
open Go Go.Ev


theorem cb_internal_stringslite_IndexByte : Callable Tryz.prog 261 := ⟨_, Tryz.func261, by kernel_rfl, by kernel_rfl⟩
theorem ct_internal_stringslite_IndexByte {t : Str} {c : UInt8} : Ct Tryz.prog 261 [.str t, .int .u8 c.toNat] [] (.int .i64 (ixL c t)) [] := by
  refine Ct_bodyS tok Tryz.func261 rfl 8 (by kernel_rfl) (by kernel_rfl) fun X hX => ?_
  refine jq [0, 1] ?_
  refine W_rseqK [4] (jt 2 (k:=(Runs.extIB rfl (by simp) (by simp; rfl) (by simp; rfl) ext_IB (by simp; rfl) jr))) ?_
  refine W_ret (je0 ?_)
  simp
end Go.Proofs
namespace Go.Proofs
open Go Go.Ev


theorem cb_strings_IndexByte : Callable Tryz.prog 254 := ⟨_, Tryz.func254, by kernel_rfl, by kernel_rfl⟩
theorem ct_strings_IndexByte {t : Str} {c : UInt8} : Ct Tryz.prog 254 [.str t, .int .u8 c.toNat] [] (.int .i64 (ixL c t)) [] := by
  refine Ct_bodyS tok Tryz.func254 rfl 8 (by kernel_rfl) (by kernel_rfl) fun X hX => ?_
  refine jq [0, 1] ?_
  refine W_rseqK [4] (jt 2 (k:=(jc [] (c:=(by apply ct_internal_stringslite_IndexByte <;> first | assumption | omega | (simp at *; omega) | simp_all)) (a:=cb_internal_stringslite_IndexByte) (k:=jr)))) ?_
  refine W_ret (je0 ?_)
  simp
end Go.Proofs
namespace Go.Proofs
open Go Go.Ev


theorem cb_impl_isNameByte : Callable Tryz.prog 243 := ⟨_, Tryz.func243, by kernel_rfl, by kernel_rfl⟩
theorem ct_impl_isNameByte {c : UInt8} {n : Int} : Ct Tryz.prog 243 [.int .u8 c.toNat, .int .i64 n] [] (.bool (nameByte c (decide (n ≤ 0)))) [] := by
  obtain ⟨k1, k2⟩ := nameTable_byte c
  rw [show nameTable = [48, 49, 50, 51, 52, 53, 54, 55, 56, 57, 97, 98, 99, 100, 101, 102, 103, 104, 105, 106, 107, 108, 109, 110, 111, 112, 113, 114, 115, 116, 117, 118, 119, 120, 121, 122, 65, 66, 67, 68, 69, 70, 71, 72, 73, 74, 75, 76, 77, 78, 79, 80, 81, 82, 83, 84, 85, 86, 87, 88, 89, 90, 36] from rfl] at k1 k2
  refine Ct_bodyS tok Tryz.func243 rfl 18 (by kernel_rfl) (by kernel_rfl) fun X hX => ?_
  refine jq [0, 1] ?_
  refine W_rseqK [1, 5] (jt 1 (k:=(jc [] (c:=(by apply ct_strings_IndexByte <;> first | assumption | omega | (simp at *; omega) | simp_all)) (a:=cb_strings_IndexByte) (k:=jr)))) ?_
  refine W_rseqK [4] (jt 3 (k:=(jm 7 10 [17] (p:=fun b2_3 => by (try simp at b2_3); exact (jh hX (by simp [-atD_lt, -atL_lt]; rfl))) (q:=fun b2_3 => by (try simp at b2_3); exact (js hX 3 (by simp [-atD_lt, -atL_lt]; rfl) (jm 3 13 [10, 16] (p:=fun b2_6 => by (try simp at b2_6); exact (jh hX (by simp [-atD_lt, -atL_lt]; rfl))) (q:=fun b2_6 => by (try simp at b2_6); exact (jh hX (by simp [-atD_lt, -atL_lt]; rfl))) (k:=(jh hX (by simp [-atD_lt, -atL_lt]; rfl)))))) (k:=jr)))) ?_
  refine W_ret (je0 ?_)
  by_cases hn : n ≤ 0
  · rw [decide_eq_true hn, ← k1]; simp; omega
  · have hp : 0 < n := by omega
    rw [decide_eq_false hn, ← k2]; simp [hp]; grind
end Go.Proofs
