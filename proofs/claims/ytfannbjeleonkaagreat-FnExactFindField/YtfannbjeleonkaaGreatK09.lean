/- Part 10 of what the proofs lean on: what the functions of the program and of the reference compute. Conditions: none. -/
import Derived.Test.YtfannbjeleonkaaGreatK08
import Derived.Test.YtfannbjeleonkaaGreatRows
set_option linter.all false
set_option linter.unusedVariables false
set_option linter.unusedSimpArgs false
set_option maxHeartbeats 2000000
set_option maxRecDepth 100000
namespace Go.Proofs
open Go Go.Ev


theorem cb_impl_world_chain : Callable Tryz.prog 119 := ⟨_, Tryz.func119, by kernel_rfl, by kernel_rfl⟩
theorem ct_impl_world_chain {l : List Cls} (hl : l.length ≤ 1048576) {n : Str} : Ct Tryz.prog 119 [wv l, .str n] [] (.lst true 1 ((chain l n).map V.str)) [] := by
  refine Ct_bodyS tok Tryz.func119 rfl 24 (by kernel_rfl) (by kernel_rfl) fun X hX => ?_
  refine W_rseqK [0, 1] (jh hX (by simp [Go.Ev.seen]; rfl)) ?_
  refine W_rseqK [0, 1, 5] (jh hX (by simp [Go.Ev.seen]; rfl)) ?_
  refine W_seq (W_block (W_loopU (α := List Str × Str) [0, 1, 5] (fun a => [(1, .str a.2), (5, .arr 0 0 a.1.length)]) (fun a => [(0, some (1, a.1.map V.str))]) (fun a => a.1.length + cMu l a.1 ≤ 8 + l.length ∧ chn l a.1 a.2 = chain l n) (fun a => cMu l a.1) (([], n)) (fun a => by simp; rfl) (by simp) ?_ ?_))
  · exact ⟨by simpa using cMu_le l [], rfl⟩
  rintro ⟨o, s⟩ ⟨hn, hI⟩
  simp only at hn hI
  have w0 : o.length ≤ 1099511627776 := by omega
  have w1 : (o.length + 1) * 16 ≤ 140737488355328 := by omega
  have w2 : o.length ≤ 1099511627775 := by omega
  refine W_seq (W_rseqK [0, 1, 5, 15] (js hX 2 (by simp [Go.Ev.seen]; rfl) (Runs.call [] rfl (by simp) rfl (by simp [Go.Ev.seen]; rfl) (by simp; rfl) (by apply ct_impl_world_known <;> first | assumption | omega | (simp at *; omega) | simp_all) cb_impl_world_known (by simp) (by simp) (by simp [Go.Ev.seen]; rfl) (js hX 1 (by simp [Go.Ev.seen]; rfl) (jm 5 10 [0, 1, 5, 15] (p:=fun b2_4 => by (try simp at b2_4); exact (js hX 2 (by simp [-atD_lt, -atL_lt, Go.Ev.seen]; rfl) (Runs.callB rfl (by simp) rfl (by simp [-atD_lt, -atL_lt, Go.Ev.seen]; rfl) (by apply ct_slices_Contains_string_string <;> first | assumption | omega | (simp at *; omega) | simp_all) cb_slices_Contains_string_string (by simp) (by simp [-atD_lt, -atL_lt, Go.Ev.seen]; rfl) (jh hX (by simp [-atD_lt, -atL_lt, Go.Ev.seen]; rfl))))) (q:=fun b2_4 => by (try simp at b2_4); exact (jh hX (by simp [-atD_lt, -atL_lt, Go.Ev.seen]; rfl))) (k:=jf))))) ?_)
  refine jd (fun h2 => ?_) (fun h2 => ?_)
  · try simp at h2
    have h2b : out o s = false := by
      rw [Bool.eq_false_iff]; intro e
      exact h2.2 _ (out_iff.1 e) rfl
    have hlt := cMu_lt h2.1 h2b
    rw [chn_go h2.1 h2b] at hI
    refine W_skip (W_block (W_rseqK [0, 1, 5] (jh hX (by simp [w1, w2, Go.Ev.seen]; rfl)) ?_))
    refine W_reg (js hX 2 (by simp [Go.Ev.seen]; rfl) (Runs.call [] rfl (by simp) rfl (by simp [Go.Ev.seen]; rfl) (by simp; rfl) (by apply ct_impl_world_super <;> first | assumption | omega | (simp at *; omega) | simp_all) cb_impl_world_super (by simp) (by simp) (by simp [Go.Ev.seen]; rfl) (jh hX (by simp [Go.Ev.seen]; rfl)))) ?_
    refine round_endT ((o ++ [s], superI l s)) [0, 1, 5] 1 (by simp [hX]) (by simp) (by simp [w1, w2]; try (simp (disch := omega) only [wrap_i64])) ?_ ?_
    · exact ⟨by simp; omega, hI⟩
    · exact hlt
  · try simp at h2
    have h2b : ¬ (isKnown l s = true ∧ out o s = false) := fun e => by have h3 := h2 e.1; rw [out_iff.2 h3] at e; cases e.2
    rw [chn_stop h2b] at hI
    refine W_exit (W_rseqK [4] (jh hX (by simp [Go.Ev.seen]; rfl)) ?_)
    refine W_ret (W_retR (by simp [w1, w2, Go.Ev.seen]; rfl) ?_ rfl)
    rw [← hI]
    exact Wk.refl _
end Go.Proofs
namespace Go.Proofs
open Go Go.Ev


theorem cb_impl_world_cycles : Callable Tryz.prog 175 := ⟨_, Tryz.func175, by kernel_rfl, by kernel_rfl⟩
theorem ct_impl_world_cycles {l : List Cls} (hl : l.length ≤ 1048576) {n : Str} (hk : isKnown l n = true) : Ct Tryz.prog 175 [wv l, .str n] [] (.bool (cycI l n)) [] := by
  obtain ⟨ys, hy⟩ := chain_cons hk
  have hcl := chain_len l n
  have hc1 : 0 < (chain l n).length := by rw [hy]; simp
  have hw : ((chain l n).length : Int) - 1 = (((chain l n).length - 1 : Nat) : Int) := by omega
  have hc2 : (chain l n).length - 1 < (chain l n).length := by omega
  have hc3 : IntKind.i64.wrap ((((chain l n).length - 1 : Nat) : Int)) = (((chain l n).length - 1 : Nat) : Int) := wrap_i64 (by omega) (by omega)
  refine Ct_bodyS tok Tryz.func175 rfl 19 (by kernel_rfl) (by kernel_rfl) fun X hX => ?_
  refine W_rseqK [0, 1] (jh hX (by simp [hw, hc2, hc3]; rfl)) ?_
  refine W_rseqK [0, 1, 5] (js hX 2 (by simp [hw, hc2, hc3]; rfl) (Runs.callF rfl (by simp) rfl (by simp [hw, hc2, hc3]; rfl) (by apply ct_impl_world_chain <;> first | assumption | omega) cb_impl_world_chain (by simp [hw, hc2, hc3]; rfl) (jh hX (by simp [hw, hc2, hc3]; rfl)))) ?_
  refine W_rseqK [4] (js hX 7 (by simp [hw, hc2, hc3]; (try (simp (disch := omega) only [wrap_i64]; (try simp [hw, hc2, hc3]))); rfl) (Runs.call [] rfl (by simp) rfl (by simp [hw, hc2, hc3]; rfl) (by simp; rfl) (by apply ct_impl_world_super <;> first | assumption | omega) cb_impl_world_super (by simp) (by simp) (by simp [hw, hc2, hc3]; rfl) (jh hX (by simp [hw, hc2, hc3]; rfl)))) ?_
  refine W_ret (je (by simp [hw, hc2, hc3]; rfl) ?_)
  simp [cycI, hc2]
end Go.Proofs
namespace Go.Proofs
open Go Go.Ev


theorem cb_impl_world_check_4 : Callable Tryz.prog 174 := ⟨_, Tryz.func174, by kernel_rfl, by kernel_rfl⟩
theorem ct_impl_world_check_4 {l : List Cls} (hl : l.length ≤ 1048576) {c : Cls} {k : Int} (hk : isKnown l c.name = true) : Ct Tryz.prog 174 [.int .i64 k, eC c, .fp [wv l]] [] (.int .i64 (pI4 l c)) [] := by
  refine Ct_bodyS tok Tryz.func174 rfl 12 (by kernel_rfl) (by kernel_rfl) fun X hX => ?_
  refine jq [2, 4] ?_
  refine W_rseqK [5] (jt 3 (k:=(jc [] (c:=(by apply ct_impl_world_cycles <;> first | assumption | omega | (simp at *; omega) | simp_all)) (a:=cb_impl_world_cycles) (k:=(jt 1 (k:=(jc [] (c:=(by apply ct_impl_codeUnless <;> first | assumption | omega | (simp at *; omega) | simp_all)) (a:=cb_impl_codeUnless) (k:=jr)))))))) ?_
  refine W_ret (je0 ?_)
  simp only [pI4]
  cases cycI l c.name <;> simp
end Go.Proofs
namespace Go.Proofs
open Go Go.Ev


theorem cb_impl_world_methodUp : Callable Tryz.prog 223 := ⟨_, Tryz.func223, by kernel_rfl, by kernel_rfl⟩
theorem ct_impl_world_methodUp {l : List Cls} (hl : l.length ≤ 1048576) (hs : sizeL l ≤ 1099511627776) {c n d : Str} : Ct Tryz.prog 223 [wv l, .str c, .str n, .str d] [] (.tup [eM ((mUp l n d (chain l c)).getD zM), .bool (mUp l n d (chain l c)).isSome]) [] := by
  have hcl := chain_len l c
  refine Ct_bodyS tok Tryz.func223 rfl 42 (by kernel_rfl) (by kernel_rfl) fun X hX => ?_
  refine W_rseqK [0, 1, 2, 3, 8] (jh hX (by simp [fix_mth]; rfl)) ?_
  refine W_seq (W_rseqK [0, 2, 3, 8, 17, 18, 19] (js hX 2 (by simp [fix_mth]; rfl) (Runs.callF rfl (by simp) rfl (by simp [fix_mth]; rfl) (by apply ct_impl_world_chain <;> first | assumption | omega | exact clsOf_sizes hs) cb_impl_world_chain (by simp [fix_mth]; rfl) (jh hX (by simp [fix_mth]; rfl)))) ?_)
  refine W_block (W_loopU (α := Nat) [0, 2, 3, 8, 17, 18, 19] (fun i => [(19, .int .i64 i)]) (fun i => []) (fun i => i ≤ (chain l c).length ∧ mUp l n d ((chain l c).drop i) = mUp l n d (chain l c)) (fun i => (chain l c).length - i) (0) (fun i => by simp; rfl) (by simp) ?_ ?_)
  · simp
  rintro i ⟨hi, hI⟩
  refine W_rseqK [0, 2, 3, 8, 17, 18, 19, 20] (jh hX (by simp [fix_mth]; rfl)) ?_
  refine W_seq (jd (fun h2 => ?_) (fun h2 => ?_))
  · try simp at h2
    rw [List.drop_eq_getElem_cons h2] at hI
    simp only [mUp] at hI
    refine W_skip (W_seq (W_block (W_rseqK [0, 2, 3, 8, 11, 17, 18, 19] (jh hX (by simp [h2, fix_mth]; rfl)) ?_)))
    refine W_rseqK [0, 2, 3, 8, 12, 17, 18, 19] (js hX 2 (by simp [fix_mth]; rfl) (Runs.callF rfl (by simp) rfl (by simp [fix_mth]; rfl) (by apply ct_impl_world_class <;> first | assumption | omega | exact clsOf_sizes hs) cb_impl_world_class (by simp [fix_mth]; rfl) (jh hX (by simp [h2, fix_mth]; rfl)))) ?_
    refine W_rseqK [0, 2, 3, 8, 12, 14, 17, 18, 19] (js hX 3 (by simp [h2, fix_mth]; rfl) (Runs.call [] rfl (by simp) rfl (by simp [fix_mth]; rfl) (by simp; rfl) (by apply ct_impl_Class_methodAt <;> first | assumption | omega | exact clsOf_sizes hs) cb_impl_Class_methodAt (by simp) (by simp) (by simp [fix_mth]; rfl) (jh hX (by simp [fix_mth]; rfl)))) ?_
    refine W_rseqK [0, 2, 3, 8, 12, 14, 17, 18, 19, 34] (jh hX (by simp [fix_mth]; rfl)) ?_
    refine jd (fun h6 => ?_) (fun h6 => ?_)
    · try simp at h6
      rw [if_pos h6] at hI
      rw [← hI]
      obtain ⟨j, hj, hjm⟩ := mthFrom_nat h6
      refine W_rseqK [8, 9] (jh hX (by simp [h2, h6, hj, hjm, fix_mth]; rfl)) ?_
      refine W_ret (W_retR (by simp [h2, h6, hj, hjm, fix_mth]; rfl) ?_ rfl)
      simp only [hjm]
      simp [hj]
      exact Wk.refl _
    · try simp at h6
      rw [if_neg (by omega)] at hI
      refine W_skip (W_reg (jh hX (by simp [fix_mth]; (try (simp (disch := omega) only [wrap_i64]; (try simp [fix_mth]))); rfl)) ?_)
      refine round_endT (i + 1) [0, 2, 3, 8, 17, 18, 19] 1 (by simp [hX]) (by simp) (by simp [h2, h6]; try (simp (disch := omega) only [wrap_i64])) ?_ ?_
      · exact ⟨by omega, hI⟩
      · omega
  · try simp at h2
    rw [List.drop_eq_nil_of_le h2] at hI
    simp only [mUp] at hI
    rw [← hI]
    refine W_exit (W_rseqK [8, 9] (jh hX (by simp [h2, fix_mth]; rfl)) ?_)
    refine W_ret (W_retR (by simp [h2, fix_mth]; rfl) ?_ rfl)
    exact Wk.tup (.cons wk_zM (.cons (Wk.refl _) .nil))
end Go.Proofs
namespace Go.Proofs
open Go Go.Ev


theorem cb_impl_world_accessOK : Callable Tryz.prog 177 := ⟨_, Tryz.func177, by kernel_rfl, by kernel_rfl⟩
theorem ct_impl_world_accessOK {l : List Cls} (hl : l.length ≤ 1048576) (hs : sizeL l ≤ 1099511627776) {c : Cls} (hc : sizeC c ≤ 1099511627776) (hk : isKnown l c.name = true) : Ct Tryz.prog 177 [wv l, eC c] [] (.bool (accI l c)) [] := by
  have hcl := chain_len l c.name
  obtain ⟨us, hy⟩ := chain_cons hk
  have hul : us.length ≤ 8 + l.length := by rw [hy] at hcl; simp at hcl; omega
  have hcm : c.methods.length ≤ 1099511627776 := by simp only [sizeC] at hc; omega
  have hac : accI l c = us.all (fun u => (clsOf l u).methods.all (okI l c)) := by simp only [accI, hy]; rfl
  rw [hac]
  refine Ct_bodyS tok Tryz.func177 rfl 91 (by kernel_rfl) (by kernel_rfl) fun X hX => ?_
  refine W_rseqK [0, 3] (jh hX (by simp [hy, fix_mth]; rfl)) ?_
  refine W_rseqK [0, 3, 5] (js hX 3 (by simp [hy, fix_mth]; rfl) (Runs.callF rfl (by simp) rfl (by simp [hy, fix_mth]; rfl) (by apply ct_impl_world_chain <;> first | assumption | omega | exact clsOf_sizes hs) cb_impl_world_chain (by simp [hy, fix_mth]; rfl) (jh hX (by simp [hy, fix_mth]; rfl)))) ?_
  refine W_seq (W_rseqK [0, 3, 20, 21, 22] (jh hX (by simp [hy, fix_mth]; rfl)) ?_)
  refine W_block (W_loopU (α := Nat) [0, 3, 20, 21, 22] (fun i => [(22, .int .i64 i)]) (fun i => []) (fun i => i ≤ us.length ∧ (us.drop i).all (fun u => (clsOf l u).methods.all (okI l c)) = us.all (fun u => (clsOf l u).methods.all (okI l c))) (fun i => us.length - i) (0) (fun i => by simp; rfl) (by simp) ?_ ?_)
  · simp
  rintro i ⟨hi, hI⟩
  refine W_rseqK [0, 3, 20, 21, 22, 23] (jh hX (by simp [hy, fix_mth]; rfl)) ?_
  refine W_seq (jd (fun h3 => ?_) (fun h3 => ?_))
  · try simp at h3
    rw [all_drop h3] at hI
    have hms : (clsOf l us[i]).methods.length ≤ 1099511627776 := clsOf_sizes hs
    refine W_skip (W_seq (W_block (W_rseqK [0, 3, 7, 20, 21, 22] (jh hX (by simp [h3, hy, fix_mth]; rfl)) ?_)))
    refine W_rseqK [0, 3, 8, 20, 21, 22] (js hX 2 (by simp [hy, fix_mth]; rfl) (Runs.callF rfl (by simp) rfl (by simp [hy, fix_mth]; rfl) (by apply ct_impl_world_class <;> first | assumption | omega | exact clsOf_sizes hs) cb_impl_world_class (by simp [hy, fix_mth]; rfl) (jh hX (by simp [h3, hy, fix_mth]; rfl)))) ?_
    refine W_rseqK [0, 3, 20, 21, 22, 33, 34, 35] (jh hX (by simp [h3, hy, fix_mth]; rfl)) ?_
    refine W_block (W_loopU (α := Nat) [0, 3, 20, 21, 22, 33, 34, 35] (fun j => [(35, .int .i64 j)]) (fun j => []) (fun j => j ≤ (clsOf l us[i]).methods.length ∧ ((clsOf l us[i]).methods.drop j).all (okI l c) = (clsOf l us[i]).methods.all (okI l c)) (fun j => (clsOf l us[i]).methods.length - j) (0) (fun j => by simp; rfl) (by simp) ?_ ?_)
    · simp
    rintro j ⟨hj, hJ⟩
    refine W_rseqK [0, 3, 20, 21, 22, 33, 34, 35, 36] (jh hX (by simp [hy, fix_mth]; rfl)) ?_
    refine W_seq (jd (fun h7 => ?_) (fun h7 => ?_))
    · try simp at h7
      rw [all_drop h7] at hJ
      refine W_skip (W_seq (W_block (W_rseqK [0, 3, 11, 20, 21, 22, 33, 34, 35] (jh hX (by simp [h3, h7, hy, fix_mth]; rfl)) ?_)))
      refine W_seq (W_rseqK [0, 3, 11, 12, 20, 21, 22, 33, 34, 35] (js hX 5 (by simp [h3, h7, hy, fix_mth]; rfl) (Runs.call [] rfl (by simp) rfl (by simp [hy, fix_mth]; rfl) (by simp; rfl) (by apply ct_impl_Class_methodAt <;> first | assumption | omega | exact clsOf_sizes hs) cb_impl_Class_methodAt (by simp) (by simp) (by simp [hy, fix_mth]; rfl) (jh hX (by simp [hy, fix_mth]; rfl)))) ?_)
      refine jD [0, 3, 11, 20, 21, 22, 33, 34, 35, 66] (jS 4 (by simp [h3, h7, hy, fix_mth]; rfl) (jM 3 48 [0, 3, 11, 12, 20, 21, 22, 33, 34, 35, 51] (p:=fun b10_4 => by (try simp at b10_4); exact (jQ (by simp [-atD_lt, -atL_lt, hy, fix_mth]; rfl))) (q:=fun b10_4 => by (try simp at b10_4); exact (jQ (by simp [-atD_lt, -atL_lt, hy, fix_mth]; rfl))) (k:=(jS 1 (by simp [hy, fix_mth]; rfl) (jM 14 52 [0, 3, 11, 20, 21, 22, 33, 34, 35, 66] (p:=fun b10_8 => by (try simp at b10_8); (have hk0 := b10_8.2; have hk1 := mthFrom_lt hk0); exact (jS 3 (by simp [-atD_lt, -atL_lt, h3, h7, b10_8, hk0, hk1, hy, fix_mth]; rfl) (jM 10 55 [0, 3, 11, 20, 21, 22, 33, 34, 35, 52, 65] (p:=fun b10_11 => by (try simp at b10_11); exact (jQ (by simp [-atD_lt, -atL_lt, hy, fix_mth]; rfl))) (q:=fun b10_11 => by (try simp at b10_11); exact (jQ (by simp [-atD_lt, -atL_lt, h3, h7, b10_8, hk0, hk1, hy, fix_mth]; rfl))) (k:=(jQ (by simp [-atD_lt, -atL_lt, hy, fix_mth]; rfl)))))) (q:=fun b10_8 => by (try simp at b10_8); exact (jQ (by simp [-atD_lt, -atL_lt, hy, fix_mth]; rfl))) (k:=(RunsQ.fin (by (try simp); rfl)))))))) ?_
      refine jd (fun h10 => ?_) (fun h10 => ?_)
      · try simp at h10
        refine W_rseqK [4] (jh hX (by simp [hy, fix_mth]; rfl)) ?_
        refine W_ret (je (by simp [h3, h7, h10, hy, fix_mth]; rfl) ?_)
        have ho : okI l c (clsOf l us[i]).methods[j] = false := by unfold okI init; grind
        rw [← hI, ← hJ, ho]; simp
      · try simp at h10
        refine W_skip (W_rseqK [0, 3, 11, 13, 20, 21, 22, 33, 34, 35] (js hX 7 (by simp [h3, h7, h10, hy, fix_mth]; rfl) (Runs.callF rfl (by simp) rfl (by simp [hy, fix_mth]; rfl) (by apply ct_impl_world_methodUp <;> first | assumption | omega | exact clsOf_sizes hs) cb_impl_world_methodUp (by simp [hy, fix_mth]; rfl) (jh hX (by simp [h3, h7, h10, hy, fix_mth]; rfl)))) ?_)
        refine W_rseqK [0, 3, 20, 21, 22, 33, 34, 35, 88] (js hX 3 (by simp [h3, h7, h10, hy, fix_mth]; rfl) (jm 4 80 [0, 3, 13, 20, 21, 22, 33, 34, 35, 84] (p:=fun b13_3 => by (try simp at b13_3); exact (jh hX (by simp [-atD_lt, -atL_lt, h3, h7, h10, hy, fix_mth]; rfl))) (q:=fun b13_3 => by (try simp at b13_3); exact (jh hX (by simp [-atD_lt, -atL_lt, hy, fix_mth]; rfl))) (k:=(js hX 1 (by simp [hy, fix_mth]; rfl) (jm 3 85 [0, 3, 20, 21, 22, 33, 34, 35, 88] (p:=fun b13_8 => by (try simp at b13_8); exact (jh hX (by simp [-atD_lt, -atL_lt, h3, h7, h10, hy, fix_mth]; rfl))) (q:=fun b13_8 => by (try simp at b13_8); exact (jh hX (by simp [-atD_lt, -atL_lt, hy, fix_mth]; rfl))) (k:=jf)))))) ?_
        refine jd (fun h13 => ?_) (fun h13 => ?_)
        · try simp at h13
          refine W_rseqK [4] (jh hX (by simp [hy, fix_mth]; rfl)) ?_
          refine W_ret (je (by simp [h3, h7, h10, hy, fix_mth]; rfl) ?_)
          have ho : okI l c (clsOf l us[i]).methods[j] = false := by unfold okI init; simp only [hy]; grind
          rw [← hI, ← hJ, ho]; simp
        · try simp at h13
          have ho : okI l c (clsOf l us[i]).methods[j] = true := okI_true h10 (by rw [hy]; exact h13)
          rw [ho, Bool.true_and] at hJ
          refine W_skip (W_reg (jh hX (by simp [hy, fix_mth]; (try (simp (disch := omega) only [wrap_i64]; (try simp [hy, fix_mth]))); rfl)) ?_)
          refine round_endT (j + 1) [0, 3, 20, 21, 22, 33, 34, 35] 2 (by simp [hX]) (by simp) (by simp [h3, h7, h10]; try (simp (disch := omega) only [wrap_i64])) ?_ ?_
          · exact ⟨by omega, hJ⟩
          · omega
    · try simp at h7
      rw [List.drop_eq_nil_of_le h7] at hJ
      rw [← hJ, List.all_nil, Bool.true_and] at hI
      refine W_exit (W_reg (jh hX (by simp [hy, fix_mth]; (try (simp (disch := omega) only [wrap_i64]; (try simp [hy, fix_mth]))); rfl)) ?_)
      refine round_endT (i + 1) [0, 3, 20, 21, 22] 1 (by simp [hX]) (by simp) (by simp [h3, h7]; try (simp (disch := omega) only [wrap_i64])) ?_ ?_
      · exact ⟨by omega, hI⟩
      · omega
  · try simp at h3
    rw [List.drop_eq_nil_of_le h3] at hI
    refine W_exit (W_rseqK [4] (jh hX (by simp [hy, fix_mth]; rfl)) ?_)
    refine W_ret (je (by simp [h3, hy, fix_mth]; rfl) ?_)
    rw [← hI]; rfl
end Go.Proofs
namespace Go.Proofs
open Go Go.Ev


theorem cb_impl_world_check_5 : Callable Tryz.prog 176 := ⟨_, Tryz.func176, by kernel_rfl, by kernel_rfl⟩
theorem ct_impl_world_check_5 {l : List Cls} (hl : l.length ≤ 1048576) (hs : sizeL l ≤ 1099511627776) {c : Cls} {k : Int} (hc : sizeC c ≤ 1099511627776) (hk : isKnown l c.name = true) : Ct Tryz.prog 176 [.int .i64 k, eC c, .fp [wv l]] [] (.int .i64 (pI5 l c)) [] := by
  refine Ct_bodyS tok Tryz.func176 rfl 10 (by kernel_rfl) (by kernel_rfl) fun X hX => ?_
  refine jq [2, 4] ?_
  refine W_rseqK [5] (jt 2 (k:=(jc [] (c:=(by apply ct_impl_world_accessOK <;> first | assumption | omega | (simp at *; omega) | simp_all)) (a:=cb_impl_world_accessOK) (k:=(jc [] (c:=(by apply ct_impl_codeUnless <;> first | assumption | omega | (simp at *; omega) | simp_all)) (a:=cb_impl_codeUnless) (k:=jr)))))) ?_
  refine W_ret (je0 ?_)
  unfold pI5
  rfl
end Go.Proofs
namespace Go.Proofs
open Go Go.Ev


theorem cb_impl_world_check : Callable Tryz.prog 118 := ⟨_, Tryz.func118, by kernel_rfl, by kernel_rfl⟩
theorem ct_impl_world_check {l : List Cls} (hl : l.length ≤ 1048576) (hs : sizeL l ≤ 1099511627776) : Ct Tryz.prog 118 [wv l] [] (.agg [.int .i64 (chkI l).1, .int .i64 (chkI l).2]) [] := by
  refine Ct_bodyS tok Tryz.func118 rfl 50 (by kernel_rfl) (by kernel_rfl) fun X hX => ?_
  refine jq [1, 2] ?_
  refine W_seq (jq [1, 2, 14] ?_)
  refine jd (fun h1 => ?_) (fun h1 => ?_)
  · try simp at h1
    refine W_rseqK [2] (jh hX (by simp [h1]; rfl)) ?_
    refine W_ret (je (by simp [h1]; rfl) ?_)
    simp [chkI, h1]
  · try simp at h1
    refine W_skip (jq [1, 2, 3] ?_)
    refine W_seq (W_rseqK [1, 2, 22, 23, 24] (jh hX (by simp [h1]; rfl)) ?_)
    refine W_block (W_loopU (α := Nat) [1, 2, 22, 23, 24] (fun p => [(24, .int .i64 p)]) (fun p => []) (fun p => p ≤ 5 ∧ chkFrom l p (5 - p) = chkFrom l 0 5) (fun p => 5 - p) (0) (fun p => by simp; rfl) (by simp) ?_ ?_)
    · simp
    rintro p ⟨hp, hI⟩
    obtain ⟨q, hq⟩ : ∃ q, q = p + 1 := ⟨_, rfl⟩
    obtain rfl | rfl | rfl | rfl | rfl | rfl : p = 0 ∨ p = 1 ∨ p = 2 ∨ p = 3 ∨ p = 4 ∨ p = 5 := by omega
    all_goals
      refine jq [1, 2, 22, 23, 24, 25] ?_
      refine W_seq (jd (fun h5 => ?_) (fun h5 => ?_))
      · try simp at h5
        all_goals
          refine W_skip (W_seq (W_block (W_rseqK [1, 2, 5, 22, 23, 24] (jh hX (by simp [h1, h5]; rfl)) ?_)))
          refine W_rseqK [1, 2, 5, 22, 23, 24, 31, 32, 33] (jh hX (by simp [h1, h5]; rfl)) ?_
          refine W_block (W_loopU (α := Nat) [1, 2, 5, 22, 23, 24, 31, 32, 33] (fun k => [(33, .int .i64 k)]) (fun k => []) (fun k => k ≤ l.length ∧ firstBad (codeI l (q - 1)) (l.length - k) k = firstBad (codeI l (q - 1)) l.length 0) (fun k => l.length - k) (0) (fun k => by simp; rfl) (by simp) ?_ ?_)
          · simp
          rintro k ⟨hk, hK⟩
          simp only [hq, Nat.reduceAdd, Nat.reduceSub, Nat.zero_add, Nat.add_sub_cancel] at hK
          refine jq [1, 2, 5, 22, 23, 24, 31, 32, 33, 34] ?_
          refine W_seq (jd (fun h8 => ?_) (fun h8 => ?_))
          · try simp at h8
            rw [fb_step h8] at hK
            refine W_skip (W_seq (W_block (W_rseqK [1, 2, 5, 6, 7, 22, 23, 24, 31, 32, 33] (jh hX (by simp [h1, h5, h8]; rfl)) ?_)))
            refine W_rseqK [1, 2, 5, 6, 8, 22, 23, 24, 31, 32, 33] (js hX 3 (by simp [h1, h5, h8]; rfl) (jB (c:=(by first | (apply ct_impl_world_check_1 <;> (first | assumption | omega | exact Nat.le_trans (sizeL_at h8) hs | exact known_own h8)) | (apply ct_impl_world_check_2 <;> (first | assumption | omega | exact Nat.le_trans (sizeL_at h8) hs | exact known_own h8)) | (apply ct_impl_world_check_3 <;> (first | assumption | omega | exact Nat.le_trans (sizeL_at h8) hs | exact known_own h8)) | (apply ct_impl_world_check_4 <;> (first | assumption | omega | exact Nat.le_trans (sizeL_at h8) hs | exact known_own h8)) | (apply ct_impl_world_check_5 <;> (first | assumption | omega | exact Nat.le_trans (sizeL_at h8) hs | exact known_own h8)))) (a:=(by first | exact cb_impl_world_check_1 | exact cb_impl_world_check_2 | exact cb_impl_world_check_3 | exact cb_impl_world_check_4 | exact cb_impl_world_check_5)) (k:=jr))) ?_
            refine jq [1, 2, 5, 6, 8, 22, 23, 24, 31, 32, 33, 43] ?_
            refine jd (fun h11 => ?_) (fun h11 => ?_)
            · try simp at h11
              rw [if_neg (by simp only [codeI, atL_lt h8]; exact h11)] at hK
              refine W_rseqK [2] (jh hX (by simp [h1, h5, h8]; rfl)) ?_
              refine W_ret (je (by simp [h1, h5, h8]; rfl) ?_)
              rw [chkI, if_neg (by omega), ← hI, chk_hit hK.symm]
              simp [codeI, h8]
            · try simp at h11
              rw [if_pos (by simp only [codeI, atL_lt h8]; exact h11)] at hK
              refine W_skip (W_reg (jh hX (by simp; (try (simp (disch := omega) only [wrap_i64]; (try simp))); rfl)) ?_)
              refine round_endT (k + 1) [1, 2, 5, 22, 23, 24, 31, 32, 33] 3 (by simp [hX]) (by simp) (by simp [h1, h5, h8]; try (simp (disch := omega) only [wrap_i64])) ?_ ?_
              · exact ⟨by omega, by simp only [hq, Nat.reduceAdd, Nat.reduceSub, Nat.zero_add, Nat.add_sub_cancel]; exact hK⟩
              · omega
          · try simp at h8
            rw [show l.length - k = 0 from by omega] at hK
            simp only [firstBad] at hK
            refine W_exit (W_reg (jh hX (by simp; (try (simp (disch := omega) only [wrap_i64]; (try simp))); rfl)) ?_)
            refine round_endT (q) [1, 2, 22, 23, 24] 3 (by simp [hX]) (by simp) (by simp [hq]; try (simp (disch := omega) only [wrap_i64])) ?_ ?_
            · exact ⟨by omega, by rw [hq]; exact (chk_next hK.symm).symm.trans hI⟩
            · omega
      · try simp at h5
        all_goals
          refine W_exit (W_rseqK [2] (jh hX (by simp [h1, h5]; rfl)) ?_)
          refine W_ret (je (by simp [h1, h5]; rfl) ?_)
          rw [chkI, if_neg (by omega), ← hI]
          rfl
end Go.Proofs
namespace Go.Proofs
open Go Go.Ev


theorem cb_impl_rightWorld : Callable Tryz.prog 65 := ⟨_, Tryz.func65, by kernel_rfl, by kernel_rfl⟩
theorem ct_impl_rightWorld {l : List Cls} (hl : l.length ≤ 1048576) (hs : sizeL l ≤ 1099511627776) : Ct Tryz.prog 65 [.lst false 6 (l.map eC)] [] (.tup [wv l, .bool (rightW l)]) [] := by
  refine Ct_bodyS tok Tryz.func65 rfl 17 (by kernel_rfl) (by kernel_rfl) fun X hX => ?_
  refine jq [0] ?_
  refine W_rseqK [0, 4] (jt 1 (k:=(jF (c:=(by apply ct_impl_worldOf <;> first | assumption | omega | (simp at *; omega) | simp_all)) (a:=cb_impl_worldOf) (k:=jr)))) ?_
  refine W_rseqK [2, 3] (jt 5 (k:=(jm 5 11 [7, 16] (p:=fun b2_5 => by (try simp at b2_5); exact (js hX 1 (by simp [-atD_lt, -atL_lt]; rfl) (Runs.call [] rfl (by simp) rfl (by simp [-atD_lt, -atL_lt]; rfl) (by simp; rfl) (by apply ct_impl_world_check <;> first | assumption | omega | (simp at *; omega) | simp_all) cb_impl_world_check (by simp) (by simp) (by simp [-atD_lt, -atL_lt]; rfl) (jh hX (by simp [-atD_lt, -atL_lt]; rfl))))) (q:=fun b2_5 => by (try simp at b2_5); exact (jh hX (by simp [-atD_lt, -atL_lt]; rfl))) (k:=jr)))) ?_
  refine W_ret (je0 ?_)
  rw [← rightI_eq]
  simp
end Go.Proofs

namespace Go.Proofs
open Go Go.Ev


theorem cb_impl_world_fieldsOf : Callable Tryz.prog 87 := ⟨_, Tryz.func87, by kernel_rfl, by kernel_rfl⟩
theorem ct_impl_world_fieldsOf {l : List Cls} (hl : l.length ≤ 1000) (hs : sizeL l ≤ 1048576) {n : Str} : Ct Tryz.prog 87 [wv l, .str n] [] (.lst true 3 ((fldsI l n).map eF)) [] := by
  have hcl := chain_len l n
  refine Ct_bodyMS tok Tryz.func87 rfl 41 (by kernel_rfl) (by kernel_rfl) fun X hX => ?_
  refine WF_rseqK [1, 2, 18] jr ?_
  refine WF_rseqK [1, 2, 5, 18] jr ?_
  refine WF_range (q := 7) (xs := chain l n) (fo := fun k => [some (1, [wv l]), none, some (1, [.arr 3 0 (fldK l (chain l n) k).length]), some (3, (fldK l (chain l n) k).map eF)]) 3 tok (jt 2 (k:=(jF (c:=(by apply ct_impl_world_chain <;> first | assumption | omega)) (a:=cb_impl_world_chain) (k:=(jF (c:=(by apply ct_slices_Backward_string_string <;> first | assumption | omega)) (a:=cb_slices_Backward_string_string) (k:=jf)))))) (Le.trans (Le.keep [2, 5, 16, 18] _) (Le.trans (Le.absorb 2 0 0 (by simp; rfl)) (Le.trans (Le.expose 2 0 0 (by simp [St.expose]; rfl)) (Le.of_eq (by simp [fldK]; rfl))))) (enters_of Tryz.func188 (by kernel_rfl) rfl) back_ok (by first | (simp; done) | (simp; rfl) | rfl) (by omega) ?ha (by rfl) (by intro k; first | (simp; done) | exact Nat.le_of_ble_eq_true rfl) (by simp [hX]) ?body (by simp; rfl) ?done
  case ha =>
    intro r W a0 K hK
    exact assign_in hK (by rfl) (by rfl) (by rfl)
  case body =>
    intro r k hk X hX
    refine WI_le (Le.trans (Le.of_eq (by simp [tmR]; rfl)) .refl) ?_
    obtain ⟨c, hcd⟩ : ∃ c, c = clsOf l ((chain l n)[(chain l n).length - 1 - k]) := ⟨_, rfl⟩
    have hfl := fldK_len (l := l) (ch := chain l n) k
    have hkl : k * sizeL l ≤ 1008 * 1048576 := Nat.mul_le_mul (by omega) hs
    have hcs : sizeC c ≤ sizeL l := by rw [hcd]; exact clsOf_size
    have hcf : c.fields.length ≤ 1048576 := by simp only [sizeC] at hcs; omega
    refine WI_block (WI_rseqK [5, 8] (jt 2 (k:=(jF (c:=(by apply ct_impl_world_class <;> first | assumption | omega)) (a:=cb_impl_world_class) (k:=jr)))) ?_)
    rw [← hcd]
    refine WI_rseqK [5, 26, 27, 28] jr ?_
    refine WI_block (WI_loopU (α := List Fld × Nat) [5, 26, 27, 28] (fun p => [(28, .int .i64 p.2)]) (fun p => [(2, some (1, [.arr 3 0 p.1.length])), (3, some (3, p.1.map eF))]) (fun p => p.2 ≤ c.fields.length ∧ p.1 = fldK l (chain l n) k ++ (c.fields.take p.2).filter (fun f => !f.static)) (fun p => c.fields.length - p.2) ((fldK l (chain l n) k, 0)) (fun p => by simp; rfl) (by simp) ?_ ?_)
    · simp
    rintro ⟨o, i⟩ ⟨hi, hI⟩
    simp only at hi hI
    have ho : o.length ≤ 1100000000 := by
      rw [hI, List.length_append]
      have h1 := List.length_filter_le (fun f : Fld => !f.static) (c.fields.take i)
      rw [List.length_take] at h1
      omega
    have w1 : (o.length + 1) * 40 ≤ 140737488355328 := by omega
    have w2 : o.length ≤ 1099511627775 := by omega
    refine WI_rseqK [5, 26, 27, 28, 29] (jh hX (by simp [w1, w2]; rfl)) ?_
    refine WI_seq (WI_condS (fun h6 => ?_) (fun h6 => ?_))
    · try simp at h6
      refine WI_skip (WI_seq (WI_block (WI_rseqK [5, 11, 26, 27, 28] (jh hX (by simp [w1, w2, h6]; rfl)) ?_)))
      refine WI_rseqK [5, 11, 26, 27, 28, 34] (jh hX (by simp [w1, w2, h6]; rfl)) ?_
      refine WI_condS (fun h8 => ?_) (fun h8 => ?_)
      · try simp at h8
        refine WI_reg (jh hX (by simp [w1, w2, h6]; rfl)) ?_
        refine WI_reg (jh hX (by simp [w1, w2, h6]; (try (simp (disch := omega) only [wrap_i64]; (try simp [w1, w2, h6]))); rfl)) ?_
        refine round_endT (if c.fields[i].static = true then (o, i + 1) else (o ++ [c.fields[i]], i + 1)) [5, 26, 27, 28] 5 (by simp [hX]) (by simp) (by simp [h6, h8]; try (simp (disch := omega) only [wrap_i64])) ?_ ?_
        · (simp only [h8, Bool.false_eq_true, if_false, if_true]; refine ⟨by omega, ?_⟩; rw [filt_snoc h6, h8, hI]; simp)
        · (simp only [h8, Bool.false_eq_true, if_false, if_true]; omega)
      · try simp at h8
        refine WI_skip (WI_reg (jh hX (by simp [w1, w2, h6]; (try (simp (disch := omega) only [wrap_i64]; (try simp [w1, w2, h6]))); rfl)) ?_)
        refine round_endT (if c.fields[i].static = true then (o, i + 1) else (o ++ [c.fields[i]], i + 1)) [5, 26, 27, 28] 5 (by simp [hX]) (by simp) (by simp [h6, h8]; try (simp (disch := omega) only [wrap_i64])) ?_ ?_
        · (simp only [h8, Bool.false_eq_true, if_false, if_true]; refine ⟨by omega, ?_⟩; rw [filt_snoc h6, h8, hI]; simp)
        · (simp only [h8, Bool.false_eq_true, if_false, if_true]; omega)
    · try simp at h6
      refine WI_exit ?_
      simp only [thenQ, blockQ, if_true]
      have hil : i = c.fields.length := by omega
      subst hil
      rw [List.take_of_length_le (Nat.le_refl _)] at hI
      have hg : (chain l n).getD ((chain l n).length - 1 - k) [] = (chain l n)[(chain l n).length - 1 - k] := by rw [List.getD_eq_getElem?_getD, List.getElem?_eq_getElem (by omega)]; rfl
      have hfk : fldK l (chain l n) (k + 1) = o := by rw [fldK, hg, ← hcd, hI]; rfl
      refine ⟨trivial, _, Le.trim 4 (by simp [hX]) _ (by simp), ?_⟩
      simp [hfk]
  case done =>
    refine je (by simp; rfl) ?_
    simp [fldsI]
end Go.Proofs
namespace Go.Proofs
open Go Go.Ev


theorem cb_impl_FieldsOf : Callable Tryz.prog 38 := ⟨_, Tryz.func38, by kernel_rfl, by kernel_rfl⟩
theorem ct_impl_FieldsOf {l : List Cls} (hl : l.length ≤ 1048576) (hs : sizeL l ≤ 1048576) {n : Str} (hn : n.length ≤ 1099511627776) : Ct Tryz.prog 38 [.lst false 6 (l.map eC), .str n] [] (.lst true 3 ((fldsW l n).map eF)) [] := by
  refine Ct_bodyS tok Tryz.func38 rfl 23 (by kernel_rfl) (by kernel_rfl) fun X hX => ?_
  refine jq [0, 1] ?_
  refine W_rseqK [1, 5, 6] (jt 1 (k:=(jc [] (c:=(by apply ct_impl_rightWorld <;> first | assumption | omega | (have h9 := right_len (l := l) (by simp_all); omega))) (a:=cb_impl_rightWorld) (k:=jr)))) ?_
  refine W_seq (W_rseqK [1, 5, 19] (jt 3 (k:=(jm 5 14 [1, 5, 19] (p:=fun b2_3 => by (try simp at b2_3); exact (jh hX (by simp [-atD_lt, -atL_lt]; rfl))) (q:=fun b2_3 => by (try simp at b2_3); exact (js hX 2 (by simp [-atD_lt, -atL_lt]; rfl) (Runs.callB rfl (by simp) rfl (by simp [-atD_lt, -atL_lt]; rfl) (by apply (ct_impl_isText (l := [n])) <;> simp) cb_impl_isText (by simp) (by simp [-atD_lt, -atL_lt]; rfl) (jh hX (by simp [-atD_lt, -atL_lt]; rfl))))) (k:=jf)))) ?_)
  refine jd (fun h2 => ?_) (fun h2 => ?_)
  · try simp at h2
    refine jq [4] ?_
    refine W_ret (W_retR (by simp; rfl) ?_ rfl)
    rw [fldsW, if_neg (by simp only [Bool.and_eq_true, decide_eq_true_eq]; grind)]
    exact Wk.nilSlice _ _
  · try simp at h2
    refine W_skip (W_rseqK [4] (jt 2 (k:=(jc [] (c:=(by apply ct_impl_world_fieldsOf <;> first | assumption | omega | (have h9 := right_len (l := l) (by simp_all); omega))) (a:=cb_impl_world_fieldsOf) (k:=jr)))) ?_)
    refine W_ret (W_retR (by simp; rfl) ?_ rfl)
    rw [fldsW, if_pos (by simp only [Bool.and_eq_true, decide_eq_true_eq]; grind)]
    exact Wk.refl _
end Go.Proofs
namespace Go.Proofs
open Go Go.Ev


theorem cb_laws_markText : Callable Tryz.prog 89 := ⟨_, Tryz.func89, by kernel_rfl, by kernel_rfl⟩
theorem ct_laws_markText {k : Nat} (hk : k < 4611686018427387904) : Ct Tryz.prog 89 [.int .i64 k] [] (.str (mText k)) [] := by
  refine Ct_bodyS tok Tryz.func89 rfl 20 (by kernel_rfl) (by kernel_rfl) fun X hX => ?_
  refine jq [0] ?_
  refine W_seq (jq [0, 5] ?_)
  refine jd (fun h1 => ?_) (fun h1 => ?_)
  · try simp at h1
    refine W_rseqK [2] (jh hX (by simp [h1]; rfl)) ?_
    refine W_ret (je (by simp [h1]; rfl) ?_)
    simp [mText]; omega
  · try simp at h1
    refine W_skip (W_rseqK [0, 3] (jh hX (by simp [h1]; rfl)) ?_)
    refine W_seq (W_block (W_loopU (α := Nat × Str) [0, 3] (fun p => [(0, .int .i64 p.1), (3, .str p.2)]) (fun p => []) (fun p => p.1 ≤ k ∧ mDig p.1 p.2 = mDig k [] ∧ p.2.length + p.1 ≤ k) (fun p => p.1) ((k, [])) (fun p => by simp; rfl) (by simp) ?_ ?_))
    · simp
    rintro ⟨j, o⟩ ⟨hj, hI, hl⟩
    simp only at hj hI hl
    have hb0 : o.length < 9223372036854775806 := by omega
    have hb1 : 1 + o.length < 9223372036854775807 := by omega
    have hb2 := dig_wrap j
    refine W_seq (W_rseqK [0, 3, 7] (jh hX (by simp [h1, hb1, hb2, hb0]; rfl)) ?_)
    refine jd (fun h4 => ?_) (fun h4 => ?_)
    · try simp at h4
      refine W_skip (W_block (W_rseqK [0, 3] (jh hX (by simp [h1, hb1, hb2, hb0, h4]; (try (simp (disch := omega) only [wrap_i64]; (try simp [h1, hb1, hb2, hb0, h4]))); rfl)) ?_))
      refine W_reg (jh hX (by simp [h1, hb1, hb2, hb0, h4]; rfl)) ?_
      refine round_endT ((j / 10, UInt8.ofNat (48 + j % 10) :: o)) [0, 3] 0 (by simp [hX]) (by simp) (by simp [h1, hb1, hb2, hb0, h4]; try (simp (disch := omega) only [wrap_i64])) ?_ ?_
      · exact ⟨by simp only; omega, by rw [← hI, mDig_go h4], by simp only [List.length_cons]; omega⟩
      · simp only; omega
    · try simp at h4
      refine W_exit (W_rseqK [2] (jh hX (by simp [h1, hb1, hb2, hb0, h4]; (try (simp (disch := omega) only [wrap_i64]; (try simp [h1, hb1, hb2, hb0, h4]))); rfl)) ?_)
      refine W_ret (je (by simp [h1, hb1, hb2, hb0, h4]; rfl) ?_)
      obtain rfl : j = 0 := by omega
      rw [mDig_zero] at hI
      simp [mText, h1, ← hI]
end Go.Proofs
namespace Go.Proofs
open Go Go.Ev


theorem cb_laws_markFieldS : Callable Tryz.prog 41 := ⟨_, Tryz.func41, by kernel_rfl, by kernel_rfl⟩
theorem ct_laws_markFieldS {l : List Fld} {k : Nat} (hl : l.length ≤ 1099511627776) (hk : k ≤ 1099511627776) : Ct Tryz.prog 41 [.arr 0 0 l.length, .int .i64 k] [some (3, l.map eF)] (.int .i64 ((k + 3 * l.length : Nat) : Int)) [some (3, (mks mkF 3 k l.length).map eF)] := by
  refine Ct_bodyS tok Tryz.func41 rfl 38 (by kernel_rfl) (by kernel_rfl) fun X hX => ?_
  refine jq [0, 1] ?_
  refine W_seq (jq [0, 1, 5] ?_)
  refine W_block (W_loopU (α := Nat × Nat) [0, 1, 5] (fun p => [(1, .int .i64 (p.2 : Nat)), (5, .int .i64 (p.1 : Nat))]) (fun p => [(0, some (3, (mks mkF 3 k p.1).map eF ++ (l.map eF).drop p.1))]) (fun p => p.1 ≤ l.length ∧ p.2 = k + 3 * p.1) (fun p => l.length - p.1) ((0, k)) (fun p => by simp; rfl) (by simp [mks]) ?_ ?_)
  · simp
  rintro ⟨i, q⟩ ⟨hi, hq⟩
  simp only at hi hq
  obtain ⟨q1, e1⟩ : ∃ x, x = q + 1 := ⟨_, rfl⟩
  have w1 : IntKind.i64.wrap ((q : Int) + 1) = (q1 : Int) := by rw [wrap_i64 (by omega) (by omega)]; omega
  obtain ⟨q2, e2⟩ : ∃ x, x = q1 + 1 := ⟨_, rfl⟩
  have w2 : IntKind.i64.wrap ((q1 : Int) + 1) = (q2 : Int) := by rw [wrap_i64 (by omega) (by omega)]; omega
  obtain ⟨q3, e3⟩ : ∃ x, x = q2 + 1 := ⟨_, rfl⟩
  have w3 : IntKind.i64.wrap ((q2 : Int) + 1) = (q3 : Int) := by rw [wrap_i64 (by omega) (by omega)]; omega
  have v2 := mod3 q2
  refine W_seq (W_rseqK [0, 1, 5, 9] (jh hX (by simp [w1, w2, w3, v2]; rfl)) ?_)
  refine jd (fun h2 => ?_) (fun h2 => ?_)
  · try simp at h2
    rw [List.drop_eq_getElem_cons (show i < (l.map eF).length by simpa using h2), List.getElem_map]
    generalize hZ : (l.map eF).drop (i + 1) = Z
    obtain ⟨Y, hY⟩ : ∃ Y, Y = (mks mkF 3 k i).map eF := ⟨_, rfl⟩
    rw [← hY]
    have hYl : Y.length = i := by simp [hY, mks_len]
    have m1 := fun x => midG hYl x Z
    have m2 := fun x y => midS hYl x y Z
    have hnext : (mks mkF 3 k (i + 1)).map eF ++ (l.map eF).drop (i + 1) = Y ++ .agg [.str (mText q), .str (mText q1), .bool (decide (q2 % 3 = 0))] :: Z := by
      rw [mks_succ, ← hq, hZ, hY]
      simp [mkF, e1, e2, e3]
      try omega
    refine W_skip (W_seq (W_block (W_rseqK [0, 1, 5] (js hX 3 (by simp [w1, w2, w3, v2, h2, m1, m2, hYl]; rfl) (jc [] (c:=(by apply ct_laws_markText <;> first | omega | assumption)) (a:=cb_laws_markText) (k:=(jh hX (by simp [w1, w2, w3, v2, h2, m1, m2, hYl]; rfl))))) ?_)))
    refine W_rseqK [0, 1, 5] (jh hX (by simp [w1, w2, w3, v2, h2, m1, m2, hYl]; (try (simp (disch := omega) only [wrap_i64]; (try simp [w1, w2, w3, v2, h2, m1, m2, hYl]))); rfl)) ?_
    refine W_rseqK [0, 1, 5] (js hX 3 (by simp [w1, w2, w3, v2, h2, m1, m2, hYl]; rfl) (jc [] (c:=(by apply ct_laws_markText <;> first | omega | assumption)) (a:=cb_laws_markText) (k:=(jh hX (by simp [w1, w2, w3, v2, h2, m1, m2, hYl]; rfl))))) ?_
    refine W_rseqK [0, 1, 5] (jh hX (by simp [w1, w2, w3, v2, h2, m1, m2, hYl]; (try (simp (disch := omega) only [wrap_i64]; (try simp [w1, w2, w3, v2, h2, m1, m2, hYl]))); rfl)) ?_
    refine W_rseqK [0, 1, 5] (jh hX (by simp [w1, w2, w3, v2, h2, m1, m2, hYl]; rfl)) ?_
    refine W_reg (jh hX (by simp [w1, w2, w3, v2, h2, m1, m2, hYl]; (try (simp (disch := omega) only [wrap_i64]; (try simp [w1, w2, w3, v2, h2, m1, m2, hYl]))); rfl)) ?_
    refine W_reg (jh hX (by simp [w1, w2, w3, v2, h2, m1, m2, hYl]; (try (simp (disch := omega) only [wrap_i64]; (try simp [w1, w2, w3, v2, h2, m1, m2, hYl]))); rfl)) ?_
    refine round_end ((i + 1, q3)) [0, 1, 5] (by simp [hnext, w1, w2, w3]; try (simp (disch := omega) only [wrap_i64]); try omega) ?_ ?_
    · exact ⟨by simp only; omega, by simp only; omega⟩
    · simp only; omega
  · try simp at h2
    have hil : i = l.length := by omega
    subst hil
    rw [List.drop_eq_nil_of_le (by simp), List.append_nil]
    refine W_exit (W_rseqK [4] (jh hX (by simp [w1, w2, w3, v2, h2]; rfl)) ?_)
    refine W_ret (W_retR2 (by simp [w1, w2, w3, v2, h2]; rfl) (by rfl) (.of_eq ?_) ?_)
    all_goals clear hX
    · skip
      simp; omega
    · skip
      simp
end Go.Proofs
namespace Go.Proofs
open Go Go.Ev


theorem cb_laws_markInsS : Callable Tryz.prog 136 := ⟨_, Tryz.func136, by kernel_rfl, by kernel_rfl⟩
theorem ct_laws_markInsS {l : List Ins} {k : Nat} (hl : l.length ≤ 1099511627776) (hk : k ≤ 1099511627776) : Ct Tryz.prog 136 [.arr 0 0 l.length, .int .i64 k] [some (5, l.map eI)] (.int .i64 ((k + 5 * l.length : Nat) : Int)) [some (5, (mks mkI 5 k l.length).map eI)] := by
  refine Ct_bodyS tok Tryz.func136 rfl 51 (by kernel_rfl) (by kernel_rfl) fun X hX => ?_
  refine jq [0, 1] ?_
  refine W_seq (jq [0, 1, 5] ?_)
  refine W_block (W_loopU (α := Nat × Nat) [0, 1, 5] (fun p => [(1, .int .i64 (p.2 : Nat)), (5, .int .i64 (p.1 : Nat))]) (fun p => [(0, some (5, (mks mkI 5 k p.1).map eI ++ (l.map eI).drop p.1))]) (fun p => p.1 ≤ l.length ∧ p.2 = k + 5 * p.1) (fun p => l.length - p.1) ((0, k)) (fun p => by simp; rfl) (by simp [mks]) ?_ ?_)
  · simp
  rintro ⟨i, q⟩ ⟨hi, hq⟩
  simp only at hi hq
  obtain ⟨q1, e1⟩ : ∃ x, x = q + 1 := ⟨_, rfl⟩
  have w1 : IntKind.i64.wrap ((q : Int) + 1) = (q1 : Int) := by rw [wrap_i64 (by omega) (by omega)]; omega
  obtain ⟨q2, e2⟩ : ∃ x, x = q1 + 1 := ⟨_, rfl⟩
  have w2 : IntKind.i64.wrap ((q1 : Int) + 1) = (q2 : Int) := by rw [wrap_i64 (by omega) (by omega)]; omega
  obtain ⟨q3, e3⟩ : ∃ x, x = q2 + 1 := ⟨_, rfl⟩
  have w3 : IntKind.i64.wrap ((q2 : Int) + 1) = (q3 : Int) := by rw [wrap_i64 (by omega) (by omega)]; omega
  obtain ⟨q4, e4⟩ : ∃ x, x = q3 + 1 := ⟨_, rfl⟩
  have w4 : IntKind.i64.wrap ((q3 : Int) + 1) = (q4 : Int) := by rw [wrap_i64 (by omega) (by omega)]; omega
  obtain ⟨q5, e5⟩ : ∃ x, x = q4 + 1 := ⟨_, rfl⟩
  have w5 : IntKind.i64.wrap ((q4 : Int) + 1) = (q5 : Int) := by rw [wrap_i64 (by omega) (by omega)]; omega
  refine W_seq (W_rseqK [0, 1, 5, 9] (jh hX (by simp [w1, w2, w3, w4, w5]; rfl)) ?_)
  refine jd (fun h2 => ?_) (fun h2 => ?_)
  · try simp at h2
    rw [List.drop_eq_getElem_cons (show i < (l.map eI).length by simpa using h2), List.getElem_map]
    generalize hZ : (l.map eI).drop (i + 1) = Z
    obtain ⟨Y, hY⟩ : ∃ Y, Y = (mks mkI 5 k i).map eI := ⟨_, rfl⟩
    rw [← hY]
    have hYl : Y.length = i := by simp [hY, mks_len]
    have m1 := fun x => midG hYl x Z
    have m2 := fun x y => midS hYl x y Z
    have hnext : (mks mkI 5 k (i + 1)).map eI ++ (l.map eI).drop (i + 1) = Y ++ .agg [.int .i64 (q : Nat), .int .i64 (q1 : Nat), .str (mText q2), .str (mText q3), .str (mText q4)] :: Z := by
      rw [mks_succ, ← hq, hZ, hY]
      simp [mkI, e1, e2, e3, e4, e5]
      try omega
    refine W_skip (W_seq (W_block (W_rseqK [0, 1, 5] (jh hX (by simp [w1, w2, w3, w4, w5, h2, m1, m2, hYl]; rfl)) ?_)))
    refine W_rseqK [0, 1, 5] (jh hX (by simp [w1, w2, w3, w4, w5, h2, m1, m2, hYl]; (try (simp (disch := omega) only [wrap_i64]; (try simp [w1, w2, w3, w4, w5, h2, m1, m2, hYl]))); rfl)) ?_
    refine W_rseqK [0, 1, 5] (jh hX (by simp [w1, w2, w3, w4, w5, h2, m1, m2, hYl]; rfl)) ?_
    refine W_rseqK [0, 1, 5] (jh hX (by simp [w1, w2, w3, w4, w5, h2, m1, m2, hYl]; (try (simp (disch := omega) only [wrap_i64]; (try simp [w1, w2, w3, w4, w5, h2, m1, m2, hYl]))); rfl)) ?_
    refine W_rseqK [0, 1, 5] (js hX 3 (by simp [w1, w2, w3, w4, w5, h2, m1, m2, hYl]; rfl) (jc [] (c:=(by apply ct_laws_markText <;> first | omega | assumption)) (a:=cb_laws_markText) (k:=(jh hX (by simp [w1, w2, w3, w4, w5, h2, m1, m2, hYl]; rfl))))) ?_
    refine W_rseqK [0, 1, 5] (jh hX (by simp [w1, w2, w3, w4, w5, h2, m1, m2, hYl]; (try (simp (disch := omega) only [wrap_i64]; (try simp [w1, w2, w3, w4, w5, h2, m1, m2, hYl]))); rfl)) ?_
    refine W_rseqK [0, 1, 5] (js hX 3 (by simp [w1, w2, w3, w4, w5, h2, m1, m2, hYl]; rfl) (jc [] (c:=(by apply ct_laws_markText <;> first | omega | assumption)) (a:=cb_laws_markText) (k:=(jh hX (by simp [w1, w2, w3, w4, w5, h2, m1, m2, hYl]; rfl))))) ?_
    refine W_rseqK [0, 1, 5] (jh hX (by simp [w1, w2, w3, w4, w5, h2, m1, m2, hYl]; (try (simp (disch := omega) only [wrap_i64]; (try simp [w1, w2, w3, w4, w5, h2, m1, m2, hYl]))); rfl)) ?_
    refine W_rseqK [0, 1, 5] (js hX 3 (by simp [w1, w2, w3, w4, w5, h2, m1, m2, hYl]; rfl) (jc [] (c:=(by apply ct_laws_markText <;> first | omega | assumption)) (a:=cb_laws_markText) (k:=(jh hX (by simp [w1, w2, w3, w4, w5, h2, m1, m2, hYl]; rfl))))) ?_
    refine W_reg (jh hX (by simp [w1, w2, w3, w4, w5, h2, m1, m2, hYl]; (try (simp (disch := omega) only [wrap_i64]; (try simp [w1, w2, w3, w4, w5, h2, m1, m2, hYl]))); rfl)) ?_
    refine W_reg (jh hX (by simp [w1, w2, w3, w4, w5, h2, m1, m2, hYl]; (try (simp (disch := omega) only [wrap_i64]; (try simp [w1, w2, w3, w4, w5, h2, m1, m2, hYl]))); rfl)) ?_
    refine round_end ((i + 1, q5)) [0, 1, 5] (by simp [hnext, w1, w2, w3, w4, w5]; try (simp (disch := omega) only [wrap_i64]); try omega) ?_ ?_
    · exact ⟨by simp only; omega, by simp only; omega⟩
    · simp only; omega
  · try simp at h2
    have hil : i = l.length := by omega
    subst hil
    rw [List.drop_eq_nil_of_le (by simp), List.append_nil]
    refine W_exit (W_rseqK [4] (jh hX (by simp [w1, w2, w3, w4, w5, h2]; rfl)) ?_)
    refine W_ret (W_retR2 (by simp [w1, w2, w3, w4, w5, h2]; rfl) (by rfl) (.of_eq ?_) ?_)
    all_goals clear hX
    · skip
      simp; omega
    · skip
      simp
end Go.Proofs
namespace Go.Proofs
open Go Go.Ev


theorem cb_laws_markHandlerS : Callable Tryz.prog 137 := ⟨_, Tryz.func137, by kernel_rfl, by kernel_rfl⟩
theorem ct_laws_markHandlerS {l : List Hdl} {k : Nat} (hl : l.length ≤ 1099511627776) (hk : k ≤ 1099511627776) : Ct Tryz.prog 137 [.arr 0 0 l.length, .int .i64 k] [some (4, l.map eH)] (.int .i64 ((k + 4 * l.length : Nat) : Int)) [some (4, (mks mkH 4 k l.length).map eH)] := by
  refine Ct_bodyS tok Tryz.func137 rfl 42 (by kernel_rfl) (by kernel_rfl) fun X hX => ?_
  refine jq [0, 1] ?_
  refine W_seq (jq [0, 1, 5] ?_)
  refine W_block (W_loopU (α := Nat × Nat) [0, 1, 5] (fun p => [(1, .int .i64 (p.2 : Nat)), (5, .int .i64 (p.1 : Nat))]) (fun p => [(0, some (4, (mks mkH 4 k p.1).map eH ++ (l.map eH).drop p.1))]) (fun p => p.1 ≤ l.length ∧ p.2 = k + 4 * p.1) (fun p => l.length - p.1) ((0, k)) (fun p => by simp; rfl) (by simp [mks]) ?_ ?_)
  · simp
  rintro ⟨i, q⟩ ⟨hi, hq⟩
  simp only at hi hq
  obtain ⟨q1, e1⟩ : ∃ x, x = q + 1 := ⟨_, rfl⟩
  have w1 : IntKind.i64.wrap ((q : Int) + 1) = (q1 : Int) := by rw [wrap_i64 (by omega) (by omega)]; omega
  obtain ⟨q2, e2⟩ : ∃ x, x = q1 + 1 := ⟨_, rfl⟩
  have w2 : IntKind.i64.wrap ((q1 : Int) + 1) = (q2 : Int) := by rw [wrap_i64 (by omega) (by omega)]; omega
  obtain ⟨q3, e3⟩ : ∃ x, x = q2 + 1 := ⟨_, rfl⟩
  have w3 : IntKind.i64.wrap ((q2 : Int) + 1) = (q3 : Int) := by rw [wrap_i64 (by omega) (by omega)]; omega
  obtain ⟨q4, e4⟩ : ∃ x, x = q3 + 1 := ⟨_, rfl⟩
  have w4 : IntKind.i64.wrap ((q3 : Int) + 1) = (q4 : Int) := by rw [wrap_i64 (by omega) (by omega)]; omega
  refine W_seq (W_rseqK [0, 1, 5, 9] (jh hX (by simp [w1, w2, w3, w4]; rfl)) ?_)
  refine jd (fun h2 => ?_) (fun h2 => ?_)
  · try simp at h2
    rw [List.drop_eq_getElem_cons (show i < (l.map eH).length by simpa using h2), List.getElem_map]
    generalize hZ : (l.map eH).drop (i + 1) = Z
    obtain ⟨Y, hY⟩ : ∃ Y, Y = (mks mkH 4 k i).map eH := ⟨_, rfl⟩
    rw [← hY]
    have hYl : Y.length = i := by simp [hY, mks_len]
    have m1 := fun x => midG hYl x Z
    have m2 := fun x y => midS hYl x y Z
    have hnext : (mks mkH 4 k (i + 1)).map eH ++ (l.map eH).drop (i + 1) = Y ++ .agg [.int .i64 (q : Nat), .int .i64 (q1 : Nat), .int .i64 (q2 : Nat), .str (mText q3)] :: Z := by
      rw [mks_succ, ← hq, hZ, hY]
      simp [mkH, e1, e2, e3, e4]
      try omega
    refine W_skip (W_seq (W_block (W_rseqK [0, 1, 5] (jh hX (by simp [w1, w2, w3, w4, h2, m1, m2, hYl]; rfl)) ?_)))
    refine W_rseqK [0, 1, 5] (jh hX (by simp [w1, w2, w3, w4, h2, m1, m2, hYl]; (try (simp (disch := omega) only [wrap_i64]; (try simp [w1, w2, w3, w4, h2, m1, m2, hYl]))); rfl)) ?_
    refine W_rseqK [0, 1, 5] (jh hX (by simp [w1, w2, w3, w4, h2, m1, m2, hYl]; rfl)) ?_
    refine W_rseqK [0, 1, 5] (jh hX (by simp [w1, w2, w3, w4, h2, m1, m2, hYl]; (try (simp (disch := omega) only [wrap_i64]; (try simp [w1, w2, w3, w4, h2, m1, m2, hYl]))); rfl)) ?_
    refine W_rseqK [0, 1, 5] (jh hX (by simp [w1, w2, w3, w4, h2, m1, m2, hYl]; rfl)) ?_
    refine W_rseqK [0, 1, 5] (jh hX (by simp [w1, w2, w3, w4, h2, m1, m2, hYl]; (try (simp (disch := omega) only [wrap_i64]; (try simp [w1, w2, w3, w4, h2, m1, m2, hYl]))); rfl)) ?_
    refine W_rseqK [0, 1, 5] (js hX 3 (by simp [w1, w2, w3, w4, h2, m1, m2, hYl]; rfl) (jc [] (c:=(by apply ct_laws_markText <;> first | omega | assumption)) (a:=cb_laws_markText) (k:=(jh hX (by simp [w1, w2, w3, w4, h2, m1, m2, hYl]; rfl))))) ?_
    refine W_reg (jh hX (by simp [w1, w2, w3, w4, h2, m1, m2, hYl]; (try (simp (disch := omega) only [wrap_i64]; (try simp [w1, w2, w3, w4, h2, m1, m2, hYl]))); rfl)) ?_
    refine W_reg (jh hX (by simp [w1, w2, w3, w4, h2, m1, m2, hYl]; (try (simp (disch := omega) only [wrap_i64]; (try simp [w1, w2, w3, w4, h2, m1, m2, hYl]))); rfl)) ?_
    refine round_end ((i + 1, q4)) [0, 1, 5] (by simp [hnext, w1, w2, w3, w4]; try (simp (disch := omega) only [wrap_i64]); try omega) ?_ ?_
    · exact ⟨by simp only; omega, by simp only; omega⟩
    · simp only; omega
  · try simp at h2
    have hil : i = l.length := by omega
    subst hil
    rw [List.drop_eq_nil_of_le (by simp), List.append_nil]
    refine W_exit (W_rseqK [4] (jh hX (by simp [w1, w2, w3, w4, h2]; rfl)) ?_)
    refine W_ret (W_retR2 (by simp [w1, w2, w3, w4, h2]; rfl) (by rfl) (.of_eq ?_) ?_)
    all_goals clear hX
    · skip
      simp; omega
    · skip
      simp
end Go.Proofs
namespace Go.Proofs
open Go Go.Ev


theorem cb_laws_markMethodS : Callable Tryz.prog 90 := ⟨_, Tryz.func90, by kernel_rfl, by kernel_rfl⟩
theorem ct_laws_markMethodS {l : List Mth} {k : Nat} (hk : k + cntMs l ≤ 1073741824) : Ct Tryz.prog 90 [.arr 0 0 l.length, .int .i64 k] [some (9, l.map oM)] (.int .i64 ((k + cntMs l : Nat) : Int)) [some (9, (mkMs k l).map oM)] := by
  have hl : l.length ≤ 1073741824 := by have := cntMs_len l; omega
  refine Ct_bodyS tok Tryz.func90 rfl 84 (by kernel_rfl) (by kernel_rfl) fun X hX => ?_
  refine jq [0, 1] ?_
  refine W_seq (jq [0, 1, 5] ?_)
  refine W_block (W_loopU (α := Nat × Nat) [0, 1, 5] (fun p => [(1, .int .i64 (p.2 : Nat)), (5, .int .i64 (p.1 : Nat))]) (fun p => [(0, some (9, (mkMs k (l.take p.1)).map oM ++ (l.map oM).drop p.1))]) (fun p => p.1 ≤ l.length ∧ p.2 = k + cntMs (l.take p.1)) (fun p => l.length - p.1) ((0, k)) (fun p => by simp; rfl) (by simp [mkMs]) ?_ ?_)
  · simp [cntMs]
  rintro ⟨i, q⟩ ⟨hi, hq⟩
  simp only at hi hq
  have hqB : q ≤ 1073741824 := by have := cntMs_take l i; omega
  obtain ⟨q1, e1⟩ : ∃ x, x = q + 1 := ⟨_, rfl⟩
  have w1 : IntKind.i64.wrap ((q : Int) + 1) = (q1 : Int) := by rw [wrap_i64 (by omega) (by omega)]; omega
  obtain ⟨q2, e2⟩ : ∃ x, x = q1 + 1 := ⟨_, rfl⟩
  have w2 : IntKind.i64.wrap ((q1 : Int) + 1) = (q2 : Int) := by rw [wrap_i64 (by omega) (by omega)]; omega
  obtain ⟨q3, e3⟩ : ∃ x, x = q2 + 1 := ⟨_, rfl⟩
  have w3 : IntKind.i64.wrap ((q2 : Int) + 1) = (q3 : Int) := by rw [wrap_i64 (by omega) (by omega)]; omega
  obtain ⟨q4, e4⟩ : ∃ x, x = q3 + 1 := ⟨_, rfl⟩
  have w4 : IntKind.i64.wrap ((q3 : Int) + 1) = (q4 : Int) := by rw [wrap_i64 (by omega) (by omega)]; omega
  obtain ⟨q5, e5⟩ : ∃ x, x = q4 + 1 := ⟨_, rfl⟩
  have w5 : IntKind.i64.wrap ((q4 : Int) + 1) = (q5 : Int) := by rw [wrap_i64 (by omega) (by omega)]; omega
  obtain ⟨q6, e6⟩ : ∃ x, x = q5 + 1 := ⟨_, rfl⟩
  have w6 : IntKind.i64.wrap ((q5 : Int) + 1) = (q6 : Int) := by rw [wrap_i64 (by omega) (by omega)]; omega
  obtain ⟨q7, e7⟩ : ∃ x, x = q6 + 1 := ⟨_, rfl⟩
  have w7 : IntKind.i64.wrap ((q6 : Int) + 1) = (q7 : Int) := by rw [wrap_i64 (by omega) (by omega)]; omega
  have v2 := mod3 q2
  have v3 := mod3 q3
  have v4 := mod3 q4
  refine W_seq (W_rseqK [0, 1, 5, 9] (jh hX (by simp [w1, w2, w3, w4, w5, w6, w7, v2, v3, v4]; rfl)) ?_)
  refine jd (fun h2 => ?_) (fun h2 => ?_)
  · try simp at h2
    have hB := cntMs_at l i h2
    simp only [cntM] at hB
    rw [List.drop_eq_getElem_cons (show i < (l.map oM).length by simpa using h2), List.getElem_map]
    obtain ⟨Z, hZ⟩ : ∃ Z, Z = (l.map oM).drop (i + 1) := ⟨_, rfl⟩
    rw [← hZ]
    obtain ⟨Y, hY⟩ : ∃ Y, Y = (mkMs k (l.take i)).map oM := ⟨_, rfl⟩
    rw [← hY]
    have hYl : Y.length = i := by rw [hY, List.length_map, mkMs_len, List.length_take]; omega
    have hYZ : ∀ x, i < (Y ++ x :: Z).length := fun x => by simp [hYl]
    have m1 := fun x => midG hYl x Z
    have m2 := fun x y => midS hYl x y Z
    have m3 := fun p x => mid_jk (p := p) (x := x) (Y := Y) (Z := Z) (by rw [hY]; simp) (by rw [hZ, ← List.map_drop]; exact jk_oM p _)
    have hnext : (mkMs k (l.take (i + 1))).map oM ++ (l.map oM).drop (i + 1) = Y ++ .agg [.str (mText q), .str (mText q1), .bool (decide (q2 % 3 = 0)), .bool (decide (q3 % 3 = 0)), .bool (decide (q4 % 3 = 0)), .int .i64 (q5 : Nat), .int .i64 (q6 : Nat), .lst true 5 ((mks mkI 5 q7 l[i].code.length).map eI), .lst true 4 ((mks mkH 4 (q7 + 5 * l[i].code.length) l[i].hdls.length).map eH)] :: Z := by
      rw [mkMs_snoc h2, ← hq, ← hZ, hY]
      simp only [List.map_append, List.map_cons, List.map_nil, List.append_assoc, List.singleton_append, oM, mkM]
      simp [e1, e2, e3, e4, e5, e6, e7]
      try omega
    refine W_le (Le.expose 0 i 7 (by simp [St.expose, m1, m2, hYl]; rfl)) ?_
    refine W_le (Le.expose 0 i 8 (by simp [St.expose, m1, m2, hYl]; rfl)) ?_
    refine W_skip (W_seq (W_block (W_rseqK [0, 1, 5] (js hX 3 (by simp [w1, w2, w3, w4, w5, w6, w7, v2, v3, v4, h2, m1, m2, hYl, hYZ]; rfl) (jc [] (c:=(by apply ct_laws_markText <;> first | omega | assumption | (simp; omega))) (a:=cb_laws_markText) (k:=(jh hX (by simp [w1, w2, w3, w4, w5, w6, w7, v2, v3, v4, h2, m1, m2, hYl, hYZ]; rfl))))) ?_)))
    refine W_rseqK [0, 1, 5] (jh hX (by simp [w1, w2, w3, w4, w5, w6, w7, v2, v3, v4, h2, m1, m2, hYl, hYZ]; (try (simp (disch := omega) only [wrap_i64]; (try simp [w1, w2, w3, w4, w5, w6, w7, v2, v3, v4, h2, m1, m2, hYl, hYZ]))); rfl)) ?_
    refine W_rseqK [0, 1, 5] (js hX 3 (by simp [w1, w2, w3, w4, w5, w6, w7, v2, v3, v4, h2, m1, m2, hYl, hYZ]; rfl) (jc [] (c:=(by apply ct_laws_markText <;> first | omega | assumption | (simp; omega))) (a:=cb_laws_markText) (k:=(jh hX (by simp [w1, w2, w3, w4, w5, w6, w7, v2, v3, v4, h2, m1, m2, hYl, hYZ]; rfl))))) ?_
    refine W_rseqK [0, 1, 5] (jh hX (by simp [w1, w2, w3, w4, w5, w6, w7, v2, v3, v4, h2, m1, m2, hYl, hYZ]; (try (simp (disch := omega) only [wrap_i64]; (try simp [w1, w2, w3, w4, w5, w6, w7, v2, v3, v4, h2, m1, m2, hYl, hYZ]))); rfl)) ?_
    refine W_rseqK [0, 1, 5] (jh hX (by simp [w1, w2, w3, w4, w5, w6, w7, v2, v3, v4, h2, m1, m2, hYl, hYZ]; rfl)) ?_
    refine W_rseqK [0, 1, 5] (jh hX (by simp [w1, w2, w3, w4, w5, w6, w7, v2, v3, v4, h2, m1, m2, hYl, hYZ]; (try (simp (disch := omega) only [wrap_i64]; (try simp [w1, w2, w3, w4, w5, w6, w7, v2, v3, v4, h2, m1, m2, hYl, hYZ]))); rfl)) ?_
    refine W_rseqK [0, 1, 5] (jh hX (by simp [w1, w2, w3, w4, w5, w6, w7, v2, v3, v4, h2, m1, m2, hYl, hYZ]; rfl)) ?_
    refine W_rseqK [0, 1, 5] (jh hX (by simp [w1, w2, w3, w4, w5, w6, w7, v2, v3, v4, h2, m1, m2, hYl, hYZ]; (try (simp (disch := omega) only [wrap_i64]; (try simp [w1, w2, w3, w4, w5, w6, w7, v2, v3, v4, h2, m1, m2, hYl, hYZ]))); rfl)) ?_
    refine W_rseqK [0, 1, 5] (jh hX (by simp [w1, w2, w3, w4, w5, w6, w7, v2, v3, v4, h2, m1, m2, hYl, hYZ]; rfl)) ?_
    refine W_rseqK [0, 1, 5] (jh hX (by simp [w1, w2, w3, w4, w5, w6, w7, v2, v3, v4, h2, m1, m2, hYl, hYZ]; (try (simp (disch := omega) only [wrap_i64]; (try simp [w1, w2, w3, w4, w5, w6, w7, v2, v3, v4, h2, m1, m2, hYl, hYZ]))); rfl)) ?_
    refine W_rseqK [0, 1, 5] (jh hX (by simp [w1, w2, w3, w4, w5, w6, w7, v2, v3, v4, h2, m1, m2, hYl, hYZ]; rfl)) ?_
    refine W_rseqK [0, 1, 5] (jh hX (by simp [w1, w2, w3, w4, w5, w6, w7, v2, v3, v4, h2, m1, m2, hYl, hYZ]; (try (simp (disch := omega) only [wrap_i64]; (try simp [w1, w2, w3, w4, w5, w6, w7, v2, v3, v4, h2, m1, m2, hYl, hYZ]))); rfl)) ?_
    refine W_rseqK [0, 1, 5] (jh hX (by simp [w1, w2, w3, w4, w5, w6, w7, v2, v3, v4, h2, m1, m2, hYl, hYZ]; rfl)) ?_
    refine W_rseqK [0, 1, 5] (jh hX (by simp [w1, w2, w3, w4, w5, w6, w7, v2, v3, v4, h2, m1, m2, hYl, hYZ]; (try (simp (disch := omega) only [wrap_i64]; (try simp [w1, w2, w3, w4, w5, w6, w7, v2, v3, v4, h2, m1, m2, hYl, hYZ]))); rfl)) ?_
    refine W_rseqK [0, 1, 5] (js hX 6 (by simp [w1, w2, w3, w4, w5, w6, w7, v2, v3, v4, h2, m1, m2, hYl, hYZ]; rfl) (jc [1] (c:=(by (try simp only [mapL_T, mapL_F, mapL_I, mapL_H, mapL_M, mapL_C]); apply ct_laws_markInsS <;> first | omega | assumption | (simp; omega))) (a:=cb_laws_markInsS) (k:=(jh hX (by simp [w1, w2, w3, w4, w5, w6, w7, v2, v3, v4, h2, m1, m2, hYl, hYZ]; rfl))))) ?_
    refine W_reg (js hX 6 (by simp [w1, w2, w3, w4, w5, w6, w7, v2, v3, v4, h2, m1, m2, hYl, hYZ]; rfl) (jc [2] (c:=(by (try simp only [mapL_T, mapL_F, mapL_I, mapL_H, mapL_M, mapL_C]); apply ct_laws_markHandlerS <;> first | omega | assumption | (simp; omega))) (a:=cb_laws_markHandlerS) (k:=(jh hX (by simp [w1, w2, w3, w4, w5, w6, w7, v2, v3, v4, h2, m1, m2, hYl, hYZ]; rfl))))) ?_
    refine W_reg (jh hX (by simp [w1, w2, w3, w4, w5, w6, w7, v2, v3, v4, h2, m1, m2, hYl, hYZ]; (try (simp (disch := omega) only [wrap_i64]; (try simp [w1, w2, w3, w4, w5, w6, w7, v2, v3, v4, h2, m1, m2, hYl, hYZ]))); rfl)) ?_
    refine ⟨(i + 1, (q7 + 5 * l[i].code.length) + 4 * l[i].hdls.length), Le.trans (Le.keep [0, 1, 5] _) (Le.trans (Le.absorb 0 i 7 (by simp [m1, m2, m3, hYl, hYZ, mks_len, mkMs_len, take_mks, take_mkMs]; rfl)) (Le.trans (Le.absorb 0 i 8 (by simp [m1, m2, m3, hYl, hYZ, mks_len, mkMs_len, take_mks, take_mkMs]; rfl)) (Le.trans (Le.trim 1 (by simp [hX]) _ (by simp)) (Le.of_eq (by simp [hnext, m1, m2, m3, hYl, hYZ, mks_len, mkMs_len, take_mks, take_mkMs, V.jk, jkL, w1, w2, w3, w4, w5, w6, w7]; try omega))))), ?_, ?_⟩
    · exact ⟨by simp only; omega, by simp only; rw [cntMs_snoc h2]; simp only [cntM]; omega⟩
    · simp only; omega
  · try simp at h2
    have hil : i = l.length := by omega
    subst hil
    rw [List.drop_eq_nil_of_le (by simp), List.append_nil, List.take_of_length_le (Nat.le_refl _)]
    rw [List.take_of_length_le (Nat.le_refl _)] at hq
    refine W_exit (W_rseqK [4] (jh hX (by simp [w1, w2, w3, w4, w5, w6, w7, v2, v3, v4, h2]; rfl)) ?_)
    refine W_ret (W_retR2 (by simp [w1, w2, w3, w4, w5, w6, w7, v2, v3, v4, h2]; rfl) (by rfl) (.of_eq ?_) ?_)
    all_goals clear hX
    · skip
      simp; omega
    · skip
      simp
end Go.Proofs
namespace Go.Proofs
open Go Go.Ev


theorem cb_laws_markClassS : Callable Tryz.prog 40 := ⟨_, Tryz.func40, by kernel_rfl, by kernel_rfl⟩
theorem ct_laws_markClassS {l : List Cls} {k : Nat} (hk : k + cntCs l ≤ 1073741824) : Ct Tryz.prog 40 [.arr 0 0 l.length, .int .i64 k] [some (6, l.map oC)] (.int .i64 ((k + cntCs l : Nat) : Int)) [some (6, (mkCs k l).map oC)] := by
  have hl : l.length ≤ 1073741824 := by have := cntCs_len l; omega
  refine Ct_bodyS tok Tryz.func40 rfl 61 (by kernel_rfl) (by kernel_rfl) fun X hX => ?_
  refine jq [0, 1] ?_
  refine W_seq (jq [0, 1, 5] ?_)
  refine W_block (W_loopU (α := Nat × Nat) [0, 1, 5] (fun p => [(1, .int .i64 (p.2 : Nat)), (5, .int .i64 (p.1 : Nat))]) (fun p => [(0, some (6, (mkCs k (l.take p.1)).map oC ++ (l.map oC).drop p.1))]) (fun p => p.1 ≤ l.length ∧ p.2 = k + cntCs (l.take p.1)) (fun p => l.length - p.1) ((0, k)) (fun p => by simp; rfl) (by simp [mkCs]) ?_ ?_)
  · simp [cntCs]
  rintro ⟨i, q⟩ ⟨hi, hq⟩
  simp only at hi hq
  have hqB : q ≤ 1073741824 := by have := cntCs_take l i; omega
  obtain ⟨q1, e1⟩ : ∃ x, x = q + 1 := ⟨_, rfl⟩
  have w1 : IntKind.i64.wrap ((q : Int) + 1) = (q1 : Int) := by rw [wrap_i64 (by omega) (by omega)]; omega
  obtain ⟨q2, e2⟩ : ∃ x, x = q1 + 1 := ⟨_, rfl⟩
  have w2 : IntKind.i64.wrap ((q1 : Int) + 1) = (q2 : Int) := by rw [wrap_i64 (by omega) (by omega)]; omega
  obtain ⟨q3, e3⟩ : ∃ x, x = q2 + 1 := ⟨_, rfl⟩
  have w3 : IntKind.i64.wrap ((q2 : Int) + 1) = (q3 : Int) := by rw [wrap_i64 (by omega) (by omega)]; omega
  obtain ⟨q4, e4⟩ : ∃ x, x = q3 + 1 := ⟨_, rfl⟩
  have w4 : IntKind.i64.wrap ((q3 : Int) + 1) = (q4 : Int) := by rw [wrap_i64 (by omega) (by omega)]; omega
  have v2 := mod3 q2
  have v3 := mod3 q3
  refine W_seq (W_rseqK [0, 1, 5, 9] (jh hX (by simp [w1, w2, w3, w4, v2, v3]; rfl)) ?_)
  refine jd (fun h2 => ?_) (fun h2 => ?_)
  · try simp at h2
    have hB := cntCs_at l i h2
    simp only [cntC] at hB
    rw [List.drop_eq_getElem_cons (show i < (l.map oC).length by simpa using h2), List.getElem_map]
    obtain ⟨Z, hZ⟩ : ∃ Z, Z = (l.map oC).drop (i + 1) := ⟨_, rfl⟩
    rw [← hZ]
    obtain ⟨Y, hY⟩ : ∃ Y, Y = (mkCs k (l.take i)).map oC := ⟨_, rfl⟩
    rw [← hY]
    have hYl : Y.length = i := by rw [hY, List.length_map, mkCs_len, List.length_take]; omega
    have hYZ : ∀ x, i < (Y ++ x :: Z).length := fun x => by simp [hYl]
    have m1 := fun x => midG hYl x Z
    have m2 := fun x y => midS hYl x y Z
    have m3 := fun p x => mid_jk (p := p) (x := x) (Y := Y) (Z := Z) (by rw [hY]; simp) (by rw [hZ, ← List.map_drop]; exact jk_oC p _)
    have hnext : (mkCs k (l.take (i + 1))).map oC ++ (l.map oC).drop (i + 1) = Y ++ .agg [.str (mText q), .str (mText q1), .bool (decide (q2 % 3 = 0)), .bool (decide (q3 % 3 = 0)), .lst true 3 ((mks mkF 3 q4 l[i].fields.length).map eF), .lst true 9 ((mkMs (q4 + 3 * l[i].fields.length) l[i].methods).map oM)] :: Z := by
      rw [mkCs_snoc h2, ← hq, ← hZ, hY]
      simp only [List.map_append, List.map_cons, List.map_nil, List.append_assoc, List.singleton_append, oC, mkC]
      simp [e1, e2, e3, e4]
      try omega
    refine W_le (Le.expose 0 i 4 (by simp [St.expose, m1, m2, hYl]; rfl)) ?_
    refine W_le (Le.expose 0 i 5 (by simp [St.expose, m1, m2, hYl]; rfl)) ?_
    refine W_skip (W_seq (W_block (W_rseqK [0, 1, 5] (js hX 3 (by simp [w1, w2, w3, w4, v2, v3, h2, m1, m2, hYl, hYZ]; rfl) (jc [] (c:=(by apply ct_laws_markText <;> first | omega | assumption | (simp; omega))) (a:=cb_laws_markText) (k:=(jh hX (by simp [w1, w2, w3, w4, v2, v3, h2, m1, m2, hYl, hYZ]; rfl))))) ?_)))
    refine W_rseqK [0, 1, 5] (jh hX (by simp [w1, w2, w3, w4, v2, v3, h2, m1, m2, hYl, hYZ]; (try (simp (disch := omega) only [wrap_i64]; (try simp [w1, w2, w3, w4, v2, v3, h2, m1, m2, hYl, hYZ]))); rfl)) ?_
    refine W_rseqK [0, 1, 5] (js hX 3 (by simp [w1, w2, w3, w4, v2, v3, h2, m1, m2, hYl, hYZ]; rfl) (jc [] (c:=(by apply ct_laws_markText <;> first | omega | assumption | (simp; omega))) (a:=cb_laws_markText) (k:=(jh hX (by simp [w1, w2, w3, w4, v2, v3, h2, m1, m2, hYl, hYZ]; rfl))))) ?_
    refine W_rseqK [0, 1, 5] (jh hX (by simp [w1, w2, w3, w4, v2, v3, h2, m1, m2, hYl, hYZ]; (try (simp (disch := omega) only [wrap_i64]; (try simp [w1, w2, w3, w4, v2, v3, h2, m1, m2, hYl, hYZ]))); rfl)) ?_
    refine W_rseqK [0, 1, 5] (jh hX (by simp [w1, w2, w3, w4, v2, v3, h2, m1, m2, hYl, hYZ]; rfl)) ?_
    refine W_rseqK [0, 1, 5] (jh hX (by simp [w1, w2, w3, w4, v2, v3, h2, m1, m2, hYl, hYZ]; (try (simp (disch := omega) only [wrap_i64]; (try simp [w1, w2, w3, w4, v2, v3, h2, m1, m2, hYl, hYZ]))); rfl)) ?_
    refine W_rseqK [0, 1, 5] (jh hX (by simp [w1, w2, w3, w4, v2, v3, h2, m1, m2, hYl, hYZ]; rfl)) ?_
    refine W_rseqK [0, 1, 5] (jh hX (by simp [w1, w2, w3, w4, v2, v3, h2, m1, m2, hYl, hYZ]; (try (simp (disch := omega) only [wrap_i64]; (try simp [w1, w2, w3, w4, v2, v3, h2, m1, m2, hYl, hYZ]))); rfl)) ?_
    refine W_rseqK [0, 1, 5] (js hX 6 (by simp [w1, w2, w3, w4, v2, v3, h2, m1, m2, hYl, hYZ]; rfl) (jc [1] (c:=(by (try simp only [mapL_T, mapL_F, mapL_I, mapL_H, mapL_M, mapL_C]); apply ct_laws_markFieldS <;> first | omega | assumption | (simp; omega))) (a:=cb_laws_markFieldS) (k:=(jh hX (by simp [w1, w2, w3, w4, v2, v3, h2, m1, m2, hYl, hYZ]; rfl))))) ?_
    refine W_reg (js hX 6 (by simp [w1, w2, w3, w4, v2, v3, h2, m1, m2, hYl, hYZ]; rfl) (jc [2] (c:=(by (try simp only [mapL_T, mapL_F, mapL_I, mapL_H, mapL_M, mapL_C]); apply ct_laws_markMethodS <;> first | omega | assumption | (simp; omega))) (a:=cb_laws_markMethodS) (k:=(jh hX (by simp [w1, w2, w3, w4, v2, v3, h2, m1, m2, hYl, hYZ]; rfl))))) ?_
    refine W_reg (jh hX (by simp [w1, w2, w3, w4, v2, v3, h2, m1, m2, hYl, hYZ]; (try (simp (disch := omega) only [wrap_i64]; (try simp [w1, w2, w3, w4, v2, v3, h2, m1, m2, hYl, hYZ]))); rfl)) ?_
    refine ⟨(i + 1, (q4 + 3 * l[i].fields.length) + cntMs l[i].methods), Le.trans (Le.keep [0, 1, 5] _) (Le.trans (Le.absorb 0 i 4 (by simp [m1, m2, m3, hYl, hYZ, mks_len, mkMs_len, take_mks, take_mkMs]; rfl)) (Le.trans (Le.absorb 0 i 5 (by simp [m1, m2, m3, hYl, hYZ, mks_len, mkMs_len, take_mks, take_mkMs]; rfl)) (Le.trans (Le.trim 1 (by simp [hX]) _ (by simp)) (Le.of_eq (by simp [hnext, m1, m2, m3, hYl, hYZ, mks_len, mkMs_len, take_mks, take_mkMs, V.jk, jkL, w1, w2, w3, w4]; try omega))))), ?_, ?_⟩
    · exact ⟨by simp only; omega, by simp only; rw [cntCs_snoc h2]; simp only [cntC]; omega⟩
    · simp only; omega
  · try simp at h2
    have hil : i = l.length := by omega
    subst hil
    rw [List.drop_eq_nil_of_le (by simp), List.append_nil, List.take_of_length_le (Nat.le_refl _)]
    rw [List.take_of_length_le (Nat.le_refl _)] at hq
    refine W_exit (W_rseqK [4] (jh hX (by simp [w1, w2, w3, w4, v2, v3, h2]; rfl)) ?_)
    refine W_ret (W_retR2 (by simp [w1, w2, w3, w4, v2, v3, h2]; rfl) (by rfl) (.of_eq ?_) ?_)
    all_goals clear hX
    · skip
      simp; omega
    · skip
      simp
end Go.Proofs
namespace Go.Proofs
open Go Go.Ev


theorem cb_laws_heldFieldS : Callable Tryz.prog 42 := ⟨_, Tryz.func42, by kernel_rfl, by kernel_rfl⟩
theorem ct_laws_heldFieldS {k n : Nat} (hl : n ≤ 1099511627776) (hk : k ≤ 1099511627776) : Ct Tryz.prog 42 [.lst false 3 ((mks mkF 3 k n).map eF), .int .i64 k] [] (.int .i64 ((k + 3 * n : Nat) : Int)) [] := by
  refine Ct_bodyS tok Tryz.func42 rfl 44 (by kernel_rfl) (by kernel_rfl) fun X hX => ?_
  refine W_rseqK [0, 1] (jh hX (by simp [mks_len]; rfl)) ?_
  refine W_seq (W_rseqK [0, 1, 5] (jh hX (by simp [mks_len]; rfl)) ?_)
  refine W_block (W_loopU (α := Nat × Nat) [0, 1, 5] (fun p => [(1, .int .i64 (p.2 : Nat)), (5, .int .i64 (p.1 : Nat))]) (fun p => []) (fun p => p.1 ≤ n ∧ p.2 = k + 3 * p.1) (fun p => n - p.1) ((0, k)) (fun p => by simp; rfl) (by simp) ?_ ?_)
  · simp
  rintro ⟨i, q⟩ ⟨hi, hq⟩
  simp only at hi hq
  obtain ⟨q1, e1⟩ : ∃ x, x = q + 1 := ⟨_, rfl⟩
  have w1 : IntKind.i64.wrap ((q : Int) + 1) = (q1 : Int) := by rw [wrap_i64 (by omega) (by omega)]; omega
  obtain ⟨q2, e2⟩ : ∃ x, x = q1 + 1 := ⟨_, rfl⟩
  have w2 : IntKind.i64.wrap ((q1 : Int) + 1) = (q2 : Int) := by rw [wrap_i64 (by omega) (by omega)]; omega
  obtain ⟨q3, e3⟩ : ∃ x, x = q2 + 1 := ⟨_, rfl⟩
  have w3 : IntKind.i64.wrap ((q2 : Int) + 1) = (q3 : Int) := by rw [wrap_i64 (by omega) (by omega)]; omega
  have v1 : (q : Int) + 1 = (q1 : Int) := by omega
  have u1 : q + 1 = q1 := by omega
  have v2 : (q : Int) + 2 = (q2 : Int) := by omega
  have u2 : q + 2 = q2 := by omega
  have z2 := mod3 q2
  refine W_seq (W_rseqK [0, 1, 5, 9] (jh hX (by simp [w1, w2, w3, v1, u1, v2, u2, z2, mks_len]; rfl)) ?_)
  refine jd (fun h2 => ?_) (fun h2 => ?_)
  · try simp at h2
    have hg : ∀ h, (mks mkF 3 k n)[i]'h = mkF q := fun h => by rw [mks_get h2, hq]
    refine W_skip (W_seq (W_block (W_seq (jD [0, 1, 5, 19] (jS 6 (by simp [w1, w2, w3, v1, u1, v2, u2, z2, h2, hg, mkF, mks_len]; rfl) (jC (c:=by apply ct_laws_markText <;> first | omega | assumption) (a:=cb_laws_markText) (k:=(jQ (by simp [w1, w2, w3, v1, u1, v2, u2, z2, h2, hg, mkF, mks_len]; rfl))))) ?_))))
    refine jd (fun h4 => ?_) (fun h4 => ?_)
    · try simp at h4
      all_goals
        refine W_rseqK [4] (jh hX (by simp [w1, w2, w3, v1, u1, v2, u2, z2, h2, hg, mkF, mks_len]; rfl)) ?_
        refine W_ret (je (by simp [w1, w2, w3, v1, u1, v2, u2, z2, h2, hg, mkF, mks_len]; rfl) ?_)
        simp; omega
    · try simp at h4
      all_goals
        refine W_skip (W_rseqK [0, 1, 5] (jh hX (by simp [w1, w2, w3, v1, u1, v2, u2, z2, h2, hg, mkF, mks_len]; (try (simp (disch := omega) only [wrap_i64]; (try simp [w1, w2, w3, v1, u1, v2, u2, z2, h2, hg, mkF, mks_len]))); rfl)) ?_)
        refine W_seq (jD [0, 1, 5, 29] (jS 6 (by simp [w1, w2, w3, v1, u1, v2, u2, z2, h2, hg, mkF, mks_len]; rfl) (jC (c:=by apply ct_laws_markText <;> first | omega | assumption) (a:=cb_laws_markText) (k:=(jQ (by simp [w1, w2, w3, v1, u1, v2, u2, z2, h2, hg, mkF, mks_len]; rfl))))) ?_)
        refine jd (fun h7 => ?_) (fun h7 => ?_)
        · try simp at h7
          all_goals
            refine W_rseqK [4] (jh hX (by simp [w1, w2, w3, v1, u1, v2, u2, z2, h2, hg, mkF, mks_len]; rfl)) ?_
            refine W_ret (je (by simp [w1, w2, w3, v1, u1, v2, u2, z2, h2, hg, mkF, mks_len]; rfl) ?_)
            simp; omega
        · try simp at h7
          all_goals
            refine W_skip (W_rseqK [0, 1, 5] (jh hX (by simp [w1, w2, w3, v1, u1, v2, u2, z2, h2, hg, mkF, mks_len]; (try (simp (disch := omega) only [wrap_i64]; (try simp [w1, w2, w3, v1, u1, v2, u2, z2, h2, hg, mkF, mks_len]))); rfl)) ?_)
            refine W_seq (W_rseqK [0, 1, 5, 40] (jh hX (by simp [w1, w2, w3, v1, u1, v2, u2, z2, h2, hg, mkF, mks_len]; rfl)) ?_)
            refine jd (fun h10 => ?_) (fun h10 => ?_)
            · try simp at h10
              all_goals
                refine W_rseqK [4] (jh hX (by simp [w1, w2, w3, v1, u1, v2, u2, z2, h2, hg, mkF, mks_len]; rfl)) ?_
                refine W_ret (je (by simp [w1, w2, w3, v1, u1, v2, u2, z2, h2, hg, mkF, mks_len]; rfl) ?_)
                simp; omega
            · try simp at h10
              all_goals
                refine W_skip (W_reg (jh hX (by simp [w1, w2, w3, v1, u1, v2, u2, z2, h2, hg, mkF, mks_len]; (try (simp (disch := omega) only [wrap_i64]; (try simp [w1, w2, w3, v1, u1, v2, u2, z2, h2, hg, mkF, mks_len]))); rfl)) ?_)
                refine W_reg (jh hX (by simp [w1, w2, w3, v1, u1, v2, u2, z2, h2, hg, mkF, mks_len]; (try (simp (disch := omega) only [wrap_i64]; (try simp [w1, w2, w3, v1, u1, v2, u2, z2, h2, hg, mkF, mks_len]))); rfl)) ?_
                refine round_end ((i + 1, q3)) [0, 1, 5] (by simp [w1, w2, w3, v1, u1, v2, u2, z2, h2, hg, mkF]; try (simp (disch := omega) only [wrap_i64])) ?_ ?_
                · exact ⟨by simp only; omega, by simp only; omega⟩
                · simp only; omega
  · try simp at h2
    refine W_exit (W_rseqK [4] (jh hX (by simp [w1, w2, w3, v1, u1, v2, u2, z2, h2, mks_len]; rfl)) ?_)
    refine W_ret (je (by simp [w1, w2, w3, v1, u1, v2, u2, z2, h2, mks_len]; rfl) ?_)
    simp; omega
end Go.Proofs
namespace Go.Proofs
open Go Go.Ev


theorem cb_laws_FnExactFieldsOf : Callable Tryz.prog 9 := ⟨_, Tryz.func9, by kernel_rfl, by kernel_rfl⟩
theorem ct_laws_FnExactFieldsOf {l : List Cls} {s1 : Str} (hl : l.length < 4611686018427387904) (bl : ∀ y ∈ l, bigC y) (hs1 : s1.length < 4611686018427387904) : Ct Tryz.prog 9 [.lst false 6 (l.map eC), .str s1] [] (.bool true) [] := by
  refine Ct_bodyS tok Tryz.func9 rfl 77 (by kernel_rfl) (by kernel_rfl) fun X hX => ?_
  refine jq [0, 1] ?_
  refine W_seq (jq [0, 1, 15] ?_)
  refine jd (fun h1 => ?_) (fun h1 => ?_)
  · try simp at h1
    refine jq [4] ?_
    refine W_ret (je (by simp [h1]; rfl) ?_)
    first | omega | (simp_all; done) | (simp_all <;> omega)
  · try simp at h1
    refine W_skip (jq [0, 1, 5] ?_)
    refine W_rseqK [0, 1, 5] (jt 2 (k:=(jc [] (c:=(by apply ct_laws_szClassS <;> first | assumption | omega | (simp <;> omega))) (a:=cb_laws_szClassS) (k:=jr)))) ?_
    refine W_seq (jq [0, 1, 20] ?_)
    refine jd (fun h5 => ?_) (fun h5 => ?_)
    · try simp at h5
      refine jq [4] ?_
      refine W_ret (je (by simp [h1, h5]; rfl) ?_)
      first | omega | (simp_all; done) | (simp_all <;> omega)
    · try simp at h5
      have k5 := sub_ok h5
      have hsL : sizeL l ≤ 1048576 := by have := k5.1; unfold sizeL; omega
      have hfw := fldsW_len (n := s1) hsL
      have hc : cntCs l ≤ 7340032 := by have := cntCs_size l; omega
      refine W_skip (W_rseqK [0, 1, 6] (jt 1 (k:=(jF (c:=(by apply ct_laws_toClassS <;> first | assumption | omega | exact fun y hy => Nat.le_trans (mem_sum hy) (by omega))) (a:=cb_laws_toClassS) (k:=(jt 1 (k:=(jF (c:=(by apply ct_spec_FieldsOf <;> first | assumption | omega | (simp <;> omega))) (a:=cb_spec_FieldsOf) (k:=jr)))))))) ?_)
      refine W_rseqK [0, 1, 6, 7] (jt 1 (k:=(jc [] (c:=(by apply ct_laws_toClassS <;> first | assumption | omega | exact fun y hy => Nat.le_trans (mem_sum hy) (by omega))) (a:=cb_laws_toClassS) (k:=jr)))) ?_
      refine W_rseqK [0, 1, 6, 7, 8] (jt 2 (k:=(jB (c:=(by apply ct_impl_FieldsOf <;> first | assumption | omega | (simp <;> omega))) (a:=cb_impl_FieldsOf) (k:=jr)))) ?_
      refine W_seq (W_rseqK [0, 1, 6, 7, 8, 33] (jt 2 (k:=(jB (c:=(by apply ct_laws_eqFieldS <;> first | assumption | omega | (simp <;> omega))) (a:=cb_laws_eqFieldS) (k:=jr)))) ?_)
      refine jd (fun h10 => ?_) (fun h10 => ?_)
      · try simp at h10
        all_goals
          refine jq [4] ?_
          refine W_ret (je (by simp [h1, h5]; rfl) ?_)
          first | omega | (simp_all; done) | (simp_all <;> omega)
      · try simp at h10
        all_goals
          refine W_skip (W_seq (W_rseqK [0, 1, 6, 7, 8, 38] (jt 2 (k:=(jF (c:=(by apply ct_laws_toClassS <;> first | assumption | omega | exact fun y hy => Nat.le_trans (mem_sum hy) (by omega))) (a:=cb_laws_toClassS) (k:=(jB (c:=(by apply ct_laws_eqClassS <;> first | assumption | omega | (simp <;> omega))) (a:=cb_laws_eqClassS) (k:=jr)))))) ?_))
          refine jd (fun h12 => ?_) (fun h12 => ?_)
          · try simp at h12
            all_goals
              refine jq [4] ?_
              refine W_ret (je (by simp [h1, h5]; rfl) ?_)
              first | omega | (simp_all; done) | (simp_all <;> omega)
          · try simp at h12
            all_goals
              refine W_skip (jq [0, 1, 6, 7, 8, 9] ?_)
              refine W_rseqK [0, 1, 6, 8, 9] (jt 2 (k:=(jc [0] (c:=(by (try simp only [mapL_T, mapL_F, mapL_I, mapL_H, mapL_M, mapL_C]); apply ct_laws_markClassS (k := 1) <;> first | assumption | omega | (simp <;> omega))) (a:=cb_laws_markClassS) (k:=jr)))) ?_
              refine W_seq ?_
              first | (refine W_rseqK [0, 1, 6, 8, 49] (jt 5 (k:=(jB (c:=(by apply ct_laws_eqFieldS <;> first | assumption | omega | (simp <;> omega))) (a:=cb_laws_eqFieldS) (k:=jr)))) ?_)
              refine jd (fun h16 => ?_) (fun h16 => ?_)
              · try simp at h16
                all_goals
                  refine jq [4] ?_
                  refine W_ret (je (by simp [h1, h5, h16]; rfl) ?_)
                  first | omega | (simp_all; done) | (simp_all <;> omega)
              · try simp at h16
                all_goals
                  refine W_skip (jq [0, 1, 6, 8, 10] ?_)
                  refine W_rseqK [0, 1, 6, 8, 10] (jt 2 (k:=(jc [1] (c:=(by (try simp only [mapL_T, mapL_F, mapL_I, mapL_H, mapL_M, mapL_C]); apply ct_laws_markFieldS (k := 1) <;> first | assumption | omega | (simp <;> omega))) (a:=cb_laws_markFieldS) (k:=jr)))) ?_
                  refine jq [0, 1, 6, 8, 10, 11] ?_
                  refine W_rseqK [0, 1, 6, 8, 10, 11] (jt 2 (k:=(jB (c:=(by apply ct_laws_heldFieldS (k := 1) <;> first | assumption | omega | (simp <;> omega))) (a:=cb_laws_heldFieldS) (k:=jr)))) ?_
                  refine W_seq (jq [0, 1, 6, 8, 10, 11, 57] ?_)
                  refine jd (fun h22 => ?_) (fun h22 => ?_)
                  · try simp at h22
                    all_goals
                      refine jq [4] ?_
                      refine W_ret (je (by simp [h1, h5, h16, h22]; rfl) ?_)
                      first | omega | (simp_all; done) | (simp_all <;> omega)
                  · try simp at h22
                    all_goals
                      refine W_skip (W_seq (jq [0, 1, 6, 8, 10, 60] ?_))
                      refine jd (fun h24 => ?_) (fun h24 => ?_)
                      · try simp at h24
                        all_goals
                          refine jq [4] ?_
                          refine W_ret (je (by simp [h1, h5, h16, h22]; rfl) ?_)
                          first | omega | (simp_all; done) | (simp_all <;> omega)
                      · try simp at h24
                        all_goals
                          refine W_skip (W_rseqK [6, 8, 10, 12] (jt 1 (k:=(jF (c:=(by apply ct_laws_toClassS <;> first | assumption | omega | exact fun y hy => Nat.le_trans (mem_sum hy) (by omega))) (a:=cb_laws_toClassS) (k:=(jt 1 (k:=(jF (c:=(by apply ct_impl_FieldsOf <;> first | assumption | omega | (simp <;> omega))) (a:=cb_impl_FieldsOf) (k:=jr)))))))) ?_)
                          refine W_seq (W_rseqK [8, 10, 68] (jt 2 (k:=(jc [] (c:=(by apply ct_laws_eqFieldS <;> first | assumption | omega | (simp <;> omega))) (a:=cb_laws_eqFieldS) (k:=jr)))) ?_)
                          refine jd (fun h27 => ?_) (fun h27 => ?_)
                          · try simp at h27
                            all_goals
                              refine jq [4] ?_
                              refine W_ret (je (by simp [h1, h5, h16, h22]; rfl) ?_)
                              first | omega | (simp_all; done) | (simp_all <;> omega)
                          · try simp at h27
                            all_goals
                              refine W_skip (jq [8, 10, 11] ?_)
                              refine W_rseqK [10, 11] (jt 2 (k:=(jB (c:=(by apply ct_laws_heldFieldS (k := 1) <;> first | assumption | omega | (simp <;> omega))) (a:=cb_laws_heldFieldS) (k:=jr)))) ?_
                              refine W_seq (jq [10, 11, 73] ?_)
                              refine jd (fun h31 => ?_) (fun h31 => ?_)
                              · try simp at h31
                                all_goals
                                  refine jq [4] ?_
                                  refine W_ret (je (by simp [h1, h5, h16, h22, h31]; rfl) ?_)
                                  first | omega | (simp_all; done) | (simp_all <;> omega)
                              · try simp at h31
                                all_goals
                                  refine W_skip (W_seq (jq [76] ?_))
                                  refine jd (fun h33 => ?_) (fun h33 => ?_)
                                  · try simp at h33
                                    all_goals
                                      refine jq [4] ?_
                                      refine W_ret (je (by simp [h1, h5, h16, h22, h31]; rfl) ?_)
                                      first | omega | (simp_all; done) | (simp_all <;> omega)
                                  · try simp at h33
                                    all_goals
                                      refine W_skip (jq [4] ?_)
                                      refine W_ret (je (by simp [h1, h5, h16, h22, h31]; rfl) ?_)
                                      first | omega | (simp_all; done) | (simp_all <;> omega)
end Go.Proofs
namespace Go.Proofs
open Go Go.Ev

abbrev tcF : List Tc := [.str, .str, .bool]
abbrev tcI : List Tc := [.int .i64, .int .i64, .str, .str, .str]
abbrev tcH : List Tc := [.int .i64, .int .i64, .int .i64, .str]
abbrev tcM : List Tc := [.str, .str, .bool, .bool, .bool, .int .i64, .int .i64, .lst false tcI, .lst false tcH]
abbrev tcC : List Tc := [.str, .str, .bool, .bool, .lst false tcF, .lst false tcM]

theorem dec_list {α : Type} {enc : α → V} {Q : α → Prop} : ∀ {xs : List V}, (∀ x ∈ xs, ∃ a, x = enc a ∧ Q a) → ∃ l : List α, xs = l.map enc ∧ ∀ a ∈ l, Q a
  | [], _ => ⟨[], rfl, fun _ h => by cases h⟩
  | x :: xs, h => by
    obtain ⟨a, rfl, ha⟩ := h x (by simp)
    obtain ⟨l, rfl, hl⟩ := dec_list (enc := enc) (Q := Q) (xs := xs) fun y hy => h y (by simp [hy])
    exact ⟨a :: l, rfl, fun b hb => by
      rcases List.mem_cons.1 hb with rfl | hb
      · exact ha
      · exact hl b hb⟩

theorem okL_cons {c : Tc} {cs : List Tc} {vs : List V} (h : okL (c :: cs) vs) : ∃ v ws, vs = v :: ws ∧ okC c v ∧ okL cs ws := by
  cases vs with
  | nil => simp [okL] at h
  | cons v ws => exact ⟨v, ws, rfl, h⟩
theorem okL_nil {vs : List V} (h : okL [] vs) : vs = [] := by
  cases vs with
  | nil => rfl
  | cons v ws => simp [okL] at h
theorem okC_str {v : V} (h : okC .str v) : ∃ l, v = .str l ∧ l.length ≤ 140737488351232 := h
theorem okC_bool {v : V} (h : okC .bool v) : ∃ b, v = .bool b := h
theorem okC_int {v : V} (h : okC (.int .i64) v) : ∃ n, v = .int .i64 n ∧ -9223372036854775808 ≤ n ∧ n < 9223372036854775808 := by
  obtain ⟨n, rfl, hn⟩ := h
  refine ⟨n, rfl, ?_⟩
  simp [Lit.wf, IntKind.min, IntKind.max, IntKind.signed, IntKind.bits] at hn
  omega
theorem okC_lst {α : Type} {enc : α → V} {Q : α → Prop} {cs : List Tc} {v : V} (h : okC (.lst false cs) v) (hd : ∀ vs, okL cs vs → ∃ a, V.agg vs = enc a ∧ Q a) :
    ∃ l : List α, v = .lst false cs.length (l.map enc) ∧ l.length ≤ 140737488351232 ∧ ∀ a ∈ l, Q a := by
  obtain ⟨xs, rfl, hl, hx⟩ := h
  obtain ⟨l, rfl, hq⟩ := dec_list (enc := enc) (Q := Q) (xs := xs) fun x hx' => by
    have := hx x hx'
    simp only [Bool.false_eq_true, if_false] at this
    obtain ⟨vs, rfl, hv⟩ := this
    exact hd vs hv
  exact ⟨l, rfl, by rw [List.length_map] at hl; exact hl, hq⟩

theorem decF {vs : List V} (h : okL tcF vs) : ∃ x : Fld, V.agg vs = eF x ∧ bigF x := by
  obtain ⟨_, _, rfl, h0, h⟩ := okL_cons h
  obtain ⟨_, _, rfl, h1, h⟩ := okL_cons h
  obtain ⟨_, _, rfl, h2, h⟩ := okL_cons h
  obtain rfl := okL_nil h
  obtain ⟨a, rfl, ha⟩ := okC_str h0
  obtain ⟨b, rfl, hb⟩ := okC_str h1
  obtain ⟨c, rfl⟩ := okC_bool h2
  exact ⟨⟨a, b, c⟩, rfl, by simp only [bigF]; omega⟩

theorem decI {vs : List V} (h : okL tcI vs) : ∃ x : Ins, V.agg vs = eI x ∧ bigI x := by
  obtain ⟨_, _, rfl, h0, h⟩ := okL_cons h
  obtain ⟨_, _, rfl, h1, h⟩ := okL_cons h
  obtain ⟨_, _, rfl, h2, h⟩ := okL_cons h
  obtain ⟨_, _, rfl, h3, h⟩ := okL_cons h
  obtain ⟨_, _, rfl, h4, h⟩ := okL_cons h
  obtain rfl := okL_nil h
  obtain ⟨a, rfl, ha⟩ := okC_int h0
  obtain ⟨b, rfl, hb⟩ := okC_int h1
  obtain ⟨c, rfl, hc⟩ := okC_str h2
  obtain ⟨d, rfl, hd⟩ := okC_str h3
  obtain ⟨e, rfl, he⟩ := okC_str h4
  exact ⟨⟨a, b, c, d, e⟩, rfl, by simp only [bigI]; omega⟩

theorem decH {vs : List V} (h : okL tcH vs) : ∃ x : Hdl, V.agg vs = eH x ∧ bigH x := by
  obtain ⟨_, _, rfl, h0, h⟩ := okL_cons h
  obtain ⟨_, _, rfl, h1, h⟩ := okL_cons h
  obtain ⟨_, _, rfl, h2, h⟩ := okL_cons h
  obtain ⟨_, _, rfl, h3, h⟩ := okL_cons h
  obtain rfl := okL_nil h
  obtain ⟨a, rfl, ha⟩ := okC_int h0
  obtain ⟨b, rfl, hb⟩ := okC_int h1
  obtain ⟨c, rfl, hc⟩ := okC_int h2
  obtain ⟨d, rfl, hd⟩ := okC_str h3
  exact ⟨⟨a, b, c, d⟩, rfl, by simp only [bigH]; omega⟩

theorem decM {vs : List V} (h : okL tcM vs) : ∃ x : Mth, V.agg vs = eM x ∧ bigM x := by
  obtain ⟨_, _, rfl, h0, h⟩ := okL_cons h
  obtain ⟨_, _, rfl, h1, h⟩ := okL_cons h
  obtain ⟨_, _, rfl, h2, h⟩ := okL_cons h
  obtain ⟨_, _, rfl, h3, h⟩ := okL_cons h
  obtain ⟨_, _, rfl, h4, h⟩ := okL_cons h
  obtain ⟨_, _, rfl, h5, h⟩ := okL_cons h
  obtain ⟨_, _, rfl, h6, h⟩ := okL_cons h
  obtain ⟨_, _, rfl, h7, h⟩ := okL_cons h
  obtain ⟨_, _, rfl, h8, h⟩ := okL_cons h
  obtain rfl := okL_nil h
  obtain ⟨a, rfl, ha⟩ := okC_str h0
  obtain ⟨b, rfl, hb⟩ := okC_str h1
  obtain ⟨c, rfl⟩ := okC_bool h2
  obtain ⟨d, rfl⟩ := okC_bool h3
  obtain ⟨e, rfl⟩ := okC_bool h4
  obtain ⟨f, rfl, _⟩ := okC_int h5
  obtain ⟨g, rfl, _⟩ := okC_int h6
  obtain ⟨i, rfl, hi, hi2⟩ := okC_lst h7 fun vs => decI
  obtain ⟨j, rfl, hj, hj2⟩ := okC_lst h8 fun vs => decH
  exact ⟨⟨a, b, c, d, e, f, g, i, j⟩, rfl, by simp only [bigM]; exact ⟨by omega, by omega, by omega, hi2, by omega, hj2⟩⟩

theorem decC {vs : List V} (h : okL tcC vs) : ∃ x : Cls, V.agg vs = eC x ∧ bigC x := by
  obtain ⟨_, _, rfl, h0, h⟩ := okL_cons h
  obtain ⟨_, _, rfl, h1, h⟩ := okL_cons h
  obtain ⟨_, _, rfl, h2, h⟩ := okL_cons h
  obtain ⟨_, _, rfl, h3, h⟩ := okL_cons h
  obtain ⟨_, _, rfl, h4, h⟩ := okL_cons h
  obtain ⟨_, _, rfl, h5, h⟩ := okL_cons h
  obtain rfl := okL_nil h
  obtain ⟨a, rfl, ha⟩ := okC_str h0
  obtain ⟨b, rfl, hb⟩ := okC_str h1
  obtain ⟨c, rfl⟩ := okC_bool h2
  obtain ⟨d, rfl⟩ := okC_bool h3
  obtain ⟨i, rfl, hi, hi2⟩ := okC_lst h4 fun vs => decF
  obtain ⟨j, rfl, hj, hj2⟩ := okC_lst h5 fun vs => decM
  exact ⟨⟨a, b, c, d, i, j⟩, rfl, by simp only [bigC]; exact ⟨by omega, by omega, by omega, hi2, by omega, hj2⟩⟩

/-- arguments, one by one -/
theorem okA_cons {x : Bool × List Tc} {r : List (Bool × List Tc)} {vs : List V} (h : okA (x :: r) vs) : ∃ v ws, vs = v :: ws ∧ (if x.1 = true then okL x.2 [v] else ∃ us, v = .agg us ∧ okL x.2 us) ∧ okA r ws := by
  cases vs with
  | nil => simp [okA] at h
  | cons v ws => exact ⟨v, ws, rfl, h⟩
theorem okA_nil {vs : List V} (h : okA [] vs) : vs = [] := by
  cases vs with
  | nil => rfl
  | cons v ws => simp [okA] at h
abbrev aC : Bool × List Tc := (true, [.lst false tcC])
abbrev aS : Bool × List Tc := (true, [.str])
theorem okA_C {r : List (Bool × List Tc)} {vs : List V} (h : okA (aC :: r) vs) : ∃ (l : List Cls) (ws : List V), vs = .lst false 6 (l.map eC) :: ws ∧ l.length < 4611686018427387904 ∧ (∀ y ∈ l, bigC y) ∧ okA r ws := by
  obtain ⟨v, ws, rfl, h1, h2⟩ := okA_cons h
  simp only [if_true] at h1
  obtain ⟨l, rfl, hl, hq⟩ := okC_lst h1.1 fun vs => decC
  exact ⟨l, ws, rfl, by omega, hq, h2⟩
theorem okA_S {r : List (Bool × List Tc)} {vs : List V} (h : okA (aS :: r) vs) : ∃ (l : Str) (ws : List V), vs = .str l :: ws ∧ l.length < 4611686018427387904 ∧ okA r ws := by
  obtain ⟨v, ws, rfl, h1, h2⟩ := okA_cons h
  simp only [if_true] at h1
  obtain ⟨l, rfl, hl⟩ := okC_str h1.1
  exact ⟨l, ws, rfl, by omega, h2⟩
end Go.Proofs
namespace Go.Proofs.YtfannbjeleonkaaGreat
open Go Go.Ev Go.Proofs Go.RowKit Go.ChangeShapes Go.WideShapes
theorem s_k1 : ownKnob Tryz.checked.prog.godebug = none := by kernel_rfl
theorem s_h2 : laidOutB Tryz.checked.prog = true := by kernel_rfl
theorem s_h3 : mapsRowed Tryz.checked.prog = true := by kernel_rfl
theorem s_h6 : ((Rows.fnExactCommonOfRow.stops == []) && (Tryz.checked.prog.stops == []) && (Rows.fnExactCommonOfRow.knobs == []) && (Tryz.checked.prog.stopKnobs == [])) = true := by kernel_rfl
theorem s_h20 : (Rows.fnExactCommonOfRow.plainKeys == Tryz.checked.prog.plainKeys) = true := by kernel_rfl
theorem s_h21 : (Rows.fnExactCommonOfRow.shortTexts.isNone && Tryz.checked.prog.stopsHeard) = true := by kernel_rfl
theorem s_h21b : Tryz.checked.prog.mayEnter = true := by kernel_rfl
theorem s_h22 : (Rows.fnExactCommonOfRow.lifted == Tryz.checked.prog.liftsFinal) = true := by kernel_rfl
theorem s_h23 : (Tryz.checked.prog.make == some Rows.fnExactCommonOfRow.make) = true := by kernel_rfl
end Go.Proofs.YtfannbjeleonkaaGreat
namespace Go.Proofs
open Go Go.Ev
/-- is it of this name and this type? -/
def ndt (n t : Str) (f : Fld) : Bool := decide (f.name = n) && decide (f.type = t)
def zF : Fld := ⟨[], [], false⟩
def statN (fs : List Fld) : Nat := (fs.filter (·.static)).length
def statL (cs : List Cls) : Nat := (cs.map fun c => statN c.fields).sum
def nonN (fs : List Fld) : Nat := (fs.filter fun f => !f.static).length
/-- the place of a field among those of its kind -/
def fpl (l : List Cls) (k i : Nat) : Nat :=
  if (atL (atL l k).fields i).static then statL (l.take k) + statN ((atL l k).fields.take i)
  else (fldsI l (atL l k).super).length + nonN ((atL l k).fields.take i)
theorem statN_le (fs : List Fld) : statN fs ≤ fs.length := List.length_filter_le _ _
theorem statN_snoc {fs : List Fld} {i : Nat} (h : i < fs.length) : statN (fs.take (i + 1)) = statN (fs.take i) + if fs[i].static then 1 else 0 := by
  unfold statN
  rw [List.take_succ_eq_append_getElem h, List.filter_append, List.length_append]
  cases hs : fs[i].static <;> simp [hs]
theorem statN_snocB {fs : List Fld} {i : Nat} (h : i < fs.length) : statN (fs.take (i + 1)) = statN (fs.take i) + fs[i].static.toNat := by
  rw [statN_snoc h]; cases fs[i].static <;> rfl
theorem nonN_le (fs : List Fld) : nonN fs ≤ fs.length := List.length_filter_le _ _
theorem nonN_snoc {fs : List Fld} {i : Nat} (h : i < fs.length) : nonN (fs.take (i + 1)) = nonN (fs.take i) + (!fs[i].static).toNat := by
  unfold nonN
  rw [filt_snoc h, List.length_append]
  cases fs[i].static <;> rfl
theorem statN_take_le (fs : List Fld) (i : Nat) : statN (fs.take i) ≤ statN fs := by
  have : statN fs = statN (fs.take i) + statN (fs.drop i) := by
    unfold statN; rw [← List.length_append, ← List.filter_append, List.take_append_drop]
  omega
theorem statL_snoc {cs : List Cls} {k : Nat} (h : k < cs.length) : statL (cs.take (k + 1)) = statL (cs.take k) + statN cs[k].fields := by
  unfold statL
  rw [List.take_succ_eq_append_getElem h, List.map_append, List.sum_append]; simp
theorem statL_take_le (cs : List Cls) (k : Nat) : statL (cs.take k) ≤ statL cs := by
  have : statL cs = statL (cs.take k) + statL (cs.drop k) := by
    unfold statL; rw [← List.sum_append, ← List.map_append, List.take_append_drop]
  omega
theorem statL_le (l : List Cls) : statL l ≤ sizeL l := by
  have key : ∀ l : List Cls, statL l ≤ (l.map sizeC).sum := by
    intro l
    induction l with
    | nil => simp [statL]
    | cons c l ih =>
      have h1 := statN_le c.fields
      have h2 : c.fields.length ≤ sizeC c := by unfold sizeC; omega
      simp only [statL, List.map_cons, List.sum_cons] at ih ⊢; omega
  have := key l
  unfold sizeL; omega
theorem fpl_stat {l : List Cls} {k i : Nat} (hk : k < l.length) (hi : i < l[k].fields.length) (h : l[k].fields[i].static = true) : fpl l k i = statL (l.take k) + statN (l[k].fields.take i) := by
  unfold fpl; simp only [atL_lt hk, atL_lt hi]; rw [if_pos h]
theorem fpl_non {l : List Cls} {k i : Nat} (hk : k < l.length) (hi : i < l[k].fields.length) (h : ¬ l[k].fields[i].static = true) : fpl l k i = (fldsI l l[k].super).length + nonN (l[k].fields.take i) := by
  unfold fpl; simp only [atL_lt hk, atL_lt hi]; rw [if_neg h]
theorem wrapB {a : Nat} (b : Bool) (h : a ≤ 4611686018427387904) : IntKind.i64.wrap ((a : Int) + (b.toNat : Int)) = (a : Int) + (b.toNat : Int) := by
  have := Bool.toNat_le b
  rw [wrap_i64 (by omega) (by omega)]
theorem fix_has {α : Type} {p : α → Bool} {l : List α} (h : 0 ≤ fix p l) : ∃ i, ∃ hi : i < l.length, fix p l = i ∧ p l[i] = true ∧ ∀ x ∈ l.take i, p x = false := by
  induction l with
  | nil => simp [fix] at h
  | cons x l ih =>
    simp only [fix] at h ⊢
    by_cases hx : p x = true
    · exact ⟨0, by simp, by simp [hx], by simpa using hx, by simp⟩
    · rw [if_neg hx] at h ⊢
      have hf : ¬ fix p l < 0 := fun hc => by rw [if_pos hc] at h; omega
      rw [if_neg hf]
      obtain ⟨i, hi, e1, e2, e3⟩ := ih (by omega)
      refine ⟨i + 1, by simpa using hi, by omega, by simpa using e2, fun y hy => ?_⟩
      rw [List.take_succ_cons] at hy
      rcases List.mem_cons.1 hy with rfl | hy
      · simpa using hx
      · exact e3 y hy
/-- no two of a name -/
def uniF (fs : List Fld) : Prop := fs.Pairwise fun f g => f.name ≠ g.name
theorem fldsR_uni : ∀ {fs pre : List Fld}, fldsR pre fs = true → uniF fs ∧ ∀ g ∈ pre, ∀ f ∈ fs, g.name ≠ f.name
  | [], _, _ => ⟨List.Pairwise.nil, fun _ _ f hf => by cases hf⟩
  | f :: l, pre, h => by
    simp only [fldsR, Bool.and_eq_true, List.all_eq_true] at h
    obtain ⟨⟨_, h1⟩, h2⟩ := h
    obtain ⟨hu, hp⟩ := fldsR_uni h2
    refine ⟨List.Pairwise.cons (fun g hg => hp f (by simp) g hg) hu, fun g hg x hx => ?_⟩
    rcases List.mem_cons.1 hx with rfl | hx
    · simpa using h1 g hg
    · exact hp g (by simp [hg]) x hx
theorem uni_cls {l : List Cls} (hw : rightW l = true) {k : Nat} (hk : k < l.length) : uniF l[k].fields := by
  have h := (right_all hw).1 k hk
  simp only [pass1, atL_lt hk] at h
  have hc : clsRight l[k] = true := by
    cases hc : clsRight l[k]
    · rw [hc] at h; simp at h
    · rfl
  simp only [clsRight, Bool.and_eq_true] at hc
  exact (fldsR_uni hc.2.1).1
theorem uni_at {l : List Cls} (hw : rightW l = true) {j k : Nat} (hj : j < l.length) (hk : k < l.length) (h : l[j].name = l[k].name) : j = k := by
  have h1 := uniq_of_pass1 hj ((right_P12 hw) j hj).1
  have h2 := uniq_of_pass1 hk ((right_P12 hw) k hk).1
  rw [h, h2] at h1; omega
theorem uni_fld {l : List Cls} (hw : rightW l = true) {k : Nat} (hk : k < l.length) {i j : Nat} (hi : i < l[k].fields.length) (hj : j < l[k].fields.length) (h : l[k].fields[i].name = l[k].fields[j].name) : i = j := by
  have hu := List.pairwise_iff_getElem.1 (uni_cls hw hk)
  rcases Nat.lt_trichotomy i j with h1 | h1 | h1
  · exact absurd h (hu i j hi hj h1)
  · exact h1
  · exact absurd h.symm (hu j i hj hi h1)
theorem uni_of {l : List Cls} (hw : rightW l = true) (x : Str) : uniF (clsOf l x).fields := by
  by_cases hf : 0 ≤ findFrom x l 0
  · obtain ⟨i, hi, _, _, e, _⟩ := clsOf_found hf
    rw [e]; exact uni_cls hw hi
  · rw [clsOf_none hf]; exact List.Pairwise.nil
theorem fix_uni {fs : List Fld} (hu : uniF fs) {i : Nat} (hi : i < fs.length) {p : Fld → Bool} (hp : p fs[i] = true) (hn : ∀ f, p f = true → f.name = fs[i].name) : fix p fs = i := by
  refine fix_hit hi (fun x hx => ?_) hp
  cases hpx : p x
  · rfl
  · obtain ⟨j, hj, rfl⟩ := List.getElem_of_mem hx
    rw [List.length_take] at hj
    have := List.pairwise_iff_getElem.1 hu j i (by omega) hi (by omega)
    exact absurd (by simpa using hn _ hpx) this
/-- the first of the name, if it is of the type -/
theorem fix_ndt {fs : List Fld} (hu : uniF fs) (n t : Str) :
    (0 ≤ fix (fun f => decide (f.name = n)) fs ∧ (atL fs (fix (fun f => decide (f.name = n)) fs).toNat).type = t) ↔ 0 ≤ fix (ndt n t) fs := by
  constructor
  · rintro ⟨h1, h2⟩
    obtain ⟨i, hi, e1, e2, _⟩ := fix_has h1
    rw [e1] at h2
    simp only [Int.toNat_natCast, atL_lt hi] at h2
    rw [fix_uni hu hi (p := ndt n t) (by simpa [ndt, h2] using e2) (fun f hf => by simp [ndt] at hf; simp at e2; rw [hf.1, e2])]; omega
  · intro h
    obtain ⟨i, hi, e1, e2, _⟩ := fix_has h
    simp only [ndt, Bool.and_eq_true, decide_eq_true_eq] at e2
    have := fix_uni hu hi (p := fun f => decide (f.name = n)) (by simpa using e2.1) (fun f hf => by simp at hf; rw [hf, e2.1])
    rw [this]
    simp only [Int.toNat_natCast, atL_lt hi]
    exact ⟨by omega, e2.2⟩
theorem fix_ndt_eq {fs : List Fld} (hu : uniF fs) {n t : Str} (h : 0 ≤ fix (ndt n t) fs) : fix (fun f => decide (f.name = n)) fs = fix (ndt n t) fs := by
  obtain ⟨i, hi, e1, e2, _⟩ := fix_has h
  simp only [ndt, Bool.and_eq_true, decide_eq_true_eq] at e2
  rw [e1]
  exact fix_uni hu hi (by simpa using e2.1) (fun f hf => by simp at hf; rw [hf, e2.1])
/-- the field in the first of these classes that has it -/
def ffL (l : List Cls) (n t : Str) : List Str → Fnd × Fld
  | [] => (noFd, zF)
  | x :: xs => if 0 ≤ fix (ndt n t) (clsOf l x).fields then (⟨x, fpl l (posn l x).toNat (fix (ndt n t) (clsOf l x).fields).toNat, 0⟩, atL (clsOf l x).fields (fix (ndt n t) (clsOf l x).fields).toNat) else ffL l n t xs
def ffW (l : List Cls) (c n t : Str) : Fnd :=
  if 400 < l.length ∨ 20000 < c.length ∨ 20000 < n.length ∨ 20000 < t.length then szFd else if rightW l = true then (ffL l n t (chain l c)).1 else zFd
def ffU (l : List Cls) (n t : Str) (k : Int) : Fnd := if k < 0 then noFd else (ffL l n t (chain l (nmAt l k))).1
theorem ff_bIn {l : List Cls} (hw : rightW l = true) {n t : Str} : ∀ x, isKnown l x = true → 0 ≤ builtIx x → ffL l n t (chain l x) = (noFd, zF) := by
  have one : ∀ x (xs : List Str), 0 ≤ builtIx x → ffL l n t (x :: xs) = ffL l n t xs := fun x xs hb => by
    simp only [ffL]
    rw [cls_bIn (right_P12 hw) hb, if_neg (by simp [zC, fix])]
  refine chain_ind hw ?_ ?_
  · intro hb; rw [chain_obj hw, one _ _ hb]; rfl
  · intro x hx hxo _ ih hb
    rw [chain_rec hw hx, one _ _ hb]
    rcases bIn_super (right_P12 hw) hb with e | e
    · exact absurd e (super_ne (right_P12 hw) hx hxo)
    · exact ih e
theorem ff_start {l : List Cls} (hw : rightW l = true) {c n t : Str} : ffU l n t (findFrom c l 0) = (ffL l n t (chain l c)).1 := by
  unfold ffU
  by_cases hf : findFrom c l 0 < 0
  · rw [if_pos hf]
    by_cases hb : 0 ≤ builtIx c
    · rw [ff_bIn hw c (known_bIn hb) hb]
    · rw [chain_no (by simp [isKnown]; omega)]; rfl
  · rw [if_neg hf]
    obtain ⟨i, hi, e1, e2, _⟩ := found_name (l := l) (n := c) (by omega)
    rw [e1, nmAt_nat hi, e2]
theorem ffU_neg {l : List Cls} {n t : Str} {k : Int} (h : k < 0) : ffU l n t k = noFd := if_pos h
theorem posn_at {l : List Cls} (hw : rightW l = true) {k : Nat} (hk : k < l.length) : posn l l[k].name = k := by
  have := uniq_of_pass1 hk ((right_P12 hw) k hk).1
  unfold posn; rw [this, if_pos (by omega)]
theorem ffU_go {l : List Cls} (hw : rightW l = true) {n t : Str} {k : Nat} (hk : k < l.length) :
    ffU l n t k = if 0 ≤ fix (ndt n t) l[k].fields then ⟨l[k].name, fpl l k (fix (ndt n t) l[k].fields).toNat, 0⟩ else ffU l n t (nxt l k) := by
  have hp := right_P12 hw
  have hkn := nm_known (l := l) (k := (k : Int)) (by omega) (by omega)
  unfold ffU
  rw [if_neg (by omega), chain_rec hw hkn]
  simp only [ffL]
  rw [clsOf_at hp hk, nmAt_nat hk, posn_at hw hk]
  by_cases h1 : 0 ≤ fix (ndt n t) l[k].fields
  · rw [if_pos h1, if_pos h1]; rfl
  · rw [if_neg h1, if_neg h1]
    by_cases h3 : nxt l k < 0
    · rw [if_pos h3]
      obtain ⟨e1, e2⟩ := super_cls hp hk
      rw [e1]
      rcases e2 with ⟨_, e | e⟩ | ⟨j, hj, e4, _⟩
      · rw [e, ff_bIn hw _ known_obj (by rw [bIx_obj.1]; omega)]
      · rw [e, ff_bIn hw _ (known_bIn (by rw [bIx_obj.2.1]; omega)) (by rw [bIx_obj.2.1]; omega)]
      · omega
    · rw [if_neg h3]
      have := step_up hp (k := (k : Int)) (by omega) (by omega) (by omega)
      rw [nmAt_nat hk] at this
      rw [this]
theorem ff_hit {l : List Cls} (hw : rightW l = true) {n t x : Str} (h : 0 ≤ fix (ndt n t) (clsOf l x).fields) : ∃ k, ∃ hk : k < l.length, ∃ j, ∃ hj : j < l[k].fields.length,
    l[k].name = x ∧ clsOf l x = l[k] ∧ fix (fun f => decide (f.name = n)) (clsOf l x).fields = j ∧ fix (ndt n t) (clsOf l x).fields = j ∧ posn l x = k := by
  have hu := uni_of hw x
  have hy := fix_ndt_eq hu h
  by_cases hf : 0 ≤ findFrom x l 0
  · obtain ⟨k, hk, _, hp, e, hn⟩ := clsOf_found hf
    rw [e] at h hy ⊢
    obtain ⟨j, hj, ej, _, _⟩ := fix_has h
    exact ⟨k, hk, j, hj, hn, rfl, by rw [hy, ej], ej, hp⟩
  · rw [clsOf_none hf] at h; simp [zC, fix] at h
/-- the statics so far, within the class cc, by the reference -/
def inS (l : List Cls) (p i cc kk : Nat) : Nat := statL (l.take cc) + if cc < p then statN ((atL l cc).fields.take kk) else statN ((atL l cc).fields.take (min kk i))
def outS (l : List Cls) (p i cc : Nat) : Nat := if cc ≤ p then statL (l.take cc) else statL (l.take p) + statN ((atL l p).fields.take i)
theorem inS_0 {l : List Cls} {p i cc : Nat} (h : cc ≤ p) : inS l p i cc 0 = outS l p i cc := by
  unfold inS outS; rw [if_pos h]; simp [statN]
theorem inS_go {l : List Cls} {p i cc kk : Nat} (h : cc < l.length) (hk : kk < l[cc].fields.length) : inS l p i cc (kk + 1) = inS l p i cc kk + (l[cc].fields[kk].static && (decide (cc < p) || decide (kk < i))).toNat := by
  unfold inS
  rw [atL_lt h]
  by_cases h1 : cc < p
  · rw [if_pos h1, if_pos h1, statN_snocB hk, decide_eq_true h1]; simp; omega
  · rw [if_neg h1, if_neg h1, decide_eq_false h1]
    by_cases h2 : kk < i
    · rw [show min (kk + 1) i = kk + 1 from by omega, show min kk i = kk from by omega, statN_snocB hk, decide_eq_true h2]; simp; omega
    · rw [show min (kk + 1) i = i from by omega, show min kk i = i from by omega, decide_eq_false h2]; simp
theorem inS_end {l : List Cls} {p i cc kk : Nat} (hp : p < l.length) (hi : i < l[p].fields.length) (h : cc ≤ p) (hk : kk = (l[cc]'(by omega)).fields.length) : inS l p i cc kk = outS l p i (cc + 1) := by
  have hc : cc < l.length := by omega
  unfold inS outS
  rw [atL_lt hc, atL_lt hp]
  by_cases h1 : cc < p
  · rw [if_pos h1, if_pos (by omega), statL_snoc hc, hk, List.take_of_length_le (Nat.le_refl _)]
  · obtain rfl : cc = p := by omega
    rw [if_neg h1, if_neg (by omega), hk, Nat.min_eq_right (by omega)]
theorem inS_le (l : List Cls) (p i cc kk : Nat) (h : cc < l.length) : inS l p i cc kk ≤ 2 * sizeL l := by
  have h1 := statL_take_le l cc
  have h2 := statL_le l
  have h3 := statN_le ((atL l cc).fields)
  have h4 := statN_take_le (atL l cc).fields kk
  have h5 := statN_take_le (atL l cc).fields (min kk i)
  have h6 := sizeL_at h
  simp only [sizeC] at h6
  rw [atL_lt h] at h3 h4 h5
  unfold inS
  rw [atL_lt h]
  split <;> omega
end Go.Proofs
namespace Go.Proofs
open Go Go.Ev


theorem cb_laws_eqFound : Callable Tryz.prog 22 := ⟨_, Tryz.func22, by kernel_rfl, by kernel_rfl⟩
theorem ct_laws_eqFound {x y : Fnd} : Ct Tryz.prog 22 [eFd x, eFd y] [] (.bool (decide (x = y))) [] := by
  refine Ct_bodyS tok Tryz.func22 rfl 20 (by kernel_rfl) (by kernel_rfl) fun X hX => ?_
  refine jq [2, 3] ?_
  refine W_seq (jq [2, 3, 9] ?_)
  refine jd (fun h1 => ?_) (fun h1 => ?_)
  · try simp at h1
    refine jq [4] ?_
    refine W_ret (je0 ?_)
    (try simp at *) <;> cases x <;> cases y <;> simp_all
  · try simp at h1
    refine W_skip (W_seq (jq [2, 3, 14] ?_))
    refine jd (fun h3 => ?_) (fun h3 => ?_)
    · try simp at h3
      refine jq [4] ?_
      refine W_ret (je0 ?_)
      (try simp at *) <;> cases x <;> cases y <;> simp_all
    · try simp at h3
      refine W_skip (W_seq (jq [19] ?_))
      refine jd (fun h5 => ?_) (fun h5 => ?_)
      · try simp at h5
        refine jq [4] ?_
        refine W_ret (je0 ?_)
        (try simp at *) <;> cases x <;> cases y <;> simp_all
      · try simp at h5
        refine W_skip (jq [4] ?_)
        refine W_ret (je0 ?_)
        (try simp at *) <;> cases x <;> cases y <;> simp_all
end Go.Proofs
namespace Go.Proofs
open Go Go.Ev


theorem cb_spec_l05FindField : Callable Tryz.prog 82 := ⟨_, Tryz.func82, by kernel_rfl, by kernel_rfl⟩
theorem ct_spec_l05FindField {l : List Cls} (hs : sizeL l ≤ 1048576) (hw : rightW l = true) {c n t : Str} : Ct Tryz.prog 82 [.lst false 6 (l.map eC), .str c, .str n, .str t] [] (eFd (ffL l n t (chain l c)).1) [] := by
  have hll : l.length ≤ 1099511627776 := by unfold sizeL at hs; omega
  have hsz : ∀ {k : Nat} (h : k < l.length), l[k].fields.length ≤ 1048576 := fun h => by
    have := Nat.le_trans (sizeL_at h) hs
    simp only [sizeC] at this; omega
  refine Ct_bodyS tok Tryz.func82 rfl 134 (by kernel_rfl) (by kernel_rfl) fun X hX => ?_
  refine jq [0, 1, 2, 3, 8] ?_
  refine W_seq (W_rseqK [0, 2, 3, 8, 9] (jt 2 (k:=(jc [] (c:=(by apply ct_spec_l05Find <;> first | assumption | omega)) (a:=cb_spec_l05Find) (k:=jr)))) ?_)
  refine W_block (W_loopU (α := Int) [0, 2, 3, 8, 9] (fun k => [(9, .int .i64 k)]) (fun k => []) (fun k => (-1 ≤ k ∧ k < l.length) ∧ ffU l n t k = (ffL l n t (chain l c)).1) (fun k => rkU l k) (findFrom c l 0) (fun k => by simp; rfl) (by simp) ?_ ?_)
  · exact ⟨findFrom_ge, ff_start hw⟩
  rintro k ⟨hk, hI⟩
  refine W_seq (jq [0, 2, 3, 8, 9, 20] ?_)
  refine jd (fun h2 => ?_) (fun h2 => ?_)
  · try simp at h2
    obtain ⟨p, rfl⟩ : ∃ j : Nat, k = j := ⟨k.toNat, by omega⟩
    have hp : p < l.length := by omega
    rw [ffU_go hw hp] at hI
    have hpf := hsz hp
    have hfl := flds_len (n := l[p].super) hw
    refine W_skip (W_seq (W_block (W_rseqK [0, 2, 3, 8, 9, 10] (jh hX (by simp [h2, hp]; rfl)) ?_)))
    refine W_block (W_loopU (α := Nat) [0, 2, 3, 8, 9, 10] (fun i => [(10, .int .i64 i)]) (fun i => []) (fun i => i ≤ l[p].fields.length ∧ ∀ x ∈ l[p].fields.take i, ndt n t x = false) (fun i => l[p].fields.length - i) (0) (fun i => by simp; rfl) (by simp) ?_ ?_)
    · simp
    rintro i ⟨hi, hJ⟩
    refine W_seq (W_rseqK [0, 2, 3, 8, 9, 10, 35] (jh hX (by simp [h2, hp]; rfl)) ?_)
    refine jd (fun h5 => ?_) (fun h5 => ?_)
    · try simp at h5
      refine W_skip (W_seq (W_block (W_rseqK [0, 2, 3, 8, 9, 10, 11] (jh hX (by simp [h2, hp, h5]; rfl)) ?_)))
      refine W_seq (W_rseqK [0, 2, 3, 8, 9, 10, 11, 55] (js hX 5 (by simp [h2, hp, h5]; rfl) (jm 5 50 [0, 2, 3, 8, 9, 10, 11, 55] (p:=fun b8_5 => by (try simp at b8_5); exact (jh hX (by simp [-atD_lt, -atL_lt, h2, hp, h5]; rfl))) (q:=fun b8_5 => by (try simp at b8_5); exact (jh hX (by simp [-atD_lt, -atL_lt, h2, hp, h5]; rfl))) (k:=jf))) ?_)
      refine jd (fun h8 => ?_) (fun h8 => ?_)
      · try simp at h8
        have h8n : ndt n t l[p].fields[i] = false := by unfold ndt; grind
        refine W_exit (W_reg (jh hX (by simp [h2, hp, h5]; (try (simp (disch := omega) only [wrap_i64]; (try simp [h2, hp, h5]))); rfl)) ?_)
        refine round_endT (i + 1) [0, 2, 3, 8, 9, 10] 1 (by simp [hX]) (by simp) (by simp [h2, hp, h5]; try (simp (disch := omega) only [wrap_i64])) ?_ ?_
        · exact ⟨by omega, fun x hx => by
          rw [List.take_succ_eq_append_getElem h5] at hx
          rcases List.mem_append.1 hx with hx | hx
          · exact hJ x hx
          · rw [List.mem_singleton.1 hx]; exact h8n⟩
        · omega
      · try simp at h8
        have h8y : ndt n t l[p].fields[i] = true := by unfold ndt; grind
        rw [fix_hit h5 hJ h8y, if_pos (by omega), Int.toNat_natCast] at hI
        refine W_skip (W_rseqK [0, 8, 9, 10, 11, 12] (jh hX (by simp [h2, hp, h5]; rfl)) ?_)
        refine W_seq (W_rseqK [0, 8, 9, 10, 12, 57] (jh hX (by simp [h2, hp, h5]; rfl)) ?_)
        refine jd (fun h10 => ?_) (fun h10 => ?_)
        · try simp at h10
          refine W_seq (W_rseqK [0, 8, 9, 10, 12, 13] (jh hX (by simp [h2, hp, h5]; rfl)) ?_)
          refine W_block (W_loopU (α := Nat × Nat) [0, 8, 9, 10, 12, 13] (fun z => [(12, .int .i64 z.1), (13, .int .i64 z.2)]) (fun z => []) (fun z => z.2 ≤ p + 1 ∧ z.1 = outS l p i z.2) (fun z => p + 1 - z.2) ((0, 0)) (fun z => by simp; rfl) (by simp) ?_ ?_)
          · simp [outS, statL]
          rintro ⟨q, c2⟩ ⟨hc2, hq⟩
          simp only at hc2 hq
          refine W_seq (W_rseqK [0, 8, 9, 10, 12, 13, 60] (jh hX (by simp [h2, hp, h5]; rfl)) ?_)
          refine jd (fun h12 => ?_) (fun h12 => ?_)
          · try simp at h12
            have hcl2 : c2 < l.length := by omega
            refine W_skip (W_seq (W_block (W_rseqK [0, 8, 9, 10, 12, 13, 14] (jh hX (by simp [h2, hp, h5, h12, hcl2]; rfl)) ?_)))
            refine W_block (W_loopU (α := Nat × Nat) [0, 8, 9, 10, 12, 13, 14] (fun z => [(12, .int .i64 z.1), (14, .int .i64 z.2)]) (fun z => []) (fun z => z.2 ≤ l[c2].fields.length ∧ z.1 = inS l p i c2 z.2) (fun z => l[c2].fields.length - z.2) ((q, 0)) (fun z => by simp; rfl) (by simp) ?_ ?_)
            · exact ⟨by simp, by simp only; rw [hq, inS_0 h12]⟩
            rintro ⟨q2, k2⟩ ⟨hk2, hq2⟩
            simp only at hk2 hq2
            have hB := inS_le l p i c2 k2 hcl2
            have hB2 := hsz hcl2
            refine W_seq (W_rseqK [0, 8, 9, 10, 12, 13, 14, 70] (jh hX (by simp [h2, hp, h5, h12, hcl2]; rfl)) ?_)
            refine jd (fun h15 => ?_) (fun h15 => ?_)
            · try simp at h15
              refine W_skip (W_seq (W_block (W_rseqK [0, 8, 9, 10, 12, 13, 14, 91] (js hX 10 (by simp [h2, hp, h5, h12, hcl2, h15]; rfl) (jm 9 82 [0, 8, 9, 10, 12, 13, 14, 91] (p:=fun b17_10 => by (try simp at b17_10); exact (js hX 4 (by simp [-atD_lt, -atL_lt, h2, hp, h5, h12, hcl2, h15]; rfl) (jm 4 86 [0, 8, 9, 10, 12, 13, 14, 82, 90] (p:=fun b17_14 => by (try simp at b17_14); exact (jh hX (by simp [-atD_lt, -atL_lt, h2, hp, h5, h12, hcl2, h15, b17_14]; rfl))) (q:=fun b17_14 => by (try simp at b17_14); exact (jh hX (by simp [-atD_lt, -atL_lt, h2, hp, h5, h12, hcl2, h15, b17_14]; rfl))) (k:=(jh hX (by simp [-atD_lt, -atL_lt, h2, hp, h5, h12, hcl2, h15]; rfl)))))) (q:=fun b17_10 => by (try simp at b17_10); exact (jh hX (by simp [-atD_lt, -atL_lt, h2, hp, h5, h12, hcl2, h15]; rfl))) (k:=jf))) ?_)))
              refine jd (fun h17 => ?_) (fun h17 => ?_)
              · try simp at h17
                have hb : (l[c2].fields[k2].static && (decide (c2 < p) || decide (k2 < i))) = true := by simpa using h17
                refine W_reg (jh hX (by simp [h2, hp, h5, h12, hcl2, h15, h17, hb]; (try (simp (disch := omega) only [wrap_i64]; (try simp [h2, hp, h5, h12, hcl2, h15, h17, hb]))); rfl)) ?_
                refine W_reg (jh hX (by simp [h2, hp, h5, h12, hcl2, h15, h17, hb]; (try (simp (disch := omega) only [wrap_i64]; (try simp [h2, hp, h5, h12, hcl2, h15, h17, hb]))); rfl)) ?_
                refine round_end ((q2 + (l[c2].fields[k2].static && (decide (c2 < p) || decide (k2 < i))).toNat, k2 + 1)) [0, 8, 9, 10, 12, 13, 14] (by simp [h15, hb]; try (simp (disch := omega) only [wrap_i64])) ?_ ?_
                · exact ⟨by simp only; omega, by simp only; rw [inS_go hcl2 h15, hq2]⟩
                · simp only; omega
              · try simp at h17
                have hb : (l[c2].fields[k2].static && (decide (c2 < p) || decide (k2 < i))) = false := by simpa using h17
                refine W_skip (W_reg (jh hX (by simp [h2, hp, h5, h12, hcl2, h15, h17, hb]; (try (simp (disch := omega) only [wrap_i64]; (try simp [h2, hp, h5, h12, hcl2, h15, h17, hb]))); rfl)) ?_)
                refine round_end ((q2 + (l[c2].fields[k2].static && (decide (c2 < p) || decide (k2 < i))).toNat, k2 + 1)) [0, 8, 9, 10, 12, 13, 14] (by simp [h15, hb]; try (simp (disch := omega) only [wrap_i64])) ?_ ?_
                · exact ⟨by simp only; omega, by simp only; rw [inS_go hcl2 h15, hq2]⟩
                · simp only; omega
            · try simp at h15
              have hkl : k2 = l[c2].fields.length := by omega
              refine W_exit (W_reg (jh hX (by simp [h2, hp, h5, h12, hcl2, h15]; (try (simp (disch := omega) only [wrap_i64]; (try simp [h2, hp, h5, h12, hcl2, h15]))); rfl)) ?_)
              refine round_end ((q2, c2 + 1)) [0, 8, 9, 10, 12, 13] (by simp [h2, hp, h5, h12, hcl2, h15]; try (simp (disch := omega) only [wrap_i64])) ?_ ?_
              · exact ⟨by simp only; omega, by simp only; rw [hq2, inS_end hp h5 h12 hkl]⟩
              · simp only; omega
          · try simp at h12
            obtain rfl : c2 = p + 1 := by omega
            have hpl : fpl l p i = q := by rw [fpl_stat hp h5 h10, hq, outS, if_neg (by omega), atL_lt hp]
            refine W_exit (W_rseqK [8] (jh hX (by simp [h2, hp, h5, h12]; rfl)) ?_)
            refine W_ret (je (by simp [h2, hp, h5, h12]; rfl) ?_)
            rw [← hI, hpl]; rfl
        · try simp at h10
          refine W_skip (W_rseqK [0, 8, 9, 10, 12] (js hX 6 (by simp [h2, hp, h5]; rfl) (jF (c:=(by apply ct_spec_l05Fields <;> first | assumption | omega)) (a:=cb_spec_l05Fields) (k:=(jh hX (by simp [h2, hp, h5]; rfl))))) ?_)
          refine W_seq (W_rseqK [0, 8, 9, 10, 12, 15] (jh hX (by simp [h2, hp, h5]; rfl)) ?_)
          refine W_block (W_loopU (α := Nat × Nat) [0, 8, 9, 10, 12, 15] (fun z => [(12, .int .i64 z.1), (15, .int .i64 z.2)]) (fun z => []) (fun z => z.2 ≤ i ∧ z.1 = (fldsI l l[p].super).length + nonN (l[p].fields.take z.2)) (fun z => i - z.2) (((fldsI l l[p].super).length, 0)) (fun z => by simp; rfl) (by simp) ?_ ?_)
          · exact ⟨by simp, by simp [nonN]⟩
          rintro ⟨q, k2⟩ ⟨hk2, hq⟩
          simp only at hk2 hq
          have hB1 := nonN_le (l[p].fields.take k2)
          rw [List.length_take] at hB1
          refine W_seq (W_rseqK [0, 8, 9, 10, 12, 15, 111] (jh hX (by simp [h2, hp, h5]; rfl)) ?_)
          refine jd (fun h22 => ?_) (fun h22 => ?_)
          · try simp at h22
            have hk3 : k2 < l[p].fields.length := by omega
            refine W_skip (W_seq (W_block (W_rseqK [0, 8, 9, 10, 12, 15, 123] (jh hX (by simp [h2, hp, h5, h22, hk3]; rfl)) ?_)))
            refine jd (fun h24 => ?_) (fun h24 => ?_)
            · try simp at h24
              refine W_reg (jh hX (by simp [h2, hp, h5, h22, hk3]; (try (simp (disch := omega) only [wrap_i64]; (try simp [h2, hp, h5, h22, hk3]))); rfl)) ?_
              refine W_reg (jh hX (by simp [h2, hp, h5, h22, hk3]; (try (simp (disch := omega) only [wrap_i64]; (try simp [h2, hp, h5, h22, hk3]))); rfl)) ?_
              refine round_end ((q + (!l[p].fields[k2].static).toNat, k2 + 1)) [0, 8, 9, 10, 12, 15] (by simp [h22, h24]; try (simp (disch := omega) only [wrap_i64])) ?_ ?_
              · exact ⟨by simp only; omega, by simp only; rw [nonN_snoc (by omega), hq]; omega⟩
              · simp only; omega
            · try simp at h24
              refine W_skip (W_reg (jh hX (by simp [h2, hp, h5, h22, hk3]; (try (simp (disch := omega) only [wrap_i64]; (try simp [h2, hp, h5, h22, hk3]))); rfl)) ?_)
              refine round_end ((q + (!l[p].fields[k2].static).toNat, k2 + 1)) [0, 8, 9, 10, 12, 15] (by simp [h22, h24]; try (simp (disch := omega) only [wrap_i64])) ?_ ?_
              · exact ⟨by simp only; omega, by simp only; rw [nonN_snoc (by omega), hq]; omega⟩
              · simp only; omega
          · try simp at h22
            obtain rfl : k2 = i := by omega
            have hpl : fpl l p k2 = q := by rw [fpl_non hp h5 (by simp [h10]), hq]
            refine W_exit (W_rseqK [8] (jh hX (by simp [h2, hp, h5, h22]; rfl)) ?_)
            refine W_ret (je (by simp [h2, hp, h5, h22]; rfl) ?_)
            rw [← hI, hpl]; rfl
    · try simp at h5
      rw [fix_none (fun x hx => hJ x (by rw [List.take_of_length_le (by omega)]; exact hx)), if_neg (by omega)] at hI
      refine W_exit (W_reg (js hX 6 (by simp [h2, hp, h5]; rfl) (jc [] (c:=(by apply ct_spec_l05Find <;> first | assumption | omega)) (a:=cb_spec_l05Find) (k:=(jh hX (by simp [h2, hp, h5]; rfl))))) ?_)
      refine round_end (nxt l p) [0, 2, 3, 8, 9] (by simp [nxt_nat, hp]) ?_ ?_
      · exact ⟨@nxt_ge l p, hI⟩
      · exact rkU_lt hw hp
  · try simp at h2
    rw [ffU_neg (by omega)] at hI
    refine W_exit (W_rseqK [8] (jh hX (by simp [h2]; rfl)) ?_)
    refine W_ret (je (by simp [h2]; rfl) ?_)
    rw [← hI]; rfl
end Go.Proofs
namespace Go.Proofs
open Go Go.Ev


theorem cb_spec_FindField : Callable Tryz.prog 32 := ⟨_, Tryz.func32, by kernel_rfl, by kernel_rfl⟩
theorem ct_spec_FindField {l : List Cls} (hs : sizeL l ≤ 1048576) {c n t : Str} (hc : c.length ≤ 1099511627776) (hn : n.length ≤ 1099511627776) (ht : t.length ≤ 1099511627776) : Ct Tryz.prog 32 [.lst false 6 (l.map eC), .str c, .str n, .str t] [] (eFd (ffW l c n t)) [] := by
  have hl2 : sizeL l ≤ 1099511627776 := by omega
  have hll : l.length ≤ 1099511627776 := by unfold sizeL at hs; omega
  refine Ct_bodyS tok Tryz.func32 rfl 37 (by kernel_rfl) (by kernel_rfl) fun X hX => ?_
  refine jq [0, 1, 2, 3, 8] ?_
  refine W_seq (W_rseqK [0, 1, 2, 3, 8, 26] (jt 4 (k:=(jm 4 12 [0, 1, 2, 3, 8, 16] (p:=fun b1_4 => by (try simp at b1_4); exact (jh hX (by simp [-atD_lt, -atL_lt]; rfl))) (q:=fun b1_4 => by (try simp at b1_4); exact (jh hX (by simp [-atD_lt, -atL_lt, b1_4]; rfl))) (k:=(jt 1 (k:=(jm 4 17 [0, 1, 2, 3, 8, 21] (p:=fun b1_9 => by (try simp at b1_9); exact (jh hX (by simp [-atD_lt, -atL_lt]; rfl))) (q:=fun b1_9 => by (try simp at b1_9); exact (jh hX (by simp [-atD_lt, -atL_lt, b1_9]; rfl))) (k:=(jt 1 (k:=(jm 4 22 [0, 1, 2, 3, 8, 26] (p:=fun b1_14 => by (try simp at b1_14); exact (jh hX (by simp [-atD_lt, -atL_lt]; rfl))) (q:=fun b1_14 => by (try simp at b1_14); exact (jh hX (by simp [-atD_lt, -atL_lt, b1_14]; rfl))) (k:=jf)))))))))))) ?_)
  refine jd (fun h1 => ?_) (fun h1 => ?_)
  · try simp at h1
    refine W_rseqK [8] (jh hX (by simp [h1]; rfl)) ?_
    refine W_ret (je (by simp [h1]; rfl) ?_)
    simp only [ffW, szFd, zFd]
    (try simp_all) <;> grind
  · try simp at h1
    refine W_skip (W_seq (W_rseqK [0, 1, 2, 3, 8, 30] (jt 1 (k:=(jc [] (c:=(by apply ct_spec_l05Right <;> first | assumption | omega | (simp at *; omega) | simp_all)) (a:=cb_spec_l05Right) (k:=jr)))) ?_))
    refine jd (fun h3 => ?_) (fun h3 => ?_)
    · try simp at h3
      refine W_rseqK [8] (jh hX (by simp [h1]; rfl)) ?_
      refine W_ret (je (by simp [h1]; rfl) ?_)
      simp only [ffW, szFd, zFd]
      (try simp_all) <;> grind
    · try simp at h3
      refine W_skip (W_rseqK [8] (jt 4 (k:=(jc [] (c:=(by apply ct_spec_l05FindField <;> first | assumption | omega | (simp at *; omega) | simp_all)) (a:=cb_spec_l05FindField) (k:=(jh hX (by simp [h1]; rfl)))))) ?_)
      refine W_ret (je (by simp [h1]; rfl) ?_)
      simp only [ffW, szFd, zFd]
      (try simp_all) <;> grind
end Go.Proofs
namespace Go.Proofs
open Go Go.Ev


theorem cb_impl_isList_impl_Class : Callable Tryz.prog 70 := ⟨_, Tryz.func70, by kernel_rfl, by kernel_rfl⟩
theorem ct_impl_isList_impl_Class {l : List Cls} : Ct Tryz.prog 70 [.lst false 6 (l.map eC)] [] (.bool (decide (l.length ≤ 400))) [] := by
  refine Ct_bodyS tok Tryz.func70 rfl 6 (by kernel_rfl) (by kernel_rfl) fun X hX => ?_
  refine jq [0] ?_
  refine jq [2] ?_
  refine W_ret (je0 ?_)
  simp
end Go.Proofs
namespace Go.Proofs
open Go Go.Ev


theorem cb_impl_flags : Callable Tryz.prog 186 := ⟨_, Tryz.func186, by kernel_rfl, by kernel_rfl⟩
theorem ct_impl_flags {b : Bool} : Ct Tryz.prog 186 [.lst false 1 [.bool b]] [] (.int .i64 (b.toNat : Int)) [] := by
  refine Ct_bodyS tok Tryz.func186 rfl 20 (by kernel_rfl) (by kernel_rfl) fun X hX => ?_
  refine jq [0] ?_
  refine jq [0, 3] ?_
  refine W_seq (jq [3, 6, 7, 8] ?_)
  refine W_block (W_loopU (α := Nat) [3, 6, 7, 8] (fun i => [(3, .int .i64 (if i = 0 then 0 else (b.toNat : Int))), (8, .int .i64 i)]) (fun i => []) (fun i => i ≤ 1) (fun i => 1 - i) (0) (fun i => by simp; rfl) (by simp) ?_ ?_)
  · simp
  rintro i hI
  refine jq [3, 6, 7, 8, 9] ?_
  refine W_seq (jd (fun h3 => ?_) (fun h3 => ?_))
  · try simp at h3
    obtain rfl : i = 0 := by omega
    refine W_skip (W_seq (W_block (W_rseqK [3, 4, 5, 6, 7, 8] (jh hX (by simp [h3]; rfl)) ?_)))
    refine W_rseqK [3, 4, 6, 7, 8, 13] (jh hX (by simp [h3]; rfl)) ?_
    refine jd (fun h5 => ?_) (fun h5 => ?_)
    · try simp at h5
      refine W_reg (jh hX (by simp [h3]; rfl)) ?_
      refine W_reg (jh hX (by simp [h3]; (try (simp (disch := omega) only [wrap_i64]; (try simp [h3]))); rfl)) ?_
      refine round_end (1) [3, 6, 7, 8] (by simp [h5]; try rfl) ?_ ?_
      · exact Nat.le_refl _
      · omega
    · try simp at h5
      refine W_skip (W_reg (jh hX (by simp [h3]; (try (simp (disch := omega) only [wrap_i64]; (try simp [h3]))); rfl)) ?_)
      refine round_end (1) [3, 6, 7, 8] (by simp [h5]; try rfl) ?_ ?_
      · exact Nat.le_refl _
      · omega
  · try simp at h3
    obtain rfl : i = 1 := by omega
    refine W_exit (W_rseqK [2] (jh hX (by simp [h3]; rfl)) ?_)
    refine W_ret (je (by simp [h3]; rfl) ?_)
    simp_all
end Go.Proofs
namespace Go.Proofs
open Go Go.Ev


theorem cb_impl_size_impl_Field : Callable Tryz.prog 187 := ⟨_, Tryz.func187, by kernel_rfl, by kernel_rfl⟩
theorem ct_impl_size_impl_Field {l : List Fld} : Ct Tryz.prog 187 [.lst false 3 (l.map eF)] [] (.int .i64 l.length) [] := by
  refine Ct_bodyS tok Tryz.func187 rfl 5 (by kernel_rfl) (by kernel_rfl) fun X hX => ?_
  refine jq [0] ?_
  refine jq [2] ?_
  refine W_ret (je0 ?_)
  simp
end Go.Proofs
namespace Go.Proofs
open Go Go.Ev


theorem cb_impl_world_placeOf : Callable Tryz.prog 134 := ⟨_, Tryz.func134, by kernel_rfl, by kernel_rfl⟩
theorem ct_impl_world_placeOf {l : List Cls} (hl : l.length ≤ 1000) (hs : sizeL l ≤ 1048576) (hw : rightW l = true) {k i : Nat} (hk : k < l.length) (hi : i < l[k].fields.length) : Ct Tryz.prog 134 [wv l, .str l[k].name, eF l[k].fields[i]] [] (.int .i64 (fpl l k i)) [] := by
  have hsz : ∀ {k : Nat} (h : k < l.length), l[k].fields.length ≤ 1048576 := fun h => by
    have := Nat.le_trans (sizeL_at h) hs
    simp only [sizeC] at this; omega
  have hik := hsz hk
  have hcl := clsOf_at (right_P12 hw) hk
  rw [nmAt_nat hk] at hcl
  have hfl := flds_len (n := l[k].super) hw
  refine Ct_bodyS tok Tryz.func134 rfl 82 (by kernel_rfl) (by kernel_rfl) fun X hX => ?_
  refine W_rseqK [0, 1, 5] (jh hX (by simp [hk, hi, hcl]; rfl)) ?_
  refine W_rseqK [0, 1, 5, 7] (jh hX (by simp [hk, hi, hcl]; rfl)) ?_
  refine W_seq (W_rseqK [0, 1, 5, 7, 17] (jh hX (by simp [hk, hi, hcl]; rfl)) ?_)
  refine jd (fun h2 => ?_) (fun h2 => ?_)
  · try simp at h2
    refine W_rseqK [0, 1, 5, 7, 21, 22, 23] (jh hX (by simp [hk, hi, hcl]; rfl)) ?_
    refine W_block (W_loopU (α := Nat × Nat) [0, 1, 5, 7, 21, 22, 23] (fun p => [(7, .int .i64 p.1), (23, .int .i64 p.2)]) (fun p => []) (fun p => p.2 ≤ k ∧ p.1 = statL (l.take p.2)) (fun p => l.length - p.2) ((0, 0)) (fun p => by simp; rfl) (by simp) ?_ ?_)
    · simp [statL]
    rintro ⟨q, c⟩ ⟨hc, hI⟩
    simp only at hc hI
    refine W_rseqK [0, 1, 5, 7, 21, 22, 23, 24] (jh hX (by simp [hk, hi, hcl]; rfl)) ?_
    refine W_seq (jd (fun h4 => ?_) (fun h4 => ?_))
    · try simp at h4
      refine W_skip (W_seq (W_block (W_rseqK [0, 1, 5, 7, 9, 21, 22, 23] (jh hX (by simp [hk, hi, h4, hcl]; rfl)) ?_)))
      refine W_rseqK [0, 1, 5, 7, 9, 21, 22, 23, 28, 29, 30] (jh hX (by simp [hk, hi, h4, hcl]; rfl)) ?_
      refine W_block (W_loopU (α := Nat × Nat) [0, 1, 5, 7, 9, 21, 22, 23, 28, 29, 30] (fun p => [(7, .int .i64 p.1), (30, .int .i64 p.2)]) (fun p => []) (fun p => p.2 ≤ l[c].fields.length ∧ (c = k → p.2 ≤ i) ∧ p.1 = statL (l.take c) + statN (l[c].fields.take p.2)) (fun p => l[c].fields.length - p.2) ((q, 0)) (fun p => by simp; rfl) (by simp) ?_ ?_)
      · exact ⟨by simp, by simp, by simp [statN, hI]⟩
      rintro ⟨q2, j⟩ ⟨hj, hjk, hJ⟩
      simp only at hj hjk hJ
      have hB1 := statL_take_le l c
      have hB2 := statL_le l
      have hB3 := statN_take_le l[c].fields j
      have hB4 := statN_le l[c].fields
      have hcf := hsz h4
      refine W_rseqK [0, 1, 5, 7, 9, 21, 22, 23, 28, 29, 30, 31] (jh hX (by simp [hk, hi, h4, hcl]; rfl)) ?_
      refine W_seq (jd (fun h7 => ?_) (fun h7 => ?_))
      · try simp at h7
        refine W_skip (W_seq (W_block (W_rseqK [0, 1, 5, 7, 9, 11, 21, 22, 23, 28, 29, 30] (jh hX (by simp [hk, hi, h4, h7, hcl]; rfl)) ?_)))
        refine W_seq (W_rseqK [0, 1, 5, 7, 9, 11, 21, 22, 23, 28, 29, 30, 42] (js hX 5 (by simp [hk, hi, h4, h7, hcl]; rfl) (jm 4 38 [0, 1, 5, 7, 9, 11, 21, 22, 23, 28, 29, 30, 42] (p:=fun b9_5 => by (try simp at b9_5); exact (jh hX (by simp [-atD_lt, -atL_lt, hk, hi, h4, h7, hcl]; rfl))) (q:=fun b9_5 => by (try simp at b9_5); exact (jh hX (by simp [-atD_lt, -atL_lt, hk, hi, h4, h7, hcl]; rfl))) (k:=jf))) ?_)
        refine jd (fun h9 => ?_) (fun h9 => ?_)
        · try simp at h9
          refine W_rseqK [6] (jh hX (by simp [hk, hi, h4, h7, hcl]; rfl)) ?_
          refine W_ret (je (by simp [hk, hi, h4, h7, hcl]; rfl) ?_)
          obtain ⟨e1, e2, e3, e4⟩ : l[c].name = l[k].name ∧ l[c].fields[j].name = l[k].fields[i].name ∧ l[c].fields[j].type = l[k].fields[i].type ∧ l[c].fields[j].static = l[k].fields[i].static := by simpa using h9
          obtain rfl := uni_at hw h4 hk e1
          obtain rfl := uni_fld hw hk h7 hi e2
          rw [fpl_stat hk hi h2, hJ]
        · try simp at h9
          have hne : c = k → j ≠ i := fun e e2 => by subst e; subst e2; simp at h9
          refine W_skip (W_reg (js hX 4 (by simp [hk, hi, h4, h7, hcl]; rfl) (Runs.callB rfl (by simp) rfl (by simp [hcl]; rfl) (by apply ct_impl_flags <;> first | assumption | omega) cb_impl_flags (by simp) (by simp [hcl]; rfl) (jh hX (by simp [hk, hi, h4, h7, hcl]; (try (simp (disch := omega) only [wrap_i64]; (try simp [hk, hi, h4, h7, hcl]))); rfl)))) ?_)
          refine W_reg (jh hX (by simp [hk, hi, h4, h7, hcl]; (try (simp (disch := omega) only [wrap_i64]; (try simp [hk, hi, h4, h7, hcl]))); rfl)) ?_
          refine round_endT ((q2 + l[c].fields[j].static.toNat, j + 1)) [0, 1, 5, 7, 9, 21, 22, 23, 28, 29, 30] 2 (by simp [hX]) (by simp) (by simp [h7]; try (simp (disch := omega) only [wrapB, wrap_i64])) ?_ ?_
          · exact ⟨by simp only; omega, fun e => by have := hjk e; have := hne e; simp only; omega, by simp only; rw [statN_snocB h7, hJ]; omega⟩
          · simp only; omega
      · try simp at h7
        have hil : j = l[c].fields.length := by omega
        subst hil
        rw [List.take_of_length_le (Nat.le_refl _)] at hJ
        have hck : c ≠ k := fun e => by subst e; have := hjk rfl; omega
        refine W_exit (W_reg (jh hX (by simp [hk, hi, h4, h7, hcl]; (try (simp (disch := omega) only [wrap_i64]; (try simp [hk, hi, h4, h7, hcl]))); rfl)) ?_)
        refine round_endT ((q2, c + 1)) [0, 1, 5, 7, 21, 22, 23] 1 (by simp [hX]) (by simp) (by simp [hk, hi, h4, h7]; try (simp (disch := omega) only [wrap_i64])) ?_ ?_
        · exact ⟨by simp only; omega, by simp only; rw [hJ, statL_snoc h4]⟩
        · simp only; omega
    · try simp at h4
      exfalso; omega --done
  · try simp at h2
    refine W_skip (W_rseqK [0, 5, 12] (js hX 2 (by simp [hk, hi, hcl]; rfl) (Runs.callF rfl (by simp) rfl (by simp [hcl]; rfl) (by apply ct_impl_world_class <;> first | assumption | omega) cb_impl_world_class (by simp [hcl]; rfl) (jh hX (by simp [hk, hi, hcl]; rfl)))) ?_)
    refine W_rseqK [5, 7, 12] (js hX 3 (by simp [hk, hi, hcl]; rfl) (Runs.callF rfl (by simp) rfl (by simp [hcl]; rfl) (by apply ct_impl_world_fieldsOf <;> first | assumption | omega) cb_impl_world_fieldsOf (by simp [hcl]; rfl) (Runs.call [] rfl (by simp) rfl (by simp [hcl]; rfl) (by simp; rfl) (by apply ct_impl_size_impl_Field <;> first | assumption | omega) cb_impl_size_impl_Field (by simp) (by simp) (by simp [hcl]; rfl) (jh hX (by simp [hk, hi, hcl]; rfl))))) ?_
    refine W_seq (W_rseqK [5, 7, 64, 65, 66] (jh hX (by simp [hk, hi, hcl]; rfl)) ?_)
    refine W_block (W_loopU (α := Nat × Nat) [5, 7, 64, 65, 66] (fun p => [(7, .int .i64 p.1), (66, .int .i64 p.2)]) (fun p => []) (fun p => p.2 ≤ i ∧ p.1 = (fldsI l l[k].super).length + nonN (l[k].fields.take p.2)) (fun p => i - p.2) (((fldsI l l[k].super).length, 0)) (fun p => by simp; rfl) (by simp) ?_ ?_)
    · exact ⟨by simp, by simp [nonN]⟩
    rintro ⟨q, j⟩ ⟨hj, hJ⟩
    simp only at hj hJ
    have hB1 := nonN_le (l[k].fields.take j)
    rw [List.length_take] at hB1
    refine W_rseqK [5, 7, 64, 65, 66, 67] (jh hX (by simp [hk, hi, hcl]; rfl)) ?_
    refine W_seq (jd (fun h17 => ?_) (fun h17 => ?_))
    · try simp at h17
      refine W_skip (W_seq (W_block (W_rseqK [5, 7, 15, 64, 65, 66] (jh hX (by simp [hk, hi, h17, hcl]; rfl)) ?_)))
      refine W_seq (W_rseqK [5, 7, 15, 64, 65, 66, 72] (jh hX (by simp [hk, hi, h17, hcl]; rfl)) ?_)
      refine jd (fun h19 => ?_) (fun h19 => ?_)
      · try simp at h19
        obtain ⟨e2, e3, e4⟩ : l[k].fields[j].name = l[k].fields[i].name ∧ l[k].fields[j].type = l[k].fields[i].type ∧ l[k].fields[j].static = l[k].fields[i].static := by simpa using h19
        obtain rfl := uni_fld hw hk h17 hi e2
        refine W_exit (W_rseqK [6] (jh hX (by simp [hk, hi, h17, hcl]; rfl)) ?_)
        refine W_ret (je (by simp [hk, hi, h17, hcl]; rfl) ?_)
        rw [fpl_non hk hi (by simp [h2]), hJ]
      · try simp at h19
        have hne : j ≠ i := fun e2 => by subst e2; simp at h19
        refine W_skip (W_reg (js hX 5 (by simp [hk, hi, h17, hcl]; rfl) (Runs.callB rfl (by simp) rfl (by simp [hcl]; rfl) (by apply ct_impl_flags <;> first | assumption | omega) cb_impl_flags (by simp) (by simp [hcl]; rfl) (jh hX (by simp [hk, hi, h17, hcl]; (try (simp (disch := omega) only [wrap_i64]; (try simp [hk, hi, h17, hcl]))); rfl)))) ?_)
        refine W_reg (jh hX (by simp [hk, hi, h17, hcl]; (try (simp (disch := omega) only [wrap_i64]; (try simp [hk, hi, h17, hcl]))); rfl)) ?_
        refine round_endT ((q + (!l[k].fields[j].static).toNat, j + 1)) [5, 7, 64, 65, 66] 2 (by simp [hX]) (by simp) (by simp [h17]; try (simp (disch := omega) only [wrapB, wrap_i64])) ?_ ?_
        · exact ⟨by simp only; omega, by simp only; rw [nonN_snoc h17, hJ]; omega⟩
        · simp only; omega
    · try simp at h17
      exfalso; omega --done
end Go.Proofs
