/- Part 11 of what the proofs lean on: what the functions of the program and of the reference compute. Conditions: none. -/
import Derived.Test.YtfannbjeleonkaaGreatK09
import Derived.Test.YtfannbjeleonkaaGreatRows
set_option linter.all false
set_option linter.unusedVariables false
set_option linter.unusedSimpArgs false
set_option maxHeartbeats 2000000
set_option maxRecDepth 100000
namespace Go.Proofs
open Go Go.Ev


theorem cb_impl_rightWorld : Callable Tryz.prog 65 := ⟨_, Tryz.func65, by kernel_rfl, by kernel_rfl⟩
theorem ct_impl_rightWorld {l : List Cls} (hl : l.length ≤ 1048576) (hs : sizeL l ≤ 1099511627776) : Ct Tryz.prog 65 [.lst false 6 (l.map eC)] [] (.tup [wv l, .bool (rightW l)]) [] := by
  refine Ct_bodyS tok Tryz.func65 rfl 17 (by kernel_rfl) (by kernel_rfl) fun X hX => ?_
  refine jq [0] ?_
  refine W_rseqK [0, 4] (jt 1 (k:=(jF (c:=(by apply ct_impl_worldOf <;> first | assumption | omega | (simp at *; omega) | simp_all)) (a:=cb_impl_worldOf) (k:=jr)))) ?_
  refine W_rseqK [2, 3] (jt 5 (k:=(jm 5 11 [7, 16] (p:=fun b2_5 => by (try simp at b2_5); exact (js hX 1 (by simp [-atD_lt, -atL_lt]; rfl) (Runs.call [] rfl (by simp) rfl (by simp [-atD_lt, -atL_lt]; rfl) (by simp; rfl) (by apply ct_impl_world_check <;> first | assumption | omega | (simp at *; omega) | simp_all) cb_impl_world_check (by simp) (by simp) (by simp [-atD_lt, -atL_lt]; rfl) (jh hX (by simp [-atD_lt, -atL_lt]; rfl))))) (q:=fun b2_5 => by (try simp at b2_5); exact (jh hX (by simp [-atD_lt, -atL_lt]; rfl))) (k:=jr)))) ?_
  refine W_ret (je0 ?_)
  rw [← rightI_eq]
  simp
end Go.Proofs
namespace Go.Proofs
open Go Go.Ev


theorem cb_impl_isList_impl_Class : Callable Tryz.prog 70 := ⟨_, Tryz.func70, by kernel_rfl, by kernel_rfl⟩
theorem ct_impl_isList_impl_Class {l : List Cls} : Ct Tryz.prog 70 [.lst false 6 (l.map eC)] [] (.bool (decide (l.length ≤ 400))) [] := by
  refine Ct_bodyS tok Tryz.func70 rfl 6 (by kernel_rfl) (by kernel_rfl) fun X hX => ?_
  refine jq [0] ?_
  refine jq [2] ?_
  refine W_ret (je0 ?_)
  simp
end Go.Proofs
namespace Go.Proofs
open Go Go.Ev


theorem cb_impl_world_typeKnown : Callable Tryz.prog 75 := ⟨_, Tryz.func75, by kernel_rfl, by kernel_rfl⟩
theorem ct_impl_world_typeKnown {l : List Cls} (hl : l.length ≤ 1099511627776) {t : Typ} : Ct Tryz.prog 75 [wv l, eT t] [] (.bool (knownT l t)) [] := by
  refine Ct_bodyS tok Tryz.func75 rfl 43 (by kernel_rfl) (by kernel_rfl) fun X hX => ?_
  refine jq [0, 3] ?_
  refine W_seq (jq [0, 3, 6] ?_)
  refine W_block (W_seq (jq [0, 3, 6, 7] ?_))
  refine' W_condS3 [0, 3, 6, 7] (by simp; rfl) (by rfl) (fun h2 => ?a1_1) (fun h2 => ?a0_1) ?ak_1
  case a1_1 =>
    try simp at h2
    refine W_skip ?_
    exact ⟨rfl, Eq.trans (by (try simp); rfl) (by rfl)⟩
  case a0_1 =>
    try simp at h2
    refine W_reg jr ?_
    exact ⟨rfl, Eq.trans (by (try simp); rfl) (by rfl)⟩
  case ak_1 =>
    refine W_le (Le.of_eq (by simp; rfl)) ?_
    refine jd (fun h2 => ?_) (fun h2 => ?_)
    · try simp at h2
      refine W_rseqK [4] (jt 3 (k:=(jc [] (c:=(by apply ct_impl_world_known <;> first | assumption | omega | (simp at *; omega) | simp_all)) (a:=cb_impl_world_known) (k:=(jt 1 (k:=(jm 4 14 [18] (p:=fun b4_5 => by (try simp at b4_5); exact (jh hX (by simp [-atD_lt, -atL_lt]; rfl))) (q:=fun b4_5 => by (try simp at b4_5); exact (jh hX (by simp [-atD_lt, -atL_lt]; rfl))) (k:=jr)))))))) ?_
      refine W_ret (je0 ?_)
      simp only [knownT]
      (try simp_all) <;> grind
    · try simp at h2
      refine jq [0, 3, 19] ?_
      refine jd (fun h5 => ?_) (fun h5 => ?_)
      · try simp at h5
        refine W_rseqK [4] (jt 3 (k:=(jc [] (c:=(by apply ct_impl_world_known <;> first | assumption | omega | (simp at *; omega) | simp_all)) (a:=cb_impl_world_known) (k:=(jt 1 (k:=(jm 4 25 [29] (p:=fun b6_5 => by (try simp at b6_5); exact (js hX 2 (by simp [-atD_lt, -atL_lt]; rfl) (Runs.call [] rfl (by simp) rfl (by simp [-atD_lt, -atL_lt]; rfl) (by simp; rfl) (by apply ct_impl_within <;> first | assumption | omega | (simp at *; omega) | simp_all) cb_impl_within (by simp) (by simp) (by simp [-atD_lt, -atL_lt]; rfl) (jh hX (by simp [-atD_lt, -atL_lt]; rfl))))) (q:=fun b6_5 => by (try simp at b6_5); exact (jh hX (by simp [-atD_lt, -atL_lt]; rfl))) (k:=jr)))))))) ?_
        refine W_ret (je0 ?_)
        simp only [knownT]
        (try simp_all) <;> grind
      · try simp at h5
        refine W_skip (W_rseqK [4] (jt 2 (k:=(jc [] (c:=(by apply ct_impl_within <;> first | assumption | omega | (simp at *; omega) | simp_all)) (a:=cb_impl_within) (k:=(jt 1 (k:=(jm 4 33 [3, 37] (p:=fun b7_4 => by (try simp at b7_4); exact (jh hX (by simp [-atD_lt, -atL_lt]; rfl))) (q:=fun b7_4 => by (try simp at b7_4); exact (jh hX (by simp [-atD_lt, -atL_lt]; rfl))) (k:=(jt 1 (k:=(jm 4 38 [42] (p:=fun b7_9 => by (try simp at b7_9); exact (jh hX (by simp [-atD_lt, -atL_lt]; rfl))) (q:=fun b7_9 => by (try simp at b7_9); exact (jh hX (by simp [-atD_lt, -atL_lt]; rfl))) (k:=jr)))))))))))) ?_)
        refine W_ret (je0 ?_)
        simp only [knownT]
        (try simp_all) <;> grind
end Go.Proofs
namespace Go.Proofs
open Go Go.Ev


theorem cb_impl_world_frameRight_1 : Callable Tryz.prog 131 := ⟨_, Tryz.func131, by kernel_rfl, by kernel_rfl⟩
theorem ct_impl_world_frameRight_1 {l : List Cls} (hl : l.length ≤ 1099511627776) {t : Typ} : Ct Tryz.prog 131 [eT t, .fp [wv l]] [] (.bool (!knownT l t)) [] := by
  refine Ct_bodyS tok Tryz.func131 rfl 8 (by kernel_rfl) (by kernel_rfl) fun X hX => ?_
  refine jq [1, 2] ?_
  refine W_rseqK [3] (jt 2 (k:=(jc [] (c:=(by apply ct_impl_world_typeKnown <;> first | assumption | omega | (simp at *; omega) | simp_all)) (a:=cb_impl_world_typeKnown) (k:=jr)))) ?_
  refine W_ret (je0 ?_)
  simp
end Go.Proofs
namespace Go.Proofs
open Go Go.Ev


theorem cb_slices_IndexFunc_impl_Type_impl_Type : Callable Tryz.prog 183 := ⟨_, Tryz.func183, by kernel_rfl, by kernel_rfl⟩
theorem ct_slices_IndexFunc_impl_Type_impl_Type {cs : List Cls} (hc : cs.length ≤ 1099511627776) {l : List Typ} (hl : l.length ≤ 1099511627776) : Ct Tryz.prog 183 [.lst false 3 (l.map eT), .clo (.func 131) [] [.fp [wv cs]]] [] (.int .i64 (fix (fun t => !knownT cs t) l)) [] := by
  refine Ct_bodyS tok Tryz.func183 rfl 19 (by kernel_rfl) (by kernel_rfl) fun X hX => ?_
  refine jq [0, 1] ?_
  refine W_seq (jq [0, 1, 7, 8] ?_)
  refine W_block (W_loopU (α := Nat) [0, 1, 7, 8] (fun i => [(8, .int .i64 i)]) (fun i => []) (fun i => i ≤ l.length ∧ ∀ x ∈ l.take i, (fun t => !knownT cs t) x = false) (fun i => l.length - i) (0) (fun i => by simp; rfl) (by simp) ?_ ?_)
  · simp
  rintro i ⟨hi, hI⟩
  refine jq [0, 1, 7, 8, 9] ?_
  refine W_seq (jd (fun h2 => ?_) (fun h2 => ?_))
  · try simp at h2
    refine W_skip (W_seq (W_block (jq [0, 1, 5, 7, 8] ?_)))
    refine W_rseqK [0, 1, 5, 7, 8, 16] (js hX 5 (by simp [h2]; rfl) (jc [] (c:=(by apply ct_impl_world_frameRight_1 <;> first | assumption | exact hs _ (List.getElem_mem h2) | omega)) (a:=cb_impl_world_frameRight_1) (k:=jf))) ?_
    refine jd (fun h4 => ?_) (fun h4 => ?_)
    · try simp at h4
      refine jq [4] ?_
      refine W_ret (je (by simp [h2]; rfl) ?_)
      rw [fix_hit h2 hI (by simpa using h4)]
    · try simp at h4
      refine W_skip (W_reg (jh hX (by simp; (try (simp (disch := omega) only [wrap_i64]; (try simp))); rfl)) ?_)
      refine round_end (i + 1) [0, 1, 7, 8] (by simp [h2]; try (simp (disch := omega) only [wrap_i64])) ?_ ?_
      · exact ⟨by omega, take_not h2 hI (by simpa using h4)⟩
      · omega
  · try simp at h2
    refine W_exit (jq [4] ?_)
    refine W_ret (je (by simp [h2]; rfl) ?_)
    rw [fix_none (p := fun t => !knownT cs t) (fun x hx => hI x (by rw [List.take_of_length_le h2]; exact hx))]
end Go.Proofs
namespace Go.Proofs
open Go Go.Ev


theorem cb_slices_ContainsFunc_impl_Type_impl_Type : Callable Tryz.prog 132 := ⟨_, Tryz.func132, by kernel_rfl, by kernel_rfl⟩
theorem ct_slices_ContainsFunc_impl_Type_impl_Type {cs : List Cls} (hc : cs.length ≤ 1099511627776) {l : List Typ} (hl : l.length ≤ 1099511627776) : Ct Tryz.prog 132 [.lst false 3 (l.map eT), .clo (.func 131) [] [.fp [wv cs]]] [] (.bool (l.any (fun t => !knownT cs t))) [] := by
  refine Ct_bodyS tok Tryz.func132 rfl 9 (by kernel_rfl) (by kernel_rfl) fun X hX => ?_
  refine jq [0, 1] ?_
  refine W_rseqK [4] (jt 2 (k:=(jc [] (c:=(by apply ct_slices_IndexFunc_impl_Type_impl_Type <;> first | assumption | omega | (simp at *; omega) | simp_all)) (a:=cb_slices_IndexFunc_impl_Type_impl_Type) (k:=jr)))) ?_
  refine W_ret (je0 ?_)
  rw [← fix_ge]
end Go.Proofs
namespace Go.Proofs
open Go Go.Ev


theorem cb_impl_world_frameRight : Callable Tryz.prog 80 := ⟨_, Tryz.func80, by kernel_rfl, by kernel_rfl⟩
theorem ct_impl_world_frameRight {l : List Cls} (hl : l.length ≤ 1099511627776) {f : Frm} : Ct Tryz.prog 80 [wv l, eFr f] [] (.bool (frmR l f)) [] := by
  refine Ct_bodyS tok Tryz.func80 rfl 31 (by kernel_rfl) (by kernel_rfl) fun X hX => ?_
  refine jq [2, 3] ?_
  refine jq [3, 5] ?_
  refine W_rseqK [4] (jt 5 (k:=(jm 5 11 [3, 5, 16] (p:=fun b2_5 => by (try simp at b2_5); exact (jh hX (by simp [-atD_lt, -atL_lt, b2_5]; rfl))) (q:=fun b2_5 => by (try simp at b2_5); exact (jh hX (by simp [-atD_lt, -atL_lt]; rfl))) (k:=(jt 1 (k:=(jm 6 17 [3, 5, 23] (p:=fun b2_11 => by (try simp at b2_11); exact (js hX 3 (by simp [-atD_lt, -atL_lt, b2_11]; rfl) (Runs.callB2 rfl (by simp) rfl (by simp [-atD_lt, -atL_lt]; rfl) (by apply ct_slices_ContainsFunc_impl_Type_impl_Type <;> first | assumption | omega | (simp at *; omega) | simp_all) cb_slices_ContainsFunc_impl_Type_impl_Type (by simp) (by simp [-atD_lt, -atL_lt]; rfl) (jh hX (by simp [-atD_lt, -atL_lt]; rfl))))) (q:=fun b2_11 => by (try simp at b2_11); exact (jh hX (by simp [-atD_lt, -atL_lt]; rfl))) (k:=(jt 1 (k:=(jm 6 24 [30] (p:=fun b2_18 => by (try simp at b2_18); exact (js hX 3 (by simp [-atD_lt, -atL_lt, b2_18]; rfl) (Runs.callB2 rfl (by simp) rfl (by simp [-atD_lt, -atL_lt]; rfl) (by apply ct_slices_ContainsFunc_impl_Type_impl_Type <;> first | assumption | omega | (simp at *; omega) | simp_all) cb_slices_ContainsFunc_impl_Type_impl_Type (by simp) (by simp [-atD_lt, -atL_lt]; rfl) (jh hX (by simp [-atD_lt, -atL_lt]; rfl))))) (q:=fun b2_18 => by (try simp at b2_18); exact (jh hX (by simp [-atD_lt, -atL_lt]; rfl))) (k:=jr)))))))))))) ?_
  refine W_ret (je0 ?_)
  simp only [frmR, any_not, Bool.not_not, Bool.and_assoc]
end Go.Proofs
namespace Go.Proofs
open Go Go.Ev


theorem cb_impl_world_isSub : Callable Tryz.prog 120 := ⟨_, Tryz.func120, by kernel_rfl, by kernel_rfl⟩
theorem ct_impl_world_isSub {l : List Cls} {a b : Str} (hl : l.length ≤ 1048576) : Ct Tryz.prog 120 [wv l, .str a, .str b] [] (.bool (isKnown l b && out (chain l a) b)) [] := by
  have hcl := chain_len l a
  refine Ct_bodyS tok Tryz.func120 rfl 17 (by kernel_rfl) (by kernel_rfl) fun X hX => ?_
  refine jq [0, 1, 2] ?_
  refine W_rseqK [6] (jt 2 (k:=(jc [] (c:=(by apply ct_impl_world_known <;> first | assumption | omega | (simp at *; omega) | simp_all)) (a:=cb_impl_world_known) (k:=(jt 1 (k:=(jm 6 10 [16] (p:=fun b1_4 => by (try simp at b1_4); exact (js hX 2 (by simp [-atD_lt, -atL_lt]; rfl) (Runs.callF rfl (by simp) rfl (by simp [-atD_lt, -atL_lt]; rfl) (by apply ct_impl_world_chain <;> first | assumption | omega | (simp at *; omega) | simp_all) cb_impl_world_chain (by simp [-atD_lt, -atL_lt]; rfl) (js hX 1 (by simp [-atD_lt, -atL_lt]; rfl) (Runs.callB rfl (by simp) rfl (by simp [-atD_lt, -atL_lt]; rfl) (by apply ct_slices_Contains_string_string <;> first | assumption | omega | (simp at *; omega) | simp_all) cb_slices_Contains_string_string (by simp) (by simp [-atD_lt, -atL_lt]; rfl) (jh hX (by simp [-atD_lt, -atL_lt]; rfl))))))) (q:=fun b1_4 => by (try simp at b1_4); exact (jh hX (by simp [-atD_lt, -atL_lt]; rfl))) (k:=jr)))))))) ?_
  refine W_ret (je0 ?_)
  simp [out]
end Go.Proofs
namespace Go.Proofs
open Go Go.Ev


theorem cb_impl_world_common : Callable Tryz.prog 67 := ⟨_, Tryz.func67, by kernel_rfl, by kernel_rfl⟩
theorem ct_impl_world_common {l : List Cls} (hl : l.length ≤ 1048576) {a b : Str} : Ct Tryz.prog 67 [wv l, .str a, .str b] [] (.str (comI l a b)) [] := by
  have hcl := chain_len l a
  refine Ct_bodyS tok Tryz.func67 rfl 23 (by kernel_rfl) (by kernel_rfl) fun X hX => ?_
  refine jq [0, 1, 2] ?_
  refine W_seq (W_rseqK [0, 2, 11, 12, 13] (jt 2 (k:=(jF (c:=(by apply ct_impl_world_chain <;> first | assumption | omega | (simp at *; omega) | simp_all)) (a:=cb_impl_world_chain) (k:=jr)))) ?_)
  refine W_block (W_loopU (α := Nat) [0, 2, 11, 12, 13] (fun i => [(13, .int .i64 i)]) (fun i => []) (fun i => i ≤ (chain l a).length ∧ ((chain l a).drop i).find? (fun x => isKnown l x && out (chain l b) x) = (chain l a).find? (fun x => isKnown l x && out (chain l b) x)) (fun i => (chain l a).length - i) (0) (fun i => by simp; rfl) (by simp) ?_ ?_)
  · simp
  rintro i ⟨hi, hI⟩
  refine jq [0, 2, 11, 12, 13, 14] ?_
  refine W_seq (jd (fun h2 => ?_) (fun h2 => ?_))
  · try simp at h2
    rw [find_drop h2] at hI
    refine W_skip (W_seq (W_block (W_rseqK [0, 2, 8, 11, 12, 13] (jh hX (by simp [h2]; rfl)) ?_)))
    refine W_rseqK [0, 2, 8, 11, 12, 13, 20] (jt 3 (k:=(jc [] (c:=(by apply ct_impl_world_isSub <;> first | assumption | omega | (simp at *; omega) | simp_all)) (a:=cb_impl_world_isSub) (k:=jf)))) ?_
    refine jd (fun h4 => ?_) (fun h4 => ?_)
    · try simp at h4
      refine jq [6] ?_
      refine W_ret (je (by simp [h2]; rfl) ?_)
      have h4b : (isKnown l (chain l a)[i] && out (chain l b) (chain l a)[i]) = true := by simpa using h4
      rw [if_pos h4b] at hI
      unfold comI; rw [← hI]; rfl
    · try simp at h4
      have h4b : ¬ (isKnown l (chain l a)[i] && out (chain l b) (chain l a)[i]) = true := by simpa using h4
      rw [if_neg h4b] at hI
      refine W_skip (W_reg (jh hX (by simp; (try (simp (disch := omega) only [wrap_i64]; (try simp))); rfl)) ?_)
      refine round_end (i + 1) [0, 2, 11, 12, 13] (by simp [h2]; try (simp (disch := omega) only [wrap_i64])) ?_ ?_
      · exact ⟨by omega, hI⟩
      · omega
  · try simp at h2
    rw [List.drop_eq_nil_of_le h2] at hI
    refine W_exit (jq [6] ?_)
    refine W_ret (je (by simp [h2]; rfl) ?_)
    unfold comI; rw [← hI]; rfl
end Go.Proofs
namespace Go.Proofs
open Go Go.Ev


theorem cb_impl_Type_isObject : Callable Tryz.prog 129 := ⟨_, Tryz.func129, by kernel_rfl, by kernel_rfl⟩
theorem ct_impl_Type_isObject {t : Typ} : Ct Tryz.prog 129 [eT t] [] (.bool (isObj t)) [] := by
  refine Ct_bodyS tok Tryz.func129 rfl 6 (by kernel_rfl) (by kernel_rfl) fun X hX => ?_
  refine jq [1] ?_
  refine W_rseqK [2] (jt 2 (k:=(jc [] (c:=(by apply ct_impl_within <;> first | assumption | omega | (simp at *; omega) | simp_all)) (a:=cb_impl_within) (k:=jr)))) ?_
  refine W_ret (je0 ?_)
  simp [isObj]
end Go.Proofs
namespace Go.Proofs
open Go Go.Ev


theorem cb_impl_ref : Callable Tryz.prog 130 := ⟨_, Tryz.func130, by kernel_rfl, by kernel_rfl⟩
theorem ct_impl_ref {c : Str} : Ct Tryz.prog 130 [.str c] [] (eT ⟨3, c, 0⟩) [] := by
  refine Ct_bodyS tok Tryz.func130 rfl 5 (by kernel_rfl) (by kernel_rfl) fun X hX => ?_
  refine jq [0, 2] ?_
  refine jq [2] ?_
  refine W_ret (je0 ?_)
  simp
end Go.Proofs
namespace Go.Proofs
open Go Go.Ev


theorem cb_impl_world_typeLub : Callable Tryz.prog 85 := ⟨_, Tryz.func85, by kernel_rfl, by kernel_rfl⟩
theorem ct_impl_world_typeLub {l : List Cls} (hl : l.length ≤ 1048576) {a b : Typ} : Ct Tryz.prog 85 [wv l, eT a, eT b] [] (eT (lubI l a b)) [] := by
  refine Ct_bodyS tok Tryz.func85 rfl 48 (by kernel_rfl) (by kernel_rfl) fun X hX => ?_
  refine jq [0, 4, 5, 6] ?_
  refine W_seq (W_block (jq [0, 4, 5, 6, 7] ?_))
  refine jd (fun h1 => ?_) (fun h1 => ?_)
  · try simp at h1
    refine jq [6] ?_
    refine W_ret (je0 ?_)
    cases a; cases b; simp only [lubI, isObj, objT, sObject, zT, eT] at *
    (try simp_all) <;> grind
  · try simp at h1
    refine W_rseqK [0, 4, 5, 6, 12] (jt 1 (k:=(jc [] (c:=(by apply ct_impl_Type_isObject <;> first | assumption | omega | (simp at *; omega) | simp_all)) (a:=cb_impl_Type_isObject) (k:=(jt 2 (k:=(jm 4 16 [0, 4, 5, 6, 20] (p:=fun b3_4 => by (try simp at b3_4); exact (jh hX (by simp [-atD_lt, -atL_lt]; rfl))) (q:=fun b3_4 => by (try simp at b3_4); exact (js hX 1 (by simp [-atD_lt, -atL_lt]; rfl) (Runs.call [] rfl (by simp) rfl (by simp [-atD_lt, -atL_lt]; rfl) (by simp; rfl) (by apply ct_impl_Type_isObject <;> first | assumption | omega | (simp at *; omega) | simp_all) cb_impl_Type_isObject (by simp) (by simp) (by simp [-atD_lt, -atL_lt]; rfl) (jh hX (by simp [-atD_lt, -atL_lt]; rfl))))) (k:=jr)))))))) ?_
    refine jd (fun h3 => ?_) (fun h3 => ?_)
    · try simp at h3
      refine jq [6] ?_
      refine W_ret (je0 ?_)
      cases a; cases b; simp only [lubI, isObj, objT, sObject, zT, eT] at *
      (try simp_all) <;> grind
    · try simp at h3
      refine jq [0, 4, 5, 6, 22] ?_
      refine jd (fun h5 => ?_) (fun h5 => ?_)
      · try simp at h5
        refine jq [6] ?_
        refine W_ret (je0 ?_)
        cases a; cases b; simp only [lubI, isObj, objT, sObject, zT, eT] at *
        (try simp_all) <;> grind
      · try simp at h5
        refine jq [0, 4, 5, 6, 27] ?_
        refine jd (fun h7 => ?_) (fun h7 => ?_)
        · try simp at h7
          refine jq [6] ?_
          refine W_ret (je0 ?_)
          cases a; cases b; simp only [lubI, isObj, objT, sObject, zT, eT] at *
          (try simp_all) <;> grind
        · try simp at h7
          refine jq [0, 4, 5, 6, 32] ?_
          refine jd (fun h9 => ?_) (fun h9 => ?_)
          · try simp at h9
            refine jL 8 [0, 1, 2, 3, 4, 5, 6] [7] [6] ([0, 1]) hX (by simp; rfl) (jH (p:=fun X hX => (jc [] (c:=(by apply ct_impl_world_common <;> first | assumption | omega | (simp at *; omega) | simp_all)) (a:=cb_impl_world_common) (k:=jf))) (k:=.nil)) jr ?_
            refine W_ret (je0 ?_)
            cases a; cases b; simp only [lubI, isObj, objT, sObject, zT, eT] at *
            (try simp_all) <;> grind
          · try simp at h9
            refine W_skip (W_rseqK [6] (jc [] (c:=(by apply ct_impl_ref <;> first | assumption | omega | (simp at *; omega) | simp_all)) (a:=cb_impl_ref) (k:=jr)) ?_)
            refine W_ret (je0 ?_)
            cases a; cases b; simp only [lubI, isObj, objT, sObject, zT, eT] at *
            (try simp_all) <;> grind
end Go.Proofs
namespace Go.Proofs
open Go Go.Ev


theorem cb_impl_world_lubs : Callable Tryz.prog 159 := ⟨_, Tryz.func159, by kernel_rfl, by kernel_rfl⟩
theorem ct_impl_world_lubs {l : List Cls} (hl : l.length ≤ 1048576) {x y : List Typ} (hx : x.length ≤ 1048576) (e : x.length = y.length) : Ct Tryz.prog 159 [wv l, .lst false 3 (x.map eT), .lst false 3 (y.map eT)] [] (.lst true 3 ((lubLs (lubI l) x y).map eT)) [] := by
  refine Ct_bodyS tok Tryz.func159 rfl 30 (by kernel_rfl) (by kernel_rfl) fun X hX => ?_
  refine jq [0, 1, 2] ?_
  refine jq [0, 1, 2, 7] ?_
  refine W_seq (jq [0, 1, 2, 7, 11, 12] ?_)
  refine W_block (W_loopU (α := List Typ × Nat) [0, 1, 2, 7, 11, 12] (fun p => [(7, .arr 0 0 p.1.length), (12, .int .i64 p.2)]) (fun p => [(0, some (3, p.1.map eT))]) (fun p => p.2 ≤ x.length ∧ p.1.length = p.2 ∧ p.1 = lubLs (lubI l) (x.take p.2) (y.take p.2)) (fun p => x.length - p.2) (([], 0)) (fun p => by simp; rfl) (by simp) ?_ ?_)
  · simp [lubLs]
  rintro ⟨o, i⟩ ⟨hi, hn, hI⟩
  simp only at hi hn hI
  have w0 : o.length ≤ 1099511627776 := by omega
  have w1 : (o.length + 1) * 32 ≤ 140737488355328 := by omega
  have w2 : o.length ≤ 1099511627775 := by omega
  refine jq [0, 1, 2, 7, 11, 12, 13] ?_
  refine W_seq (jd (fun h3 => ?_) (fun h3 => ?_))
  · try simp at h3
    have h3b : i < y.length := by omega
    refine W_skip (W_seq (W_block (jq [0, 1, 2, 7, 8, 11, 12] ?_)))
    refine W_held (n := 12) (A := [0, 1, 2, 3, 4, 5, 6, 7, 8, 9]) (B := [10, 11]) (L := []) hmo (by kernel_rfl) tok hX (by simp [w0, w1, w2, h3, h3b]; rfl) (jH (p:=fun X hX => (jc [] (c:=(by apply ct_impl_world_typeLub <;> first | assumption | omega | (simp at *; omega) | simp_all)) (a:=cb_impl_world_typeLub) (k:=jf))) (k:=(jH (p:=fun X hX => jr) (k:=.nil)))) (jh hX (by simp [w0, w1, w2, h3, h3b]; rfl)) ?_
    refine W_reg (jh hX (by simp; (try (simp (disch := omega) only [wrap_i64]; (try simp))); rfl)) ?_
    refine round_endT ((o ++ [lubI l x[i] y[i]], i + 1)) [0, 1, 2, 7, 11, 12] 1 (by simp [hX]) (by simp) (by simp [w0, w1, w2, h3, h3b]; try (simp (disch := omega) only [wrap_i64])) ?_ ?_
    · exact ⟨by simp only; omega, by simp [hn], by simp only; rw [lubLs_snoc h3 e, hI]⟩
    · simp only; omega
  · try simp at h3
    refine W_exit (jq [6] ?_)
    refine W_ret (W_retR (by simp [w0, w1, w2, h3]; rfl) ?_ rfl)
    obtain rfl : i = x.length := by omega
    rw [List.take_of_length_le (Nat.le_refl _), List.take_of_length_le (by omega)] at hI
    rw [← hI]
    exact Wk.refl _
end Go.Proofs
namespace Go.Proofs
open Go Go.Ev


theorem cb_impl_world_frameLub : Callable Tryz.prog 106 := ⟨_, Tryz.func106, by kernel_rfl, by kernel_rfl⟩
theorem ct_impl_world_frameLub {l : List Cls} (hl : l.length ≤ 1048576) {a b : Frm} (ha : a.stack.length ≤ 1048576) (hb : a.locals.length ≤ 1048576) (e : a.stack.length = b.stack.length) (e2 : a.locals.length = b.locals.length) : Ct Tryz.prog 106 [wv l, eFr a, eFr b] [] (oFr (frmLubI l a b)) [] := by
  refine Ct_bodyS tok Tryz.func106 rfl 20 (by kernel_rfl) (by kernel_rfl) fun X hX => ?_
  refine jq [0, 4, 5, 6] ?_
  refine jL 11 [0, 1, 2, 3, 4, 6, 7, 8, 9, 10] [5] [6] ([0, 1]) hX (by simp; rfl) (jH (p:=fun X hX => (jc [] (c:=(by apply ct_impl_world_lubs <;> first | assumption | omega | (simp at *; omega) | simp_all)) (a:=cb_impl_world_lubs) (k:=jf))) (k:=.nil)) (jc [] (c:=(by apply ct_impl_world_lubs <;> first | assumption | omega | (simp at *; omega) | simp_all)) (a:=cb_impl_world_lubs) (k:=jr)) ?_
  refine W_ret (je0 ?_)
  rfl
end Go.Proofs
namespace Go.Proofs
open Go Go.Ev


theorem cb_impl_FrameLub : Callable Tryz.prog 58 := ⟨_, Tryz.func58, by kernel_rfl, by kernel_rfl⟩
theorem ct_impl_FrameLub {l : List Cls} (hl : l.length ≤ 1048576) (hs : sizeL l ≤ 1099511627776) {a b : Frm} (ha : sizeFr a ≤ 1099511627776) (hb : sizeFr b ≤ 1099511627776) : Ct Tryz.prog 58 [.lst false 6 (l.map eC), eFr a, eFr b] [] (oFo (frmLubW l a b)) [] := by
  simp only [sizeFr] at ha hb
  refine Ct_bodyS tok Tryz.func58 rfl 57 (by kernel_rfl) (by kernel_rfl) fun X hX => ?_
  refine jq [0, 4, 5, 6] ?_
  refine W_seq (W_rseqK [0, 4, 5, 6, 11] (jt 1 (k:=(jc [] (c:=(by apply ct_impl_isList_impl_Class <;> first | assumption | omega | (have h9 := frmR_len h4.1.1.2; omega))) (a:=cb_impl_isList_impl_Class) (k:=jr)))) ?_)
  refine jd (fun h1 => ?_) (fun h1 => ?_)
  · try simp at h1
    refine jq [6] ?_
    refine W_ret (W_retR (by simp; rfl) ?_ rfl)
    rw [frmLubW, if_pos (by omega)]
    exact Wk.agg (.cons (Wk.nilSlice _ _) (.cons (Wk.nilSlice _ _) (.cons (Wk.refl _) .nil)))
  · try simp at h1
    refine W_skip (W_rseqK [4, 5, 6, 7, 8] (jt 1 (k:=(jc [] (c:=(by apply ct_impl_rightWorld <;> first | assumption | omega | (have h9 := frmR_len h4.1.1.2; omega))) (a:=cb_impl_rightWorld) (k:=jr)))) ?_)
    refine W_seq (W_block (W_rseqK [4, 5, 6, 7, 18] (jt 3 (k:=(jm 5 21 [4, 5, 6, 7, 26] (p:=fun b4_3 => by (try simp at b4_3); exact (jh hX (by simp [-atD_lt, -atL_lt]; rfl))) (q:=fun b4_3 => by (try simp at b4_3); exact (js hX 2 (by simp [-atD_lt, -atL_lt]; rfl) (Runs.call [] rfl (by simp) rfl (by simp [-atD_lt, -atL_lt]; rfl) (by simp; rfl) (by apply ct_impl_world_frameRight <;> first | assumption | omega | (have h9 := frmR_len h4.1.1.2; omega)) cb_impl_world_frameRight (by simp) (by simp) (by simp [-atD_lt, -atL_lt]; rfl) (jh hX (by simp [-atD_lt, -atL_lt]; rfl))))) (k:=(jt 1 (k:=(jm 5 27 [4, 5, 6, 7, 32] (p:=fun b4_9 => by (try simp at b4_9); exact (jh hX (by simp [-atD_lt, -atL_lt]; rfl))) (q:=fun b4_9 => by (try simp at b4_9); exact (js hX 2 (by simp [-atD_lt, -atL_lt]; rfl) (Runs.call [] rfl (by simp) rfl (by simp [-atD_lt, -atL_lt]; rfl) (by simp; rfl) (by apply ct_impl_world_frameRight <;> first | assumption | omega | (have h9 := frmR_len h4.1.1.2; omega)) cb_impl_world_frameRight (by simp) (by simp) (by simp [-atD_lt, -atL_lt]; rfl) (jh hX (by simp [-atD_lt, -atL_lt]; rfl))))) (k:=(jt 1 (k:=(jm 8 33 [4, 5, 6, 7, 41] (p:=fun b4_15 => by (try simp at b4_15); exact (jh hX (by simp [-atD_lt, -atL_lt]; rfl))) (q:=fun b4_15 => by (try simp at b4_15); exact (jh hX (by simp [-atD_lt, -atL_lt]; rfl))) (k:=jr)))))))))))) ?_))
    refine jd (fun h4 => ?_) (fun h4 => ?_)
    · try simp at h4
      refine jq [6] ?_
      refine W_ret (W_retR (by simp; rfl) ?_ rfl)
      rw [frmLubW, if_neg (by omega), if_neg (fun e9 => by simp only [frmRightW, Bool.and_eq_true, decide_eq_true_eq] at e9 h4; grind)]
      exact Wk.agg (.cons (Wk.nilSlice _ _) (.cons (Wk.nilSlice _ _) (.cons (Wk.refl _) .nil)))
    · try simp at h4
      refine jq [4, 5, 6, 7, 43] ?_
      refine jd (fun h6 => ?_) (fun h6 => ?_)
      · try simp at h6
        refine jq [6] ?_
        refine W_ret (W_retR (by simp; rfl) ?_ rfl)
        rw [frmLubW, if_neg (by omega), if_pos (by simp only [frmRightW, Bool.and_eq_true, decide_eq_true_eq] at h4 ⊢; grind), if_neg h6]
        exact Wk.agg (.cons (Wk.nilSlice _ _) (.cons (Wk.nilSlice _ _) (.cons (Wk.refl _) .nil)))
      · try simp at h6
        refine W_skip (W_rseqK [6] (jt 3 (k:=(jc [] (c:=(by apply ct_impl_world_frameLub <;> first | assumption | omega | (have h9 := frmR_len h4.1.1.2; omega))) (a:=cb_impl_world_frameLub) (k:=jr)))) ?_)
        refine W_ret (W_retR (by simp; rfl) ?_ rfl)
        rw [frmLubW, if_neg (by omega), if_pos (by simp only [frmRightW, Bool.and_eq_true, decide_eq_true_eq] at h4 ⊢; grind), if_pos h6, ← frmLub_eq h4.1.1.2 h4.1.2]
        exact Wk.refl _
end Go.Proofs
namespace Go.Proofs
open Go Go.Ev


theorem cb_laws_FnExactFrameLub : Callable Tryz.prog 14 := ⟨_, Tryz.func14, by kernel_rfl, by kernel_rfl⟩
theorem ct_laws_FnExactFrameLub {l : List Cls} {f1 : Frm} {f2 : Frm} (hl : l.length < 4611686018427387904) (bl : ∀ y ∈ l, bigC y) (hf1 : bigFr f1) (hf2 : bigFr f2) : Ct Tryz.prog 14 [.lst false 6 (l.map eC), eFr f1, eFr f2] [] (.bool true) [] := by
  refine Ct_bodyS tok Tryz.func14 rfl 115 (by kernel_rfl) (by kernel_rfl) fun X hX => ?_
  refine jq [0, 4, 5] ?_
  refine jq [0, 4, 5, 7] ?_
  refine W_rseqK [0, 4, 5, 7] (jt 2 (k:=(jc [] (c:=(by apply ct_laws_szClassS <;> first | assumption | omega | (simp <;> omega))) (a:=cb_laws_szClassS) (k:=jr)))) ?_
  refine W_seq (jq [0, 4, 5, 7, 21] ?_)
  refine jd (fun h3 => ?_) (fun h3 => ?_)
  · try simp at h3
    refine jq [6] ?_
    refine W_ret (je (by simp [h3]; rfl) ?_)
    first | omega | (simp_all; done) | (simp_all <;> omega)
  · try simp at h3
    have k3 := sub_ok h3
    have hsL : sizeL l ≤ 1048576 := by have := k3.1; unfold sizeL; omega
    refine W_skip (W_rseqK [0, 4, 5, 7] (js hX 2 (by simp [h3]; rfl) (jc [] (c:=(by apply ct_laws_szFrame <;> first | assumption | omega | (simp <;> omega))) (a:=cb_laws_szFrame) (k:=jr))) ?_)
    refine W_seq (jq [0, 4, 5, 7, 26] ?_)
    refine jd (fun h6 => ?_) (fun h6 => ?_)
    · try simp at h6
      refine jq [6] ?_
      refine W_ret (je (by simp [h3, h6]; rfl) ?_)
      first | omega | (simp_all; done) | (simp_all <;> omega)
    · try simp at h6
      have k6 := sub_ok h6
      refine W_skip (W_rseqK [0, 4, 5, 7] (js hX 2 (by simp [h3, h6]; rfl) (jc [] (c:=(by apply ct_laws_szFrame <;> first | assumption | omega | (simp <;> omega))) (a:=cb_laws_szFrame) (k:=jr))) ?_)
      refine W_seq (jq [0, 4, 5, 31] ?_)
      refine jd (fun h9 => ?_) (fun h9 => ?_)
      · try simp at h9
        refine jq [6] ?_
        refine W_ret (je (by simp [h3, h6, h9]; rfl) ?_)
        first | omega | (simp_all; done) | (simp_all <;> omega)
      · try simp at h9
        have k9 := sub_ok h9
        have hb := bigFo_lub (l := l) (b := f2) hf1
        have hN := frmLubW_len l f1 f2
        obtain ⟨u1, u2, u3, u4⟩ : f1.stack.length ≤ 1048576 ∧ f1.locals.length ≤ 1048576 ∧ f2.stack.length ≤ 1048576 ∧ f2.locals.length ≤ 1048576 := by simp only [sizeFr] at k6 k9; omega
        obtain ⟨u5, u6⟩ : (frmLubW l f1 f2).f.stack.length ≤ 1048576 ∧ (frmLubW l f1 f2).f.locals.length ≤ 1048576 := by omega
        have hc : cntCs l ≤ 7340032 := by have := cntCs_size l; omega
        refine W_skip (jK 8 [0, 2, 4] (.two 1 7 (.two 3 7 (.two 5 7 (.two 6 7 (.one 7 .tail) (.one 6 .tail)) (.one 5 (.one 6 .tail))) (.one 3 (.one 5 (.one 6 .tail)))) (.one 1 (.one 3 (.one 5 (.one 6 .tail))))) [0, 4, 5, 8] ([0, 1]) hX (by simp [h3, h6, h9]; rfl) (.two (jN (p:=fun X hX => (jF (c:=(by apply ct_laws_toClassS <;> first | assumption | omega | exact fun y hy => Nat.le_trans (mem_sum hy) (by omega))) (a:=cb_laws_toClassS) (k:=jf))) (k:=(.two (jN (p:=fun X hX => (jF (c:=(by apply ct_laws_toFrame <;> first | assumption | omega | exact fun y hy => Nat.le_trans (mem_sum hy) (by omega))) (a:=cb_laws_toFrame) (k:=jf))) (k:=(.two (jN (p:=fun X hX => (jF (c:=(by apply ct_laws_toFrame <;> first | assumption | omega | exact fun y hy => Nat.le_trans (mem_sum hy) (by omega))) (a:=cb_laws_toFrame) (k:=jf))) (k:=(.two (jN (p:=fun X hX => (jF (c:=(by apply ct_spec_FrameLub <;> first | assumption | omega | (simp <;> omega))) (a:=cb_spec_FrameLub) (k:=jf))) (k:=(jN (p:=fun X hX => jr) (k:=.tail)))) (jN (p:=fun X hX => jr) (k:=(jN (p:=fun X hX => (jF (c:=(by apply ct_spec_FrameLub <;> first | assumption | omega | (simp <;> omega))) (a:=cb_spec_FrameLub) (k:=jf))) (k:=.tail))))))) (jN (p:=fun X hX => jr) (k:=(jN (p:=fun X hX => (jF (c:=(by apply ct_laws_toFrame <;> first | assumption | omega | exact fun y hy => Nat.le_trans (mem_sum hy) (by omega))) (a:=cb_laws_toFrame) (k:=jf))) (k:=(jN (p:=fun X hX => (jF (c:=(by apply ct_spec_FrameLub <;> first | assumption | omega | (simp <;> omega))) (a:=cb_spec_FrameLub) (k:=jf))) (k:=.tail))))))))) (jN (p:=fun X hX => jr) (k:=(jN (p:=fun X hX => (jF (c:=(by apply ct_laws_toFrame <;> first | assumption | omega | exact fun y hy => Nat.le_trans (mem_sum hy) (by omega))) (a:=cb_laws_toFrame) (k:=jf))) (k:=(jN (p:=fun X hX => (jF (c:=(by apply ct_laws_toFrame <;> first | assumption | omega | exact fun y hy => Nat.le_trans (mem_sum hy) (by omega))) (a:=cb_laws_toFrame) (k:=jf))) (k:=(jN (p:=fun X hX => (jF (c:=(by apply ct_spec_FrameLub <;> first | assumption | omega | (simp <;> omega))) (a:=cb_spec_FrameLub) (k:=jf))) (k:=.tail))))))))))) (jN (p:=fun X hX => jr) (k:=(jN (p:=fun X hX => (jF (c:=(by apply ct_laws_toClassS <;> first | assumption | omega | exact fun y hy => Nat.le_trans (mem_sum hy) (by omega))) (a:=cb_laws_toClassS) (k:=jf))) (k:=(jN (p:=fun X hX => (jF (c:=(by apply ct_laws_toFrame <;> first | assumption | omega | exact fun y hy => Nat.le_trans (mem_sum hy) (by omega))) (a:=cb_laws_toFrame) (k:=jf))) (k:=(jN (p:=fun X hX => (jF (c:=(by apply ct_laws_toFrame <;> first | assumption | omega | exact fun y hy => Nat.le_trans (mem_sum hy) (by omega))) (a:=cb_laws_toFrame) (k:=jf))) (k:=(jN (p:=fun X hX => (jF (c:=(by apply ct_spec_FrameLub <;> first | assumption | omega | (simp <;> omega))) (a:=cb_spec_FrameLub) (k:=jf))) (k:=.tail))))))))))) (jh hX (by simp [h3, h6, h9]; rfl)) ?_)
        refine W_rseqK [0, 4, 5, 8, 9] (jt 1 (k:=(jc [] (c:=(by apply ct_laws_toClassS <;> first | assumption | omega | exact fun y hy => Nat.le_trans (mem_sum hy) (by omega))) (a:=cb_laws_toClassS) (k:=jr)))) ?_
        refine W_rseqK [0, 4, 5, 8, 9, 10] (js hX 1 (by simp [h3, h6, h9]; rfl) (jc [] (c:=(by apply ct_laws_toFrame <;> first | assumption | omega | exact fun y hy => Nat.le_trans (mem_sum hy) (by omega))) (a:=cb_laws_toFrame) (k:=(jh hX (by simp [h3, h6, h9]; rfl))))) ?_
        refine W_rseqK [0, 4, 5, 8, 9, 10, 11] (js hX 1 (by simp [h3, h6, h9]; rfl) (jc [] (c:=(by apply ct_laws_toFrame <;> first | assumption | omega | exact fun y hy => Nat.le_trans (mem_sum hy) (by omega))) (a:=cb_laws_toFrame) (k:=(jh hX (by simp [h3, h6, h9]; rfl))))) ?_
        refine W_rseqK [0, 4, 5, 8, 9, 10, 11, 12] (js hX 3 (by simp [h3, h6, h9]; rfl) (jB (c:=(by apply ct_impl_FrameLub <;> first | assumption | omega | (simp <;> omega))) (a:=cb_impl_FrameLub) (k:=(jh hX (by simp [h3, h6, h9]; rfl))))) ?_
        refine W_seq (W_rseqK [0, 4, 5, 8, 9, 10, 11, 12, 52] (js hX 2 (by simp [h3, h6, h9]; rfl) (jB (c:=(by apply ct_laws_eqFrameOut <;> first | assumption | omega | (simp <;> omega))) (a:=cb_laws_eqFrameOut) (k:=jr))) ?_)
        refine jd (fun h16 => ?_) (fun h16 => ?_)
        · try simp at h16
          all_goals
            refine jq [6] ?_
            refine W_ret (je (by simp [h3, h6, h9]; rfl) ?_)
            first | omega | (simp_all; done) | (simp_all <;> omega)
        · try simp at h16
          all_goals
            refine W_skip (W_seq (W_rseqK [0, 4, 5, 8, 9, 10, 11, 12, 57] (jt 2 (k:=(jF (c:=(by apply ct_laws_toClassS <;> first | assumption | omega | exact fun y hy => Nat.le_trans (mem_sum hy) (by omega))) (a:=cb_laws_toClassS) (k:=(jB (c:=(by apply ct_laws_eqClassS <;> first | assumption | omega | (simp <;> omega))) (a:=cb_laws_eqClassS) (k:=jr)))))) ?_))
            refine jd (fun h18 => ?_) (fun h18 => ?_)
            · try simp at h18
              all_goals
                refine jq [6] ?_
                refine W_ret (je (by simp [h3, h6, h9]; rfl) ?_)
                first | omega | (simp_all; done) | (simp_all <;> omega)
            · try simp at h18
              all_goals
                refine W_skip (W_seq (jL 3 [0, 1] [2] [0, 4, 5, 8, 9, 10, 11, 12, 62] ([0, 6]) hX (by simp [h3, h6, h9]; rfl) (jH (p:=fun X hX => (jF (c:=(by apply ct_laws_toFrame <;> first | assumption | omega | exact fun y hy => Nat.le_trans (mem_sum hy) (by omega))) (a:=cb_laws_toFrame) (k:=jf))) (k:=.nil)) (jB (c:=(by apply ct_laws_eqFrame <;> first | assumption | omega | (simp <;> omega))) (a:=cb_laws_eqFrame) (k:=jr)) ?_))
                refine jd (fun h20 => ?_) (fun h20 => ?_)
                · try simp at h20
                  all_goals
                    refine jq [6] ?_
                    refine W_ret (je (by simp [h3, h6, h9]; rfl) ?_)
                    first | omega | (simp_all; done) | (simp_all <;> omega)
                · try simp at h20
                  all_goals
                    refine W_skip (W_seq (jL 3 [0, 1] [2] [0, 4, 5, 8, 9, 10, 11, 12, 67] ([1, 9]) hX (by simp [h3, h6, h9]; rfl) (jH (p:=fun X hX => (jF (c:=(by apply ct_laws_toFrame <;> first | assumption | omega | exact fun y hy => Nat.le_trans (mem_sum hy) (by omega))) (a:=cb_laws_toFrame) (k:=jf))) (k:=.nil)) (jB (c:=(by apply ct_laws_eqFrame <;> first | assumption | omega | (simp <;> omega))) (a:=cb_laws_eqFrame) (k:=jr)) ?_))
                    refine jd (fun h22 => ?_) (fun h22 => ?_)
                    · try simp at h22
                      all_goals
                        refine jq [6] ?_
                        refine W_ret (je (by simp [h3, h6, h9]; rfl) ?_)
                        first | omega | (simp_all; done) | (simp_all <;> omega)
                    · try simp at h22
                      all_goals
                        refine W_skip (jq [0, 4, 5, 8, 9, 10, 11, 12, 13] ?_)
                        refine W_rseqK [0, 4, 5, 8, 10, 11, 12, 13] (jt 2 (k:=(jc [3] (c:=(by (try simp only [mapL_T, mapL_F, mapL_I, mapL_H, mapL_M, mapL_C]); apply ct_laws_markClassS (k := 1) <;> first | assumption | omega | (simp <;> omega))) (a:=cb_laws_markClassS) (k:=jr)))) ?_
                        refine W_rseqK [0, 4, 5, 8, 11, 12, 13] (js hX 2 (by simp [h3, h6, h9]; rfl) (jc [4, 5] (c:=(by (try simp only [mapL_T, mapL_F, mapL_I, mapL_H, mapL_M, mapL_C]); apply ct_laws_markFrame (k := 1 + cntCs l) <;> first | assumption | omega | (simp <;> omega))) (a:=cb_laws_markFrame) (k:=jr))) ?_
                        refine W_rseqK [0, 4, 5, 8, 12, 13] (js hX 2 (by simp [h3, h6, h9]; rfl) (jc [7, 8] (c:=(by (try simp only [mapL_T, mapL_F, mapL_I, mapL_H, mapL_M, mapL_C]); apply ct_laws_markFrame (k := 1 + cntCs l + 3 * f1.stack.length + 3 * f1.locals.length) <;> first | assumption | omega | (simp <;> omega))) (a:=cb_laws_markFrame) (k:=jr))) ?_
                        refine W_seq ?_
                        first | (refine W_rseqK [0, 4, 5, 8, 12, 84] (js hX 5 (by simp [h3, h6, h9]; rfl) (jB (c:=(by apply ct_laws_eqFrameOut <;> first | assumption | omega | (simp <;> omega))) (a:=cb_laws_eqFrameOut) (k:=jr))) ?_)
                        refine jd (fun h28 => ?_) (fun h28 => ?_)
                        · try simp at h28
                          all_goals
                            refine jq [6] ?_
                            refine W_ret (je (by simp [h3, h6, h9, h28]; rfl) ?_)
                            first | omega | (simp_all; done) | (simp_all <;> omega)
                        · try simp at h28
                          all_goals
                            refine W_skip (jq [0, 4, 5, 8, 12, 14] ?_)
                            refine W_rseqK [0, 4, 5, 8, 12, 14] (js hX 2 (by simp [h3, h6, h9, h28]; rfl) (jc [10, 11] (c:=(by (try simp only [mapL_T, mapL_F, mapL_I, mapL_H, mapL_M, mapL_C]); apply ct_laws_markFrameOut (k := 1) <;> first | assumption | omega | (simp <;> omega))) (a:=cb_laws_markFrameOut) (k:=jr))) ?_
                            refine jq [0, 4, 5, 8, 12, 14, 15] ?_
                            refine W_rseqK [0, 4, 5, 8, 12, 14, 15] (js hX 2 (by simp [h3, h6, h9, h28]; rfl) (jB (c:=(by apply ct_laws_heldFrameOut (k := 1) <;> first | assumption | omega | (simp <;> omega))) (a:=cb_laws_heldFrameOut) (k:=jr))) ?_
                            refine W_seq (jq [0, 4, 5, 8, 12, 14, 15, 92] ?_)
                            refine jd (fun h34 => ?_) (fun h34 => ?_)
                            · try simp at h34
                              all_goals
                                refine jq [6] ?_
                                refine W_ret (je (by simp [h3, h6, h9, h28, h34]; rfl) ?_)
                                first | omega | (simp_all; done) | (simp_all <;> omega)
                            · try simp at h34
                              all_goals
                                refine W_skip (W_seq (jq [0, 4, 5, 8, 12, 14, 95] ?_))
                                refine jd (fun h36 => ?_) (fun h36 => ?_)
                                · try simp at h36
                                  all_goals
                                    refine jq [6] ?_
                                    refine W_ret (je (by simp [h3, h6, h9, h28, h34]; rfl) ?_)
                                    first | omega | (simp_all; done) | (simp_all <;> omega)
                                · try simp at h36
                                  all_goals
                                    refine W_skip (jK 8 [0, 2, 4] (.two 1 7 (.two 3 7 (.two 5 7 (.two 6 7 (.one 7 .tail) (.one 6 .tail)) (.one 5 (.one 6 .tail))) (.one 3 (.one 5 (.one 6 .tail)))) (.one 1 (.one 3 (.one 5 (.one 6 .tail))))) [8, 12, 14, 16] ([0, 1]) hX (by simp [h3, h6, h9, h28, h34]; rfl) (.two (jN (p:=fun X hX => (jF (c:=(by apply ct_laws_toClassS <;> first | assumption | omega | exact fun y hy => Nat.le_trans (mem_sum hy) (by omega))) (a:=cb_laws_toClassS) (k:=jf))) (k:=(.two (jN (p:=fun X hX => (jF (c:=(by apply ct_laws_toFrame <;> first | assumption | omega | exact fun y hy => Nat.le_trans (mem_sum hy) (by omega))) (a:=cb_laws_toFrame) (k:=jf))) (k:=(.two (jN (p:=fun X hX => (jF (c:=(by apply ct_laws_toFrame <;> first | assumption | omega | exact fun y hy => Nat.le_trans (mem_sum hy) (by omega))) (a:=cb_laws_toFrame) (k:=jf))) (k:=(.two (jN (p:=fun X hX => (jF (c:=(by apply ct_impl_FrameLub <;> first | assumption | omega | (simp <;> omega))) (a:=cb_impl_FrameLub) (k:=jf))) (k:=(jN (p:=fun X hX => jr) (k:=.tail)))) (jN (p:=fun X hX => jr) (k:=(jN (p:=fun X hX => (jF (c:=(by apply ct_impl_FrameLub <;> first | assumption | omega | (simp <;> omega))) (a:=cb_impl_FrameLub) (k:=jf))) (k:=.tail))))))) (jN (p:=fun X hX => jr) (k:=(jN (p:=fun X hX => (jF (c:=(by apply ct_laws_toFrame <;> first | assumption | omega | exact fun y hy => Nat.le_trans (mem_sum hy) (by omega))) (a:=cb_laws_toFrame) (k:=jf))) (k:=(jN (p:=fun X hX => (jF (c:=(by apply ct_impl_FrameLub <;> first | assumption | omega | (simp <;> omega))) (a:=cb_impl_FrameLub) (k:=jf))) (k:=.tail))))))))) (jN (p:=fun X hX => jr) (k:=(jN (p:=fun X hX => (jF (c:=(by apply ct_laws_toFrame <;> first | assumption | omega | exact fun y hy => Nat.le_trans (mem_sum hy) (by omega))) (a:=cb_laws_toFrame) (k:=jf))) (k:=(jN (p:=fun X hX => (jF (c:=(by apply ct_laws_toFrame <;> first | assumption | omega | exact fun y hy => Nat.le_trans (mem_sum hy) (by omega))) (a:=cb_laws_toFrame) (k:=jf))) (k:=(jN (p:=fun X hX => (jF (c:=(by apply ct_impl_FrameLub <;> first | assumption | omega | (simp <;> omega))) (a:=cb_impl_FrameLub) (k:=jf))) (k:=.tail))))))))))) (jN (p:=fun X hX => jr) (k:=(jN (p:=fun X hX => (jF (c:=(by apply ct_laws_toClassS <;> first | assumption | omega | exact fun y hy => Nat.le_trans (mem_sum hy) (by omega))) (a:=cb_laws_toClassS) (k:=jf))) (k:=(jN (p:=fun X hX => (jF (c:=(by apply ct_laws_toFrame <;> first | assumption | omega | exact fun y hy => Nat.le_trans (mem_sum hy) (by omega))) (a:=cb_laws_toFrame) (k:=jf))) (k:=(jN (p:=fun X hX => (jF (c:=(by apply ct_laws_toFrame <;> first | assumption | omega | exact fun y hy => Nat.le_trans (mem_sum hy) (by omega))) (a:=cb_laws_toFrame) (k:=jf))) (k:=(jN (p:=fun X hX => (jF (c:=(by apply ct_impl_FrameLub <;> first | assumption | omega | (simp <;> omega))) (a:=cb_impl_FrameLub) (k:=jf))) (k:=.tail))))))))))) (jh hX (by simp [h3, h6, h9, h28, h34]; rfl)) ?_)
                                    refine W_seq (W_rseqK [12, 14, 106] (js hX 2 (by simp [h3, h6, h9, h28, h34]; rfl) (jc [] (c:=(by apply ct_laws_eqFrameOut <;> first | assumption | omega | (simp <;> omega))) (a:=cb_laws_eqFrameOut) (k:=jr))) ?_)
                                    refine jd (fun h39 => ?_) (fun h39 => ?_)
                                    · try simp at h39
                                      all_goals
                                        refine jq [6] ?_
                                        refine W_ret (je (by simp [h3, h6, h9, h28, h34]; rfl) ?_)
                                        first | omega | (simp_all; done) | (simp_all <;> omega)
                                    · try simp at h39
                                      all_goals
                                        refine W_skip (jq [12, 14, 15] ?_)
                                        refine W_rseqK [14, 15] (js hX 2 (by simp [h3, h6, h9, h28, h34]; rfl) (jB (c:=(by apply ct_laws_heldFrameOut (k := 1) <;> first | assumption | omega | (simp <;> omega))) (a:=cb_laws_heldFrameOut) (k:=jr))) ?_
                                        refine W_seq (jq [14, 15, 111] ?_)
                                        refine jd (fun h43 => ?_) (fun h43 => ?_)
                                        · try simp at h43
                                          all_goals
                                            refine jq [6] ?_
                                            refine W_ret (je (by simp [h3, h6, h9, h28, h34, h43]; rfl) ?_)
                                            first | omega | (simp_all; done) | (simp_all <;> omega)
                                        · try simp at h43
                                          all_goals
                                            refine W_skip (W_seq (jq [114] ?_))
                                            refine jd (fun h45 => ?_) (fun h45 => ?_)
                                            · try simp at h45
                                              all_goals
                                                refine jq [6] ?_
                                                refine W_ret (je (by simp [h3, h6, h9, h28, h34, h43]; rfl) ?_)
                                                first | omega | (simp_all; done) | (simp_all <;> omega)
                                            · try simp at h45
                                              all_goals
                                                refine W_skip (jq [6] ?_)
                                                refine W_ret (je (by simp [h3, h6, h9, h28, h34, h43]; rfl) ?_)
                                                first | omega | (simp_all; done) | (simp_all <;> omega)
end Go.Proofs
namespace Go.Proofs
open Go Go.Ev

abbrev tcF : List Tc := [.str, .str, .bool]
abbrev tcI : List Tc := [.int .i64, .int .i64, .str, .str, .str]
abbrev tcH : List Tc := [.int .i64, .int .i64, .int .i64, .str]
abbrev tcM : List Tc := [.str, .str, .bool, .bool, .bool, .int .i64, .int .i64, .lst false tcI, .lst false tcH]
abbrev tcC : List Tc := [.str, .str, .bool, .bool, .lst false tcF, .lst false tcM]

theorem dec_list {α : Type} {enc : α → V} {Q : α → Prop} : ∀ {xs : List V}, (∀ x ∈ xs, ∃ a, x = enc a ∧ Q a) → ∃ l : List α, xs = l.map enc ∧ ∀ a ∈ l, Q a
  | [], _ => ⟨[], rfl, fun _ h => by cases h⟩
  | x :: xs, h => by
    obtain ⟨a, rfl, ha⟩ := h x (by simp)
    obtain ⟨l, rfl, hl⟩ := dec_list (enc := enc) (Q := Q) (xs := xs) fun y hy => h y (by simp [hy])
    exact ⟨a :: l, rfl, fun b hb => by
      rcases List.mem_cons.1 hb with rfl | hb
      · exact ha
      · exact hl b hb⟩

theorem okL_cons {c : Tc} {cs : List Tc} {vs : List V} (h : okL (c :: cs) vs) : ∃ v ws, vs = v :: ws ∧ okC c v ∧ okL cs ws := by
  cases vs with
  | nil => simp [okL] at h
  | cons v ws => exact ⟨v, ws, rfl, h⟩
theorem okL_nil {vs : List V} (h : okL [] vs) : vs = [] := by
  cases vs with
  | nil => rfl
  | cons v ws => simp [okL] at h
theorem okC_str {v : V} (h : okC .str v) : ∃ l, v = .str l ∧ l.length ≤ 140737488351232 := h
theorem okC_bool {v : V} (h : okC .bool v) : ∃ b, v = .bool b := h
theorem okC_int {v : V} (h : okC (.int .i64) v) : ∃ n, v = .int .i64 n ∧ -9223372036854775808 ≤ n ∧ n < 9223372036854775808 := by
  obtain ⟨n, rfl, hn⟩ := h
  refine ⟨n, rfl, ?_⟩
  simp [Lit.wf, IntKind.min, IntKind.max, IntKind.signed, IntKind.bits] at hn
  omega
theorem okC_lst {α : Type} {enc : α → V} {Q : α → Prop} {cs : List Tc} {v : V} (h : okC (.lst false cs) v) (hd : ∀ vs, okL cs vs → ∃ a, V.agg vs = enc a ∧ Q a) :
    ∃ l : List α, v = .lst false cs.length (l.map enc) ∧ l.length ≤ 140737488351232 ∧ ∀ a ∈ l, Q a := by
  obtain ⟨xs, rfl, hl, hx⟩ := h
  obtain ⟨l, rfl, hq⟩ := dec_list (enc := enc) (Q := Q) (xs := xs) fun x hx' => by
    have := hx x hx'
    simp only [Bool.false_eq_true, if_false] at this
    obtain ⟨vs, rfl, hv⟩ := this
    exact hd vs hv
  exact ⟨l, rfl, by rw [List.length_map] at hl; exact hl, hq⟩

theorem decF {vs : List V} (h : okL tcF vs) : ∃ x : Fld, V.agg vs = eF x ∧ bigF x := by
  obtain ⟨_, _, rfl, h0, h⟩ := okL_cons h
  obtain ⟨_, _, rfl, h1, h⟩ := okL_cons h
  obtain ⟨_, _, rfl, h2, h⟩ := okL_cons h
  obtain rfl := okL_nil h
  obtain ⟨a, rfl, ha⟩ := okC_str h0
  obtain ⟨b, rfl, hb⟩ := okC_str h1
  obtain ⟨c, rfl⟩ := okC_bool h2
  exact ⟨⟨a, b, c⟩, rfl, by simp only [bigF]; omega⟩

theorem decI {vs : List V} (h : okL tcI vs) : ∃ x : Ins, V.agg vs = eI x ∧ bigI x := by
  obtain ⟨_, _, rfl, h0, h⟩ := okL_cons h
  obtain ⟨_, _, rfl, h1, h⟩ := okL_cons h
  obtain ⟨_, _, rfl, h2, h⟩ := okL_cons h
  obtain ⟨_, _, rfl, h3, h⟩ := okL_cons h
  obtain ⟨_, _, rfl, h4, h⟩ := okL_cons h
  obtain rfl := okL_nil h
  obtain ⟨a, rfl, ha⟩ := okC_int h0
  obtain ⟨b, rfl, hb⟩ := okC_int h1
  obtain ⟨c, rfl, hc⟩ := okC_str h2
  obtain ⟨d, rfl, hd⟩ := okC_str h3
  obtain ⟨e, rfl, he⟩ := okC_str h4
  exact ⟨⟨a, b, c, d, e⟩, rfl, by simp only [bigI]; omega⟩

theorem decH {vs : List V} (h : okL tcH vs) : ∃ x : Hdl, V.agg vs = eH x ∧ bigH x := by
  obtain ⟨_, _, rfl, h0, h⟩ := okL_cons h
  obtain ⟨_, _, rfl, h1, h⟩ := okL_cons h
  obtain ⟨_, _, rfl, h2, h⟩ := okL_cons h
  obtain ⟨_, _, rfl, h3, h⟩ := okL_cons h
  obtain rfl := okL_nil h
  obtain ⟨a, rfl, ha⟩ := okC_int h0
  obtain ⟨b, rfl, hb⟩ := okC_int h1
  obtain ⟨c, rfl, hc⟩ := okC_int h2
  obtain ⟨d, rfl, hd⟩ := okC_str h3
  exact ⟨⟨a, b, c, d⟩, rfl, by simp only [bigH]; omega⟩

theorem decM {vs : List V} (h : okL tcM vs) : ∃ x : Mth, V.agg vs = eM x ∧ bigM x := by
  obtain ⟨_, _, rfl, h0, h⟩ := okL_cons h
  obtain ⟨_, _, rfl, h1, h⟩ := okL_cons h
  obtain ⟨_, _, rfl, h2, h⟩ := okL_cons h
  obtain ⟨_, _, rfl, h3, h⟩ := okL_cons h
  obtain ⟨_, _, rfl, h4, h⟩ := okL_cons h
  obtain ⟨_, _, rfl, h5, h⟩ := okL_cons h
  obtain ⟨_, _, rfl, h6, h⟩ := okL_cons h
  obtain ⟨_, _, rfl, h7, h⟩ := okL_cons h
  obtain ⟨_, _, rfl, h8, h⟩ := okL_cons h
  obtain rfl := okL_nil h
  obtain ⟨a, rfl, ha⟩ := okC_str h0
  obtain ⟨b, rfl, hb⟩ := okC_str h1
  obtain ⟨c, rfl⟩ := okC_bool h2
  obtain ⟨d, rfl⟩ := okC_bool h3
  obtain ⟨e, rfl⟩ := okC_bool h4
  obtain ⟨f, rfl, _⟩ := okC_int h5
  obtain ⟨g, rfl, _⟩ := okC_int h6
  obtain ⟨i, rfl, hi, hi2⟩ := okC_lst h7 fun vs => decI
  obtain ⟨j, rfl, hj, hj2⟩ := okC_lst h8 fun vs => decH
  exact ⟨⟨a, b, c, d, e, f, g, i, j⟩, rfl, by simp only [bigM]; exact ⟨by omega, by omega, by omega, hi2, by omega, hj2⟩⟩

theorem decC {vs : List V} (h : okL tcC vs) : ∃ x : Cls, V.agg vs = eC x ∧ bigC x := by
  obtain ⟨_, _, rfl, h0, h⟩ := okL_cons h
  obtain ⟨_, _, rfl, h1, h⟩ := okL_cons h
  obtain ⟨_, _, rfl, h2, h⟩ := okL_cons h
  obtain ⟨_, _, rfl, h3, h⟩ := okL_cons h
  obtain ⟨_, _, rfl, h4, h⟩ := okL_cons h
  obtain ⟨_, _, rfl, h5, h⟩ := okL_cons h
  obtain rfl := okL_nil h
  obtain ⟨a, rfl, ha⟩ := okC_str h0
  obtain ⟨b, rfl, hb⟩ := okC_str h1
  obtain ⟨c, rfl⟩ := okC_bool h2
  obtain ⟨d, rfl⟩ := okC_bool h3
  obtain ⟨i, rfl, hi, hi2⟩ := okC_lst h4 fun vs => decF
  obtain ⟨j, rfl, hj, hj2⟩ := okC_lst h5 fun vs => decM
  exact ⟨⟨a, b, c, d, i, j⟩, rfl, by simp only [bigC]; exact ⟨by omega, by omega, by omega, hi2, by omega, hj2⟩⟩

/-- arguments, one by one -/
theorem okA_cons {x : Bool × List Tc} {r : List (Bool × List Tc)} {vs : List V} (h : okA (x :: r) vs) : ∃ v ws, vs = v :: ws ∧ (if x.1 = true then okL x.2 [v] else ∃ us, v = .agg us ∧ okL x.2 us) ∧ okA r ws := by
  cases vs with
  | nil => simp [okA] at h
  | cons v ws => exact ⟨v, ws, rfl, h⟩
theorem okA_nil {vs : List V} (h : okA [] vs) : vs = [] := by
  cases vs with
  | nil => rfl
  | cons v ws => simp [okA] at h
abbrev aC : Bool × List Tc := (true, [.lst false tcC])
abbrev aS : Bool × List Tc := (true, [.str])
theorem okA_C {r : List (Bool × List Tc)} {vs : List V} (h : okA (aC :: r) vs) : ∃ (l : List Cls) (ws : List V), vs = .lst false 6 (l.map eC) :: ws ∧ l.length < 4611686018427387904 ∧ (∀ y ∈ l, bigC y) ∧ okA r ws := by
  obtain ⟨v, ws, rfl, h1, h2⟩ := okA_cons h
  simp only [if_true] at h1
  obtain ⟨l, rfl, hl, hq⟩ := okC_lst h1.1 fun vs => decC
  exact ⟨l, ws, rfl, by omega, hq, h2⟩
theorem okA_S {r : List (Bool × List Tc)} {vs : List V} (h : okA (aS :: r) vs) : ∃ (l : Str) (ws : List V), vs = .str l :: ws ∧ l.length < 4611686018427387904 ∧ okA r ws := by
  obtain ⟨v, ws, rfl, h1, h2⟩ := okA_cons h
  simp only [if_true] at h1
  obtain ⟨l, rfl, hl⟩ := okC_str h1.1
  exact ⟨l, ws, rfl, by omega, h2⟩
end Go.Proofs
namespace Go.Proofs
open Go Go.Ev
abbrev tcT : List Tc := [.int .i64, .str, .int .i64]
theorem decT {vs : List V} (h : okL tcT vs) : ∃ x : Typ, V.agg vs = eT x ∧ bigT x := by
  obtain ⟨_, _, rfl, h0, h⟩ := okL_cons h
  obtain ⟨_, _, rfl, h1, h⟩ := okL_cons h
  obtain ⟨_, _, rfl, h2, h⟩ := okL_cons h
  obtain rfl := okL_nil h
  obtain ⟨a, rfl, _⟩ := okC_int h0
  obtain ⟨b, rfl, hb⟩ := okC_str h1
  obtain ⟨c, rfl, _⟩ := okC_int h2
  exact ⟨⟨a, b, c⟩, rfl, by simp only [bigT]; omega⟩
abbrev aT : Bool × List Tc := (false, tcT)
theorem okA_T {r : List (Bool × List Tc)} {vs : List V} (h : okA (aT :: r) vs) : ∃ (t : Typ) (ws : List V), vs = eT t :: ws ∧ bigT t ∧ okA r ws := by
  obtain ⟨v, ws, rfl, h1, h2⟩ := okA_cons h
  simp only [Bool.false_eq_true, if_false] at h1
  obtain ⟨us, rfl, h1⟩ := h1
  obtain ⟨t, e, hb⟩ := decT h1
  exact ⟨t, ws, by rw [e], hb, h2⟩
end Go.Proofs
namespace Go.Proofs
open Go Go.Ev
abbrev tcFr : List Tc := [.lst false tcT, .lst false tcT]
theorem decFr {vs : List V} (h : okL tcFr vs) : ∃ x : Frm, V.agg vs = eFr x ∧ bigFr x := by
  obtain ⟨_, _, rfl, h0, h⟩ := okL_cons h
  obtain ⟨_, _, rfl, h1, h⟩ := okL_cons h
  obtain rfl := okL_nil h
  obtain ⟨i, rfl, hi, hi2⟩ := okC_lst h0 fun vs => decT
  obtain ⟨j, rfl, hj, hj2⟩ := okC_lst h1 fun vs => decT
  exact ⟨⟨i, j⟩, rfl, by simp only [bigFr]; exact ⟨by omega, hi2, by omega, hj2⟩⟩
abbrev aF : Bool × List Tc := (false, tcFr)
theorem okA_F {r : List (Bool × List Tc)} {vs : List V} (h : okA (aF :: r) vs) : ∃ (t : Frm) (ws : List V), vs = eFr t :: ws ∧ bigFr t ∧ okA r ws := by
  obtain ⟨v, ws, rfl, h1, h2⟩ := okA_cons h
  simp only [Bool.false_eq_true, if_false] at h1
  obtain ⟨us, rfl, h1⟩ := h1
  obtain ⟨t, e, hb⟩ := decFr h1
  exact ⟨t, ws, by rw [e], hb, h2⟩
abbrev aI : Bool × List Tc := (true, [.int .i64])
theorem okA_I {r : List (Bool × List Tc)} {vs : List V} (h : okA (aI :: r) vs) : ∃ (n : Int) (ws : List V), vs = .int .i64 n :: ws ∧ (-9223372036854775808 ≤ n ∧ n < 9223372036854775808) ∧ okA r ws := by
  obtain ⟨v, ws, rfl, h1, h2⟩ := okA_cons h
  simp only [if_true] at h1
  obtain ⟨n, rfl, hn⟩ := okC_int h1.1
  exact ⟨n, ws, rfl, hn, h2⟩
end Go.Proofs
namespace Go.Proofs.YtfannbjeleonkaaGreat
open Go Go.Ev Go.Proofs Go.RowKit Go.ChangeShapes Go.WideShapes
theorem s_k1 : ownKnob Tryz.checked.prog.godebug = none := by kernel_rfl
theorem s_h2 : laidOutB Tryz.checked.prog = true := by kernel_rfl
theorem s_h3 : mapsRowed Tryz.checked.prog = true := by kernel_rfl
theorem s_h6 : ((Rows.fnExactCommonOfRow.stops == []) && (Tryz.checked.prog.stops == []) && (Rows.fnExactCommonOfRow.knobs == []) && (Tryz.checked.prog.stopKnobs == [])) = true := by kernel_rfl
theorem s_h20 : (Rows.fnExactCommonOfRow.plainKeys == Tryz.checked.prog.plainKeys) = true := by kernel_rfl
theorem s_h21 : (Rows.fnExactCommonOfRow.shortTexts.isNone && Tryz.checked.prog.stopsHeard) = true := by kernel_rfl
theorem s_h21b : Tryz.checked.prog.mayEnter = true := by kernel_rfl
theorem s_h22 : (Rows.fnExactCommonOfRow.lifted == Tryz.checked.prog.liftsFinal) = true := by kernel_rfl
theorem s_h23 : (Tryz.checked.prog.make == some Rows.fnExactCommonOfRow.make) = true := by kernel_rfl
end Go.Proofs.YtfannbjeleonkaaGreat
