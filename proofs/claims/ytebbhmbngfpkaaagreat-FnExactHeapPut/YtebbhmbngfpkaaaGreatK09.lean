/- Part 10 of what the proofs lean on: what the functions of the program and of the reference compute. Conditions: none. -/
import Derived.Test.YtebbhmbngfpkaaaGreatK08
set_option linter.all false
set_option linter.unusedVariables false
set_option linter.unusedSimpArgs false
set_option maxHeartbeats 2000000
set_option maxRecDepth 100000
namespace Go.Proofs
open Go Go.Ev


theorem cb_spec_l10Obj : Callable Tryz.prog 124 := ⟨_, Tryz.func124, by kernel_rfl, by kernel_rfl⟩
theorem ct_spec_l10Obj {l : List Cls} (hs : sizeL l ≤ 1048576) (hw : rightW l = true) {o : HOb} {m : Nat} (ho : o.vals.length ≤ 1099511627776) : Ct Tryz.prog 124 [.lst false 6 (l.map eC), eOb o, .int .i64 m] [] (.bool (obR l m o)) [] := by
  have hll : l.length ≤ 1099511627776 := by unfold sizeL at hs; omega
  cases hk : isKnown l o.cls
  all_goals
    refine Ct_bodyS tok Tryz.func124 rfl 95 (by kernel_rfl) (by kernel_rfl) fun X hX => ?_
    refine W_rseqK [0, 2, 4] (jh hX (by simp [hk]; rfl)) ?_
    refine W_seq (W_rseqK [0, 2, 4, 7] (jh hX (by simp [hk]; rfl)) ?_)
    refine W_block (W_loopU (α := Nat) [0, 2, 4, 7] (fun i => [(7, .int .i64 i)]) (fun i => []) (fun i => i ≤ o.vals.length ∧ (o.vals.drop i).all (fun v => valR m v && fits o.kind v) = o.vals.all (fun v => valR m v && fits o.kind v)) (fun i => o.vals.length - i) (0) (fun i => by simp; rfl) (by simp) ?_ ?_)
    · simp
    rintro i ⟨hi, hI⟩
    refine W_seq (W_rseqK [0, 2, 4, 7, 13] (jh hX (by simp [hk]; rfl)) ?_)
    refine jd (fun h2 => ?_) (fun h2 => ?_)
    · try simp at h2
      rw [all_drop h2] at hI
      refine W_skip (W_seq (W_block (W_rseqK [0, 2, 4, 7, 8] (jh hX (by simp [h2, hk]; rfl)) ?_)))
      refine W_rseqK [0, 2, 4, 7, 44] (js hX 2 (by simp [h2, hk]; rfl) (Runs.call [] rfl (by simp) rfl (by simp [hk]; rfl) (by simp; rfl) (by apply ct_spec_l10Val <;> first | assumption | omega) cb_spec_l10Val (by simp) (by simp) (by simp [hk]; rfl) (js hX 2 (by simp [hk]; rfl) (jm 9 25 [0, 2, 4, 7, 8, 34] (p:=fun b5_5 => by (try simp at b5_5); exact (jh hX (by simp [-atD_lt, -atL_lt, hk]; rfl))) (q:=fun b5_5 => by (try simp at b5_5); exact (js hX 4 (by simp [-atD_lt, -atL_lt, h2, hk]; rfl) (jm 4 29 [0, 2, 4, 7, 8, 25, 33] (p:=fun b5_9 => by (try simp at b5_9); exact (jh hX (by simp [-atD_lt, -atL_lt, h2, hk]; rfl))) (q:=fun b5_9 => by (try simp at b5_9); exact (jh hX (by simp [-atD_lt, -atL_lt, hk]; rfl))) (k:=(jh hX (by simp [-atD_lt, -atL_lt, hk]; rfl)))))) (k:=(js hX 1 (by simp [hk]; rfl) (jm 9 35 [0, 2, 4, 7, 44] (p:=fun b5_15 => by (try simp at b5_15); exact (jh hX (by simp [-atD_lt, -atL_lt, hk]; rfl))) (q:=fun b5_15 => by (try simp at b5_15); exact (js hX 4 (by simp [-atD_lt, -atL_lt, h2, hk]; rfl) (jm 4 39 [0, 2, 4, 7, 35, 43] (p:=fun b5_19 => by (try simp at b5_19); exact (jh hX (by simp [-atD_lt, -atL_lt, h2, hk]; rfl))) (q:=fun b5_19 => by (try simp at b5_19); exact (jh hX (by simp [-atD_lt, -atL_lt, hk]; rfl))) (k:=(jh hX (by simp [-atD_lt, -atL_lt, hk]; rfl)))))) (k:=jf)))))))) ?_
      refine jd (fun h5 => ?_) (fun h5 => ?_)
      · try simp at h5
        refine W_rseqK [6] (jh hX (by simp [hk]; rfl)) ?_
        refine W_ret (je (by simp [h2, hk]; rfl) ?_)
        have hb : (valR m o.vals[i] && fits o.kind o.vals[i]) = false := by unfold fits; grind
        rw [obR, ← hI, hb]; rfl
      · try simp at h5
        have hb : (valR m o.vals[i] && fits o.kind o.vals[i]) = true := by unfold fits; grind
        rw [hb, Bool.true_and] at hI
        refine W_skip (W_reg (jh hX (by simp [hk]; (try (simp (disch := omega) only [wrap_i64]; (try simp [hk]))); rfl)) ?_)
        refine round_endT (i + 1) [0, 2, 4, 7] 1 (by simp [hX]) (by simp) (by simp [h2]; try (simp (disch := omega) only [wrap_i64])) ?_ ?_
        · exact ⟨by omega, hI⟩
        · omega
    · try simp at h2
      rw [List.drop_eq_nil_of_le (by omega)] at hI
      refine W_exit (W_seq (W_rseqK [0, 4, 46] (jh hX (by simp [h2, hk]; rfl)) ?_))
      refine W_block (W_rseqK [0, 4, 46, 47] (jh hX (by simp [hk]; rfl)) ?_)
      refine jd (fun h8 => ?_) (fun h8 => ?_)
      · try simp at h8
        first | (refine jI 13 [.pur 0, .pur 1, .pur 2, .one 3, .pur 4, .pur 5, .pur 6, .pur 7, .pur 8, .pur 9, .pur 10, .one 11, .pur 12] [6] [0] hX (jU [0, 1, 2] [.one 3, .pur 4, .pur 5, .pur 6, .pur 7, .pur 8, .pur 9, .pur 10, .one 11, .pur 12] (by simp [h2, hk]; rfl) (jO 3 (p:=fun X hX => (Runs.call [] rfl (by simp) rfl (by simp [hk]; rfl) (by simp; rfl) (by apply ct_spec_l05Known <;> first | assumption | omega) cb_spec_l05Known (by simp) (by simp) (by simp [hk]; rfl) jf)) (k:=(jU [4, 5, 6, 7, 8, 9, 10] [.one 11, .pur 12] (by simp [h2, hk]; rfl) (jO 11 (p:=fun X hX => (Runs.call [] rfl (by simp) rfl (by simp [hk]; rfl) (by simp; rfl) (by apply ct_spec_l05Fields <;> first | assumption | omega) cb_spec_l05Fields (by simp) (by simp) (by simp [hk]; rfl) jf)) (k:=(jU [12] [] (by simp [h2, hk]; rfl) .nil))))))) (jh hX (by simp [hk]; rfl)) ?_) | (refine jI 13 [.pur 0, .pur 1, .pur 2, .one 3, .pur 4, .pur 5, .pur 6, .pur 7, .pur 8, .pur 9, .pur 10, .pur 11, .pur 12] [6] [0] hX (jU [0, 1, 2] [.one 3, .pur 4, .pur 5, .pur 6, .pur 7, .pur 8, .pur 9, .pur 10, .pur 11, .pur 12] (by simp [h2, hk]; rfl) (jO 3 (p:=fun X hX => (Runs.call [] rfl (by simp) rfl (by simp [hk]; rfl) (by simp; rfl) (by apply ct_spec_l05Known <;> first | assumption | omega) cb_spec_l05Known (by simp) (by simp) (by simp [hk]; rfl) jf)) (k:=(jU [4, 5, 6, 7, 8, 9, 10, 11, 12] [] (by simp [h2, hk]; rfl) .nil)))) (jh hX (by simp [hk]; rfl)) ?_)
        refine W_ret (je (by simp [h2, hk]; rfl) ?_)
        rw [obR, ← hI]; unfold obK; simp [h8, hk]
      · try simp at h8
        refine W_rseqK [0, 4, 46, 64] (jh hX (by simp [hk]; rfl)) ?_
        refine jd (fun h10 => ?_) (fun h10 => ?_)
        · try simp at h10
          refine W_rseqK [6] (js hX 4 (by simp [h2, hk]; rfl) (jm 3 69 [4, 72] (p:=fun b11_4 => by (try simp at b11_4); exact (jh hX (by simp [-atD_lt, -atL_lt, h2, hk]; rfl))) (q:=fun b11_4 => by (try simp at b11_4); exact (jh hX (by simp [-atD_lt, -atL_lt, hk]; rfl))) (k:=(js hX 1 (by simp [hk]; rfl) (jm 5 73 [78] (p:=fun b11_8 => by (try simp at b11_8); exact (jh hX (by simp [-atD_lt, -atL_lt, h2, hk]; rfl))) (q:=fun b11_8 => by (try simp at b11_8); exact (jh hX (by simp [-atD_lt, -atL_lt, hk]; rfl))) (k:=(jh hX (by simp [hk]; rfl)))))))) ?_
          refine W_ret (je (by simp [h2, hk]; rfl) ?_)
          rw [obR, ← hI]; unfold obK; simp [h10]; grind
        · try simp at h10
          refine W_rseqK [0, 4, 79] (jh hX (by simp [hk]; rfl)) ?_
          refine jd (fun h12 => ?_) (fun h12 => ?_)
          · try simp at h12
            first | (refine W_rseqK [6] (js hX 3 (by simp [h2, hk]; rfl) (Runs.call [] rfl (by simp) rfl (by simp [hk]; rfl) (by simp; rfl) (by apply ct_spec_l05Known <;> first | assumption | omega) cb_spec_l05Known (by simp) (by simp) (by simp [hk]; rfl) (js hX 5 (by simp [h2, hk]; rfl) (jm 5 89 [94] (p:=fun b13_9 => by (try simp at b13_9); exact (jh hX (by simp [-atD_lt, -atL_lt, h2, hk]; rfl))) (q:=fun b13_9 => by (try simp at b13_9); exact (jh hX (by simp [-atD_lt, -atL_lt, hk]; rfl))) (k:=(jh hX (by simp [hk]; rfl))))))) ?_) | (refine W_rseqK [6] (js hX 3 (by simp [h2, hk]; rfl) (Runs.call [] rfl (by simp) rfl (by simp [hk]; rfl) (by simp; rfl) (by apply ct_spec_l05Known <;> first | assumption | omega) cb_spec_l05Known (by simp) (by simp) (by simp [hk]; rfl) (jh hX (by simp [hk]; rfl)))) ?_)
            refine W_ret (je (by simp [h2, hk]; rfl) ?_)
            rw [obR, ← hI]; unfold obK; simp [h12, hk]; try grind
          · try simp at h12
            refine W_skip (W_rseqK [6] (jh hX (by simp [hk]; rfl)) ?_)
            refine W_ret (je (by simp [h2, hk]; rfl) ?_)
            rw [obR, ← hI]; unfold obK; rw [if_neg h8, if_neg h10, if_neg h12, Bool.and_false]
end Go.Proofs
namespace Go.Proofs
open Go Go.Ev


theorem cb_spec_l10Right : Callable Tryz.prog 74 := ⟨_, Tryz.func74, by kernel_rfl, by kernel_rfl⟩
theorem ct_spec_l10Right {l : List Cls} (hs : sizeL l ≤ 1048576) (hw : rightW l = true) {h : Hep} (ho : sizeHp h ≤ 1048576) : Ct Tryz.prog 74 [.lst false 6 (l.map eC), eHp h] [] (.bool (hpR l h)) [] := by
  have hoo : ∀ {i : Nat} (hi : i < h.objs.length), h.objs[i].vals.length ≤ 1099511627776 := fun hi => by
    have := Nat.le_trans (sizeHp_at hi) ho
    unfold sizeOb at this; omega
  have hll : h.objs.length ≤ 1048576 := by unfold sizeHp at ho; omega
  refine Ct_bodyS tok Tryz.func74 rfl 80 (by kernel_rfl) (by kernel_rfl) fun X hX => ?_
  refine W_rseqK [0, 3] (jh hX (by simp [builtIn_length, six_L]; rfl)) ?_
  refine W_rseqK [0, 3, 5] (jh hX (by simp [builtIn_length, six_L]; rfl)) ?_
  refine W_seq (W_rseqK [0, 3, 5, 28] (js hX 3 (by simp [builtIn_length, six_L]; rfl) (jm 3 13 [0, 3, 5, 16] (p:=fun b2_3 => by (try simp at b2_3); exact (jh hX (by simp [-atD_lt, -atL_lt, builtIn_length, six_L]; rfl))) (q:=fun b2_3 => by (try simp at b2_3); exact (jh hX (by simp [-atD_lt, -atL_lt, builtIn_length, six_L]; rfl))) (k:=(js hX 1 (by simp [builtIn_length, six_L]; rfl) (jm 4 17 [0, 3, 5, 21] (p:=fun b2_7 => by (try simp at b2_7); exact (jh hX (by simp [-atD_lt, -atL_lt, builtIn_length, six_L]; rfl))) (q:=fun b2_7 => by (try simp at b2_7); exact (jh hX (by simp [-atD_lt, -atL_lt, b2_7, builtIn_length, six_L]; rfl))) (k:=(js hX 1 (by simp [builtIn_length, six_L]; rfl) (jm 6 22 [0, 3, 5, 28] (p:=fun b2_12 => by (try simp at b2_12); exact (jh hX (by simp [-atD_lt, -atL_lt, builtIn_length, six_L]; rfl))) (q:=fun b2_12 => by (try simp at b2_12); exact (jh hX (by simp [-atD_lt, -atL_lt, b2_12, builtIn_length, six_L]; (try (simp (disch := omega) only [wrap_i64]; (try simp [-atD_lt, -atL_lt, b2_12, builtIn_length, six_L]))); rfl))) (k:=jf))))))))) ?_)
  refine jd (fun h2 => ?_) (fun h2 => ?_)
  · try simp at h2
    refine W_rseqK [4] (jh hX (by simp [builtIn_length, six_L]; rfl)) ?_
    refine W_ret (je (by simp [h2, builtIn_length, six_L]; rfl) ?_)
    have : hpN h = false := by unfold hpN; grind
    rw [hpR, this]; rfl
  · try simp at h2
    have hN : hpN h = true := by unfold hpN; grind
    refine W_skip (W_rseqK [0, 3, 5, 6] (Runs.callF rfl (by simp) rfl (by simp [builtIn_length, six_L]; rfl) (by apply ct_spec_BuiltIn <;> first | assumption | omega | exact hoo h6) cb_spec_BuiltIn (by simp [builtIn_length, six_L]; rfl) (jh hX (by simp [builtIn_length, six_L]; rfl))) ?_)
    refine W_seq (W_rseqK [0, 3, 5, 6, 7] (jh hX (by simp [builtIn_length, six_L]; rfl)) ?_)
    refine W_block (W_loopU (α := Nat) [0, 3, 5, 6, 7] (fun i => [(7, .int .i64 i)]) (fun i => []) (fun i => i ≤ h.objs.length ∧ hpFrom l h.objs.length i (h.objs.drop i) = hpFrom l h.objs.length 0 h.objs) (fun i => h.objs.length - i) (0) (fun i => by simp; rfl) (by simp) ?_ ?_)
    · simp
    rintro i ⟨hi, hI⟩
    refine W_seq (W_rseqK [0, 3, 5, 6, 7, 32] (jh hX (by simp [builtIn_length, six_L]; rfl)) ?_)
    refine jd (fun h6 => ?_) (fun h6 => ?_)
    · try simp at h6
      rw [hpFrom_drop h6, ← Bool.and_assoc] at hI
      refine W_skip (W_seq (W_block (jD [0, 3, 5, 6, 7, 79] (jS 7 (by simp [h2, h6, builtIn_length, six_L]; rfl) (jC (c:=by apply ct_spec_l10Obj <;> first | assumption | omega | exact hoo h6) (a:=cb_spec_l10Obj) (k:=(jS 2 (by simp [builtIn_length, six_L]; rfl) (jM 35 44 [0, 3, 5, 6, 7, 79] (p:=fun b8_10 => by (try simp at b8_10); exact (jQ (by simp [-atD_lt, -atL_lt, builtIn_length, six_L]; rfl))) (q:=fun b8_10 => by (try simp at b8_10); exact (jS 3 (by simp [-atD_lt, -atL_lt, builtIn_length, six_L]; rfl) (jM 31 47 [0, 3, 5, 6, 7, 44, 78] (p:=fun b8_13 => by (try simp at b8_13); exact (jS 8 (by simp [-atD_lt, -atL_lt, h2, h6, b8_13, builtIn_length, six_L]; rfl) (jM 13 55 [0, 3, 5, 6, 7, 44, 47, 68] (p:=fun b8_21 => by (try simp at b8_21); exact (jQ (by simp [-atD_lt, -atL_lt, builtIn_length, six_L]; rfl))) (q:=fun b8_21 => by (try simp at b8_21); (have hx : ((i : Int) + 2).toNat = i + 2 := (by omega); have hy : (i : Int) + 2 < 8 := (by omega); have hz : i < 6 := (by omega)); exact (jQ (by simp [-atD_lt, -atL_lt, h2, h6, b8_13, hx, hy, hz, builtIn_length, six_L]; (try (simp (disch := omega) only [wrap_i64]; (try simp [-atD_lt, -atL_lt, h2, h6, b8_13, hx, hy, hz, builtIn_length, six_L]))); rfl))) (k:=(jS 1 (by simp [-atD_lt, -atL_lt, builtIn_length, six_L]; rfl) (jM 8 69 [0, 3, 5, 6, 7, 44, 47, 77] (p:=fun b8_35 => by (try simp at b8_35); exact (jQ (by simp [-atD_lt, -atL_lt, builtIn_length, six_L]; rfl))) (q:=fun b8_35 => by (try simp at b8_35); exact (jQ (by simp [-atD_lt, -atL_lt, h2, h6, b8_13, builtIn_length, six_L]; rfl))) (k:=(jQ (by simp [-atD_lt, -atL_lt, builtIn_length, six_L]; rfl))))))))) (q:=fun b8_13 => by (try simp at b8_13); exact (jQ (by simp [-atD_lt, -atL_lt, builtIn_length, six_L]; rfl))) (k:=(jQ (by simp [-atD_lt, -atL_lt, builtIn_length, six_L]; rfl)))))) (k:=(RunsQ.fin (by (try simp); rfl)))))))) ?_)))
      refine jd (fun h8 => ?_) (fun h8 => ?_)
      · try simp at h8
        refine W_rseqK [4] (jh hX (by simp [builtIn_length, six_L]; rfl)) ?_
        refine W_ret (je (by simp [h2, h6, h8, builtIn_length, six_L]; rfl) ?_)
        simp only [atL_lt h6] at h8
        have hb : (obR l h.objs.length h.objs[i] && sixOK i h.objs[i]) = false := by unfold sixOK; grind
        rw [hpR, ← hI, hb]; simp
      · try simp at h8
        simp only [atL_lt h6] at h8
        have hb : (obR l h.objs.length h.objs[i] && sixOK i h.objs[i]) = true := by unfold sixOK; grind
        rw [hb, Bool.true_and] at hI
        refine W_skip (W_reg (jh hX (by simp [builtIn_length, six_L]; (try (simp (disch := omega) only [wrap_i64]; (try simp [builtIn_length, six_L]))); rfl)) ?_)
        refine round_end (i + 1) [0, 3, 5, 6, 7] (by simp [h2, h6, h8]; try (simp (disch := omega) only [wrap_i64])) ?_ ?_
        · exact ⟨by omega, hI⟩
        · omega
    · try simp at h6
      rw [List.drop_eq_nil_of_le (by omega)] at hI
      refine W_exit (W_rseqK [4] (jh hX (by simp [builtIn_length, six_L]; rfl)) ?_)
      refine W_ret (je (by simp [h2, h6, builtIn_length, six_L]; rfl) ?_)
      rw [hpR, hN, ← hI]; rfl
end Go.Proofs
namespace Go.Proofs
open Go Go.Ev


theorem cb_spec_HeapRight : Callable Tryz.prog 35 := ⟨_, Tryz.func35, by kernel_rfl, by kernel_rfl⟩
theorem ct_spec_HeapRight {l : List Cls} (hs : sizeL l ≤ 1048576) {h : Hep} (ho : sizeHp h ≤ 1048576) : Ct Tryz.prog 35 [.lst false 6 (l.map eC), eHp h] [] (.bool (hpRightW l h)) [] := by
  have hl2 : sizeL l ≤ 1099511627776 := by omega
  have hll : l.length ≤ 1099511627776 := by unfold sizeL at hs; omega
  refine Ct_bodyS tok Tryz.func35 rfl 12 (by kernel_rfl) (by kernel_rfl) fun X hX => ?_
  refine jq [0, 3] ?_
  refine W_rseqK [4] (jt 1 (k:=(jc [] (c:=(by apply ct_spec_l05Right <;> first | assumption | omega | simp_all)) (a:=cb_spec_l05Right) (k:=(jt 1 (k:=(jm 4 7 [11] (p:=fun b1_3 => by (try simp at b1_3); exact (js hX 2 (by simp [-atD_lt, -atL_lt]; rfl) (Runs.call [] rfl (by simp) rfl (by simp [-atD_lt, -atL_lt]; rfl) (by simp; rfl) (by apply ct_spec_l10Right <;> first | assumption | omega | simp_all) cb_spec_l10Right (by simp) (by simp) (by simp [-atD_lt, -atL_lt]; rfl) (jh hX (by simp [-atD_lt, -atL_lt]; rfl))))) (q:=fun b1_3 => by (try simp at b1_3); exact (jh hX (by simp [-atD_lt, -atL_lt]; rfl))) (k:=jr)))))))) ?_
  refine W_ret (je0 ?_)
  simp [hpRightW]
end Go.Proofs
namespace Go.Proofs
open Go Go.Ev


theorem cb_spec_l10Place : Callable Tryz.prog 36 := ⟨_, Tryz.func36, by kernel_rfl, by kernel_rfl⟩
theorem ct_spec_l10Place_c1 {h : Hep} {a p : Int} (k1 : ¬ 1 ≤ a) : Ct Tryz.prog 36 [eHp h, .int .i64 a, .int .i64 p] [] (.bool false) [] := by
  refine Ct_bodyS tok Tryz.func36 rfl 32 (by kernel_rfl) (by kernel_rfl) fun X hX => ?_
  refine W_rseqK [1, 2, 3] (jh hX (by simp [k1]; rfl)) ?_
  first | (refine W_rseqK [6] (jh hX (by simp [k1]; rfl)) ?_)
  refine W_ret (je (by simp [k1]; rfl) ?_)
  rfl
theorem ct_spec_l10Place_c2 {h : Hep} {a p : Int} (k1 : 1 ≤ a) (k2 : ¬ a ≤ (h.objs.length : Int)) : Ct Tryz.prog 36 [eHp h, .int .i64 a, .int .i64 p] [] (.bool false) [] := by
  refine Ct_bodyS tok Tryz.func36 rfl 32 (by kernel_rfl) (by kernel_rfl) fun X hX => ?_
  refine W_rseqK [1, 2, 3] (jh hX (by simp [k1, k2]; rfl)) ?_
  first | (refine W_rseqK [6] (jh hX (by simp [k1, k2]; rfl)) ?_)
  refine W_ret (je (by simp [k1, k2]; rfl) ?_)
  rfl
theorem ct_spec_l10Place_c3 {h : Hep} {j : Nat} {p : Int} (ho : sizeHp h ≤ 1048576) (k1 : j < h.objs.length) : Ct Tryz.prog 36 [eHp h, .int .i64 ((j : Int) + 1), .int .i64 p] [] (.bool (decide (0 ≤ p) && decide (p < (h.objs[j].vals.length : Int)))) [] := by
  obtain ⟨hw, hw2, hh⟩ := place_at ho k1
  have k3 : 1 ≤ (j : Int) + 1 := by omega
  have k4 : j + 1 ≤ h.objs.length := k1
  refine Ct_bodyS tok Tryz.func36 rfl 32 (by kernel_rfl) (by kernel_rfl) fun X hX => ?_
  refine W_rseqK [1, 2, 3] (jh hX (by simp [k1, k3, k4]; rfl)) ?_
  first | (refine W_rseqK [6] (js hX 14 (by simp [hw, k1, k3, k4]; rfl) (jm 11 20 [31] (p:=fun b1_14 => by (try simp at b1_14); exact (jh hX (by simp [-atD_lt, -atL_lt, hw, b1_14, k1, k3, k4]; (try (simp (disch := omega) only [wrap_i64]; (try simp [-atD_lt, -atL_lt, hw, b1_14, k1, k3, k4]))); rfl))) (q:=fun b1_14 => by (try simp at b1_14); exact (jh hX (by simp [-atD_lt, -atL_lt, k1, k3, k4]; rfl))) (k:=(jh hX (by simp [k1, k3, k4]; rfl))))) ?_)
  refine W_ret (je (by simp [hw, k1, k3, k4]; rfl) ?_)
  simp_all
theorem ct_spec_l10Place {h : Hep} {a p : Int} (ho : sizeHp h ≤ 1048576) : Ct Tryz.prog 36 [eHp h, .int .i64 a, .int .i64 p] [] (.bool (placeR h a p)) [] := by
  rcases place_cs h a with k1 | ⟨k1, k2⟩ | ⟨j, k1, rfl⟩
  · rw [placeR, hasR, decide_eq_false (by omega), Bool.false_and]; exact ct_spec_l10Place_c1 k1
  · rw [placeR, hasR, decide_eq_false (by omega), Bool.false_and]; exact ct_spec_l10Place_c2 k1 k2
  · have hjn : ((j : Int) + 1 - 1).toNat = j := by omega
    rw [placeR, hasR, decide_eq_true (by omega), Bool.true_and, hjn, atL_lt k1, Bool.decide_and]; exact ct_spec_l10Place_c3 ho k1
end Go.Proofs
namespace Go.Proofs
open Go Go.Ev


theorem cb_spec_l10Copy : Callable Tryz.prog 37 := ⟨_, Tryz.func37, by kernel_rfl, by kernel_rfl⟩
theorem ct_spec_l10Copy {h : Hep} (ho : sizeHp h ≤ 1048576) : Ct Tryz.prog 37 [eHp h] [] (oHp h) [] := by
  have hoo : ∀ {i : Nat} (hi : i < h.objs.length), h.objs[i].vals.length ≤ 1048576 := fun hi => by
    have := Nat.le_trans (sizeHp_at hi) ho
    unfold sizeOb at this; omega
  have hll : h.objs.length ≤ 1048576 := by unfold sizeHp at ho; omega
  refine Ct_bodyS tok Tryz.func37 rfl 33 (by kernel_rfl) (by kernel_rfl) fun X hX => ?_
  refine jq [1, 2] ?_
  refine jq [1, 2, 3] ?_
  refine W_seq (jq [1, 2, 3, 4] ?_)
  refine W_block (W_le (Le.nilC 2 0 0 4 (by simp; rfl)) ?_)
  refine W_loopU (α := Nat) [1, 2, 3, 4] (fun i => [(4, .int .i64 i)]) (fun i => [(2, some (2, [.agg [.arr 3 0 i, .int .i64 h.room]])), (3, some (4, (h.objs.map oOb).take i))]) (fun i => i ≤ h.objs.length) (fun i => h.objs.length - i) (0) (fun i => by simp; rfl) (by simp) ?_ ?_
  · simp
  rintro i hi
  have w1 : (i + 1) * 56 ≤ 140737488355328 := by omega
  have w2 : i ≤ 1099511627775 := by omega
  refine W_seq (W_rseqK [1, 2, 3, 4, 13] (jh hX (by simp [w1, w2]; rfl)) ?_)
  refine jd (fun h3 => ?_) (fun h3 => ?_)
  · try simp at h3
    obtain ⟨Y, hY⟩ : ∃ Y, Y = (h.objs.map oOb).take i := ⟨_, rfl⟩
    rw [← hY]
    have hYl : Y.length = i := by rw [hY]; simp; omega
    have hYt : Y.take i = Y := List.take_of_length_le (by omega)
    have hYj : ∀ p, jkL p Y = Y := fun p => by rw [hY, ← List.map_take]; exact jk_oOb p _
    have m1 := fun x => midG hYl x []
    have m2 := fun x y => midS hYl x y []
    have m3 := fun p x => mid_jk (p := p) (x := x) (Y := Y) (Z := []) (hYj p) rfl
    have hnext : (h.objs.map oOb).take (i + 1) = Y ++ [oOb h.objs[i]] := by
      rw [hY, List.take_succ_eq_append_getElem (by simpa using h3), List.getElem_map]
    have hvl := hoo h3
    have w3 : h.objs[i].vals.length * 16 ≤ 140737488355328 := by omega
    have w4 : h.objs[i].vals.length ≤ 1099511627776 := by omega
    refine W_skip (W_seq (W_block (W_rseqK [1, 2, 3, 4, 5] (jh hX (by simp [w1, w2, h3, hYl, hYt, hYj, w3, w4]; rfl)) ?_)))
    refine W_rseqK [1, 2, 3, 4, 5] (jh hX (by simp [w1, w2, h3, hYl, hYt, hYj, w3, w4]; rfl)) ?_
    refine W_reg (jh hX (by simp [w1, w2, h3, hYl, hYt, hYj, w3, w4]; rfl)) ?_
    refine W_reg (jh hX (by simp [w1, w2, h3, hYl, hYt, hYj, w3, w4]; (try (simp (disch := omega) only [wrap_i64]; (try simp [w1, w2, h3, hYl, hYt, hYj, w3, w4]))); rfl)) ?_
    refine ⟨i + 1, Le.trans (Le.keep [1, 2, 3, 4] _) (Le.trans (Le.absorb 3 i 3 (by simp [m1, m2, hYl]; rfl)) (Le.trans (Le.trim 4 (by simp [hX]) _ (by simp)) (Le.of_eq (by simp [hnext, m3])))), ?_, ?_⟩
    · omega
    · omega
  · try simp at h3
    obtain rfl : i = h.objs.length := by omega
    rw [List.take_of_length_le (show (h.objs.map oOb).length ≤ h.objs.length by simp)]
    refine W_exit (W_rseqK [2] (jh hX (by simp [w1, w2, h3]; rfl)) ?_)
    refine W_ret (je (by simp [w1, w2, h3]; rfl) ?_)
    rfl
end Go.Proofs
namespace Go.Proofs
open Go Go.Ev


theorem cb_spec_HeapGet : Callable Tryz.prog 10 := ⟨_, Tryz.func10, by kernel_rfl, by kernel_rfl⟩
theorem ct_spec_HeapGet {l : List Cls} (hs : sizeL l ≤ 1048576) {h : Hep} (ho : sizeHp h ≤ 1048576) {a p : Int} : Ct Tryz.prog 10 [.lst false 6 (l.map eC), eHp h, .int .i64 a, .int .i64 p] [] (oHo (getW l h a p)) [] := by
  have hl2 : sizeL l ≤ 1099511627776 := by omega
  have hll : l.length ≤ 1099511627776 := by unfold sizeL at hs; omega
  refine Ct_bodyS tok Tryz.func10 rfl 37 (by kernel_rfl) (by kernel_rfl) fun X hX => ?_
  refine jq [0, 2, 3, 5, 8] ?_
  refine W_seq (jq [0, 2, 3, 5, 8, 11] ?_)
  refine jd (fun h1 => ?_) (fun h1 => ?_)
  · try simp at h1
    refine W_rseqK [8] (jh hX (by simp [h1]; rfl)) ?_
    refine W_ret (W_retR (by simp [h1]; rfl) ?_ rfl)
    rw [getW, if_pos (by omega)]; exact zHo_wk _
  · try simp at h1
    refine W_skip (W_seq (W_rseqK [2, 3, 5, 8, 16] (js hX 2 (by simp [h1]; rfl) (jc [] (c:=(by apply ct_spec_HeapRight <;> first | assumption | omega)) (a:=cb_spec_HeapRight) (k:=(jh hX (by simp [h1]; rfl))))) ?_))
    refine jd (fun h3 => ?_) (fun h3 => ?_)
    · try simp at h3
      refine W_rseqK [8] (jh hX (by simp [h1]; rfl)) ?_
      refine W_ret (W_retR (by simp [h1]; rfl) ?_ rfl)
      rw [getW, if_neg (by omega), if_neg (by simpa using h3)]; exact zHo_wk _
    · try simp at h3
      refine W_skip (W_seq (W_rseqK [2, 3, 5, 8, 22] (js hX 3 (by simp [h1]; rfl) (jc [] (c:=(by apply ct_spec_l10Place <;> first | assumption | omega)) (a:=cb_spec_l10Place) (k:=(jh hX (by simp [h1]; rfl))))) ?_))
      refine jd (fun h5 => ?_) (fun h5 => ?_)
      · try simp at h5
        refine W_rseqK [8] (jh hX (by simp [h1]; rfl)) ?_
        refine W_ret (W_retR (by simp [h1]; rfl) ?_ rfl)
        rw [getW, if_neg (by omega), if_pos (by simpa using h3), if_neg (by simpa using h5)]; exact zHo_wk _
      · try simp at h5
        have hG : getW l h a p = ⟨h, atL (atL h.objs (a - 1).toNat).vals p.toNat, 0⟩ := by rw [getW, if_neg (by omega), if_pos (by simpa using h3), if_pos (by simpa using h5)]
        rw [hG]
        obtain ⟨j, q, hj, rfl, rfl, hq⟩ := placeR_iff (by simpa using h5)
        have hjn : ((j : Int) + 1 - 1).toNat = j := by omega
        rw [hjn, atL_lt hj, Int.toNat_natCast, atL_lt hq]
        obtain ⟨hw, hw2, hh⟩ := place_at ho hj
        refine W_skip (jL 12 [0, 2, 3, 4, 5, 6, 7, 8, 9, 10, 11] [1] [8] ([0]) hX (by simp [h1, hj, hq, hw]; rfl) (jH (p:=fun X hX => (jc [] (c:=(by apply ct_spec_l10Copy <;> first | assumption | omega)) (a:=cb_spec_l10Copy) (k:=jf))) (k:=.nil)) (jh hX (by simp [h1, hj, hq, hw]; rfl)) ?_)
        refine W_ret (W_retR (by simp [h1, hj, hq, hw]; rfl) ?_ rfl)
        exact Wk.refl _
end Go.Proofs
namespace Go.Proofs
open Go Go.Ev


theorem cb_laws_toField : Callable Tryz.prog 125 := ⟨_, Tryz.func125, by kernel_rfl, by kernel_rfl⟩
theorem ct_laws_toField {x : Fld} : Ct Tryz.prog 125 [eF x] [] (eF x) [] := by
  refine Ct_bodyS tok Tryz.func125 rfl 14 (by kernel_rfl) (by kernel_rfl) fun X hX => ?_
  refine jq [1, 2] ?_
  refine jq [1, 2, 3] ?_
  refine jq [1, 2, 3] ?_
  refine jq [1, 2, 3] ?_
  refine jq [2, 3] ?_
  refine jq [2] ?_
  refine W_ret (je0 ?_)
  simp
end Go.Proofs
namespace Go.Proofs
open Go Go.Ev


theorem cb_laws_toFieldS : Callable Tryz.prog 75 := ⟨_, Tryz.func75, by kernel_rfl, by kernel_rfl⟩
theorem ct_laws_toFieldS {l : List Fld} (q1 : l.length ≤ 1099511627776) : Ct Tryz.prog 75 [.lst false 3 (l.map eF)] [] (.lst true 3 (l.map eF)) [] := by
  have w1 : 40 * (l.length : Int) ≤ 281474976710656 := by omega
  have w2 : (l.length : Int) ≤ 9223372036854775807 := by omega
  refine Ct_bodyS tok Tryz.func75 rfl 23 (by kernel_rfl) (by kernel_rfl) fun X hX => ?_
  refine W_rseqK [0] (jh hX (by simp [fillL_length, fillL_at, w1, w2]; rfl)) ?_
  refine W_rseqK [0, 3] (jh hX (by simp [fillL_length, fillL_at, w1, w2]; rfl)) ?_
  refine W_seq (W_rseqK [0, 3, 4] (jh hX (by simp [fillL_length, fillL_at, w1, w2]; rfl)) ?_)
  refine W_block (W_loopU (α := Nat) [0, 3, 4] (fun i => [(4, .int .i64 i)]) (fun i => [(0, some (3, fillL eF (.agg [.str [], .str [], .bool false]) l i))]) (fun i => i ≤ l.length) (fun i => l.length - i) (0) (fun i => by simp; rfl) (by simp [fillL_zero]) ?_ ?_)
  · simp
  rintro i hi
  refine W_seq (W_rseqK [0, 3, 4, 11] (jh hX (by simp [fillL_length, fillL_at, w1, w2]; rfl)) ?_)
  refine jd (fun h3 => ?_) (fun h3 => ?_)
  · try simp at h3
    refine W_skip (W_seq (W_block (W_reg (js hX 6 (by simp [h3, fillL_length, fillL_at, w1, w2]; rfl) (Runs.call [] rfl (by simp) rfl (by simp [fillL_length, fillL_at, w1, w2]; rfl) (by simp; rfl) (by apply ct_laws_toField <;> first | assumption | omega | (simp at *; omega) | simp_all) cb_laws_toField (by simp) (by simp) (by simp [fillL_length, fillL_at, w1, w2]; rfl) (jh hX (by simp [h3, fillL_length, fillL_at, w1, w2]; rfl)))) ?_)))
    refine W_reg (jh hX (by simp [fillL_length, fillL_at, w1, w2]; (try (simp (disch := omega) only [wrap_i64]; (try simp [fillL_length, fillL_at, w1, w2]))); rfl)) ?_
    refine round_end (i + 1) [0, 3, 4] (by simp [h3, fillL_length, fillL_at]; first | exact fillL_set h3 | (constructor <;> first | omega | exact fillL_set h3)) ?_ ?_
    · omega
    · omega
  · try simp at h3
    have hil : i = l.length := by omega
    subst hil
    rw [fillL_full]
    refine W_exit (W_rseqK [2] (jh hX (by simp [fillL_length, fillL_at, w1, w2]; rfl)) ?_)
    refine W_ret (je (by simp [h3, fillL_length, fillL_at, w1, w2]; rfl) ?_)
    simp
end Go.Proofs
namespace Go.Proofs
open Go Go.Ev


theorem cb_laws_toIns : Callable Tryz.prog 214 := ⟨_, Tryz.func214, by kernel_rfl, by kernel_rfl⟩
theorem ct_laws_toIns {x : Ins} : Ct Tryz.prog 214 [eI x] [] (eI x) [] := by
  refine Ct_bodyS tok Tryz.func214 rfl 20 (by kernel_rfl) (by kernel_rfl) fun X hX => ?_
  refine jq [1, 2] ?_
  refine jq [1, 2, 3] ?_
  refine jq [1, 2, 3] ?_
  refine jq [1, 2, 3] ?_
  refine jq [1, 2, 3] ?_
  refine jq [1, 2, 3] ?_
  refine jq [2, 3] ?_
  refine jq [2] ?_
  refine W_ret (je0 ?_)
  simp
end Go.Proofs
namespace Go.Proofs
open Go Go.Ev


theorem cb_laws_toInsS : Callable Tryz.prog 175 := ⟨_, Tryz.func175, by kernel_rfl, by kernel_rfl⟩
theorem ct_laws_toInsS {l : List Ins} (q1 : l.length ≤ 1099511627776) : Ct Tryz.prog 175 [.lst false 5 (l.map eI)] [] (.lst true 5 (l.map eI)) [] := by
  have w1 : 64 * (l.length : Int) ≤ 281474976710656 := by omega
  have w2 : (l.length : Int) ≤ 9223372036854775807 := by omega
  refine Ct_bodyS tok Tryz.func175 rfl 23 (by kernel_rfl) (by kernel_rfl) fun X hX => ?_
  refine W_rseqK [0] (jh hX (by simp [fillL_length, fillL_at, w1, w2]; rfl)) ?_
  refine W_rseqK [0, 3] (jh hX (by simp [fillL_length, fillL_at, w1, w2]; rfl)) ?_
  refine W_seq (W_rseqK [0, 3, 4] (jh hX (by simp [fillL_length, fillL_at, w1, w2]; rfl)) ?_)
  refine W_block (W_loopU (α := Nat) [0, 3, 4] (fun i => [(4, .int .i64 i)]) (fun i => [(0, some (5, fillL eI (.agg [.int .i64 0, .int .i64 0, .str [], .str [], .str []]) l i))]) (fun i => i ≤ l.length) (fun i => l.length - i) (0) (fun i => by simp; rfl) (by simp [fillL_zero]) ?_ ?_)
  · simp
  rintro i hi
  refine W_seq (W_rseqK [0, 3, 4, 11] (jh hX (by simp [fillL_length, fillL_at, w1, w2]; rfl)) ?_)
  refine jd (fun h3 => ?_) (fun h3 => ?_)
  · try simp at h3
    refine W_skip (W_seq (W_block (W_reg (js hX 6 (by simp [h3, fillL_length, fillL_at, w1, w2]; rfl) (Runs.call [] rfl (by simp) rfl (by simp [fillL_length, fillL_at, w1, w2]; rfl) (by simp; rfl) (by apply ct_laws_toIns <;> first | assumption | omega | (simp at *; omega) | simp_all) cb_laws_toIns (by simp) (by simp) (by simp [fillL_length, fillL_at, w1, w2]; rfl) (jh hX (by simp [h3, fillL_length, fillL_at, w1, w2]; rfl)))) ?_)))
    refine W_reg (jh hX (by simp [fillL_length, fillL_at, w1, w2]; (try (simp (disch := omega) only [wrap_i64]; (try simp [fillL_length, fillL_at, w1, w2]))); rfl)) ?_
    refine round_end (i + 1) [0, 3, 4] (by simp [h3, fillL_length, fillL_at]; first | exact fillL_set h3 | (constructor <;> first | omega | exact fillL_set h3)) ?_ ?_
    · omega
    · omega
  · try simp at h3
    have hil : i = l.length := by omega
    subst hil
    rw [fillL_full]
    refine W_exit (W_rseqK [2] (jh hX (by simp [fillL_length, fillL_at, w1, w2]; rfl)) ?_)
    refine W_ret (je (by simp [h3, fillL_length, fillL_at, w1, w2]; rfl) ?_)
    simp
end Go.Proofs
namespace Go.Proofs
open Go Go.Ev


theorem cb_laws_toHandler : Callable Tryz.prog 215 := ⟨_, Tryz.func215, by kernel_rfl, by kernel_rfl⟩
theorem ct_laws_toHandler {x : Hdl} : Ct Tryz.prog 215 [eH x] [] (eH x) [] := by
  refine Ct_bodyS tok Tryz.func215 rfl 17 (by kernel_rfl) (by kernel_rfl) fun X hX => ?_
  refine jq [1, 2] ?_
  refine jq [1, 2, 3] ?_
  refine jq [1, 2, 3] ?_
  refine jq [1, 2, 3] ?_
  refine jq [1, 2, 3] ?_
  refine jq [2, 3] ?_
  refine jq [2] ?_
  refine W_ret (je0 ?_)
  simp
end Go.Proofs
namespace Go.Proofs
open Go Go.Ev


theorem cb_laws_toHandlerS : Callable Tryz.prog 176 := ⟨_, Tryz.func176, by kernel_rfl, by kernel_rfl⟩
theorem ct_laws_toHandlerS {l : List Hdl} (q1 : l.length ≤ 1099511627776) : Ct Tryz.prog 176 [.lst false 4 (l.map eH)] [] (.lst true 4 (l.map eH)) [] := by
  have w1 : 40 * (l.length : Int) ≤ 281474976710656 := by omega
  have w2 : (l.length : Int) ≤ 9223372036854775807 := by omega
  refine Ct_bodyS tok Tryz.func176 rfl 23 (by kernel_rfl) (by kernel_rfl) fun X hX => ?_
  refine W_rseqK [0] (jh hX (by simp [fillL_length, fillL_at, w1, w2]; rfl)) ?_
  refine W_rseqK [0, 3] (jh hX (by simp [fillL_length, fillL_at, w1, w2]; rfl)) ?_
  refine W_seq (W_rseqK [0, 3, 4] (jh hX (by simp [fillL_length, fillL_at, w1, w2]; rfl)) ?_)
  refine W_block (W_loopU (α := Nat) [0, 3, 4] (fun i => [(4, .int .i64 i)]) (fun i => [(0, some (4, fillL eH (.agg [.int .i64 0, .int .i64 0, .int .i64 0, .str []]) l i))]) (fun i => i ≤ l.length) (fun i => l.length - i) (0) (fun i => by simp; rfl) (by simp [fillL_zero]) ?_ ?_)
  · simp
  rintro i hi
  refine W_seq (W_rseqK [0, 3, 4, 11] (jh hX (by simp [fillL_length, fillL_at, w1, w2]; rfl)) ?_)
  refine jd (fun h3 => ?_) (fun h3 => ?_)
  · try simp at h3
    refine W_skip (W_seq (W_block (W_reg (js hX 6 (by simp [h3, fillL_length, fillL_at, w1, w2]; rfl) (Runs.call [] rfl (by simp) rfl (by simp [fillL_length, fillL_at, w1, w2]; rfl) (by simp; rfl) (by apply ct_laws_toHandler <;> first | assumption | omega | (simp at *; omega) | simp_all) cb_laws_toHandler (by simp) (by simp) (by simp [fillL_length, fillL_at, w1, w2]; rfl) (jh hX (by simp [h3, fillL_length, fillL_at, w1, w2]; rfl)))) ?_)))
    refine W_reg (jh hX (by simp [fillL_length, fillL_at, w1, w2]; (try (simp (disch := omega) only [wrap_i64]; (try simp [fillL_length, fillL_at, w1, w2]))); rfl)) ?_
    refine round_end (i + 1) [0, 3, 4] (by simp [h3, fillL_length, fillL_at]; first | exact fillL_set h3 | (constructor <;> first | omega | exact fillL_set h3)) ?_ ?_
    · omega
    · omega
  · try simp at h3
    have hil : i = l.length := by omega
    subst hil
    rw [fillL_full]
    refine W_exit (W_rseqK [2] (jh hX (by simp [fillL_length, fillL_at, w1, w2]; rfl)) ?_)
    refine W_ret (je (by simp [h3, fillL_length, fillL_at, w1, w2]; rfl) ?_)
    simp
end Go.Proofs
namespace Go.Proofs
open Go Go.Ev


theorem cb_laws_toMethod : Callable Tryz.prog 126 := ⟨_, Tryz.func126, by kernel_rfl, by kernel_rfl⟩
theorem ct_laws_toMethod {x : Mth} (h : sizeM x ≤ 1099511627776) : Ct Tryz.prog 126 [eM x] [] (oM x) [] := by
  simp only [sizeM] at h
  refine Ct_bodyS tok Tryz.func126 rfl 34 (by kernel_rfl) (by kernel_rfl) fun X hX => ?_
  refine jq [1, 2] ?_
  refine jq [1, 2, 3] ?_
  refine jq [1, 2, 3] ?_
  refine jq [1, 2, 3] ?_
  refine jq [1, 2, 3] ?_
  refine jq [1, 2, 3] ?_
  refine jq [1, 2, 3] ?_
  refine jq [1, 2, 3] ?_
  refine jq [1, 2, 3] ?_
  refine W_rseqK [1, 2, 3] (jt 2 (k:=(jc [] (c:=(by apply ct_laws_toInsS <;> first | assumption | omega | exact fun y hy => Nat.le_trans (mem_sum hy) (by omega))) (a:=cb_laws_toInsS) (k:=jr)))) ?_
  refine W_rseqK [2, 3] (jt 2 (k:=(jc [] (c:=(by apply ct_laws_toHandlerS <;> first | assumption | omega | exact fun y hy => Nat.le_trans (mem_sum hy) (by omega))) (a:=cb_laws_toHandlerS) (k:=jr)))) ?_
  refine jq [2] ?_
  refine W_ret (je0 ?_)
  simp [oM]
end Go.Proofs
namespace Go.Proofs
open Go Go.Ev


theorem cb_laws_toMethodS : Callable Tryz.prog 76 := ⟨_, Tryz.func76, by kernel_rfl, by kernel_rfl⟩
theorem ct_laws_toMethodS {l : List Mth} (q1 : l.length ≤ 1099511627776) (hb : ∀ y ∈ l, sizeM y ≤ 1099511627776) : Ct Tryz.prog 76 [.lst false 9 (l.map eM)] [] (.lst true 9 (l.map oM)) [] := by
  have w1 : 104 * (l.length : Int) ≤ 281474976710656 := by omega
  have w2 : (l.length : Int) ≤ 9223372036854775807 := by omega
  refine Ct_bodyS tok Tryz.func76 rfl 23 (by kernel_rfl) (by kernel_rfl) fun X hX => ?_
  refine W_rseqK [0] (jh hX (by simp [fillL_length, fillL_at, w1, w2]; rfl)) ?_
  refine W_rseqK [0, 3] (jh hX (by simp [fillL_length, fillL_at, w1, w2]; rfl)) ?_
  refine W_seq (W_rseqK [0, 3, 4] (jh hX (by simp [fillL_length, fillL_at, w1, w2]; rfl)) ?_)
  refine W_block (W_loopU (α := Nat) [0, 3, 4] (fun i => [(4, .int .i64 i)]) (fun i => [(0, some (9, fillL oM (.agg [.str [], .str [], .bool false, .bool false, .bool false, .int .i64 0, .int .i64 0, .raw (.slice none 0 0), .raw (.slice none 0 0)]) l i))]) (fun i => i ≤ l.length) (fun i => l.length - i) (0) (fun i => by simp; rfl) (by simp [fillL_zero]) ?_ ?_)
  · simp
  rintro i hi
  refine W_seq (W_rseqK [0, 3, 4, 11] (jh hX (by simp [fillL_length, fillL_at, w1, w2]; rfl)) ?_)
  refine jd (fun h3 => ?_) (fun h3 => ?_)
  · try simp at h3
    refine W_skip (W_seq (W_block (W_reg (js hX 6 (by simp [h3, fillL_length, fillL_at, w1, w2]; rfl) (Runs.call [] rfl (by simp) rfl (by simp [fillL_length, fillL_at, w1, w2]; rfl) (by simp; rfl) (by apply ct_laws_toMethod <;> first | assumption | omega | exact hb _ (List.getElem_mem _)) cb_laws_toMethod (by simp) (by simp) (by simp [fillL_length, fillL_at, w1, w2]; rfl) (jh hX (by simp [h3, fillL_length, fillL_at, w1, w2]; rfl)))) ?_)))
    refine W_reg (jh hX (by simp [fillL_length, fillL_at, w1, w2]; (try (simp (disch := omega) only [wrap_i64]; (try simp [fillL_length, fillL_at, w1, w2]))); rfl)) ?_
    refine ⟨i + 1, Le.trans (Le.keep [0, 3, 4] _) (Le.trans (Le.absorb 0 i 7 (by simp [h3, fillL_length]; rfl)) (Le.trans (Le.absorb 0 i 8 (by simp [h3, fillL_length]; rfl)) (Le.trans (Le.trim 1 (by simp [hX]) _ (by simp)) (Le.of_eq (by simp [h3]; exact (congrArg (jkL _) (fillL_set h3)).trans (jkL_pure _ _ (pureL_fillL (fun x => by simp [V.pure, pureL]) (by simp [V.pure, pureL])))))))), ?_, ?_⟩
    · omega
    · omega
  · try simp at h3
    have hil : i = l.length := by omega
    subst hil
    rw [fillL_full]
    refine W_exit (W_rseqK [2] (jh hX (by simp [fillL_length, fillL_at, w1, w2]; rfl)) ?_)
    refine W_ret (je (by simp [h3, fillL_length, fillL_at, w1, w2]; rfl) ?_)
    simp
end Go.Proofs
namespace Go.Proofs
open Go Go.Ev


theorem cb_laws_toClass : Callable Tryz.prog 38 := ⟨_, Tryz.func38, by kernel_rfl, by kernel_rfl⟩
theorem ct_laws_toClass {x : Cls} (h : sizeC x ≤ 1099511627776) : Ct Tryz.prog 38 [eC x] [] (oC x) [] := by
  simp only [sizeC] at h
  refine Ct_bodyS tok Tryz.func38 rfl 25 (by kernel_rfl) (by kernel_rfl) fun X hX => ?_
  refine jq [1, 2] ?_
  refine jq [1, 2, 3] ?_
  refine jq [1, 2, 3] ?_
  refine jq [1, 2, 3] ?_
  refine jq [1, 2, 3] ?_
  refine jq [1, 2, 3] ?_
  refine W_rseqK [1, 2, 3] (jt 2 (k:=(jc [] (c:=(by apply ct_laws_toFieldS <;> first | assumption | omega | exact fun y hy => Nat.le_trans (mem_sum hy) (by omega))) (a:=cb_laws_toFieldS) (k:=jr)))) ?_
  refine W_rseqK [2, 3] (jt 2 (k:=(jc [] (c:=(by apply ct_laws_toMethodS <;> first | assumption | omega | exact fun y hy => Nat.le_trans (mem_sum hy) (by omega))) (a:=cb_laws_toMethodS) (k:=jr)))) ?_
  refine jq [2] ?_
  refine W_ret (je0 ?_)
  simp [oC]
end Go.Proofs
namespace Go.Proofs
open Go Go.Ev


theorem cb_laws_toClassS : Callable Tryz.prog 11 := ⟨_, Tryz.func11, by kernel_rfl, by kernel_rfl⟩
theorem ct_laws_toClassS {l : List Cls} (q1 : l.length ≤ 1099511627776) (hb : ∀ y ∈ l, sizeC y ≤ 1099511627776) : Ct Tryz.prog 11 [.lst false 6 (l.map eC)] [] (.lst true 6 (l.map oC)) [] := by
  have w1 : 88 * (l.length : Int) ≤ 281474976710656 := by omega
  have w2 : (l.length : Int) ≤ 9223372036854775807 := by omega
  refine Ct_bodyS tok Tryz.func11 rfl 23 (by kernel_rfl) (by kernel_rfl) fun X hX => ?_
  refine W_rseqK [0] (jh hX (by simp [fillL_length, fillL_at, w1, w2]; rfl)) ?_
  refine W_rseqK [0, 3] (jh hX (by simp [fillL_length, fillL_at, w1, w2]; rfl)) ?_
  refine W_seq (W_rseqK [0, 3, 4] (jh hX (by simp [fillL_length, fillL_at, w1, w2]; rfl)) ?_)
  refine W_block (W_loopU (α := Nat) [0, 3, 4] (fun i => [(4, .int .i64 i)]) (fun i => [(0, some (6, fillL oC (.agg [.str [], .str [], .bool false, .bool false, .raw (.slice none 0 0), .raw (.slice none 0 0)]) l i))]) (fun i => i ≤ l.length) (fun i => l.length - i) (0) (fun i => by simp; rfl) (by simp [fillL_zero]) ?_ ?_)
  · simp
  rintro i hi
  refine W_seq (W_rseqK [0, 3, 4, 11] (jh hX (by simp [fillL_length, fillL_at, w1, w2]; rfl)) ?_)
  refine jd (fun h3 => ?_) (fun h3 => ?_)
  · try simp at h3
    refine W_skip (W_seq (W_block (W_reg (js hX 6 (by simp [h3, fillL_length, fillL_at, w1, w2]; rfl) (Runs.call [] rfl (by simp) rfl (by simp [fillL_length, fillL_at, w1, w2]; rfl) (by simp; rfl) (by apply ct_laws_toClass <;> first | assumption | omega | exact hb _ (List.getElem_mem _)) cb_laws_toClass (by simp) (by simp) (by simp [fillL_length, fillL_at, w1, w2]; rfl) (jh hX (by simp [h3, fillL_length, fillL_at, w1, w2]; rfl)))) ?_)))
    refine W_reg (jh hX (by simp [fillL_length, fillL_at, w1, w2]; (try (simp (disch := omega) only [wrap_i64]; (try simp [fillL_length, fillL_at, w1, w2]))); rfl)) ?_
    refine ⟨i + 1, Le.trans (Le.keep [0, 3, 4] _) (Le.trans (Le.absorb 0 i 4 (by simp [h3, fillL_length]; rfl)) (Le.trans (Le.absorb 0 i 5 (by simp [h3, fillL_length]; rfl)) (Le.trans (Le.trim 1 (by simp [hX]) _ (by simp)) (Le.of_eq (by simp [h3]; exact (congrArg (jkL _) (fillL_set h3)).trans (jkL_pure _ _ (pureL_fillL (fun x => by simp [V.pure, pureL]) (by simp [V.pure, pureL])))))))), ?_, ?_⟩
    · omega
    · omega
  · try simp at h3
    have hil : i = l.length := by omega
    subst hil
    rw [fillL_full]
    refine W_exit (W_rseqK [2] (jh hX (by simp [fillL_length, fillL_at, w1, w2]; rfl)) ?_)
    refine W_ret (je (by simp [h3, fillL_length, fillL_at, w1, w2]; rfl) ?_)
    simp
end Go.Proofs
namespace Go.Proofs
open Go Go.Ev


theorem cb_laws_toVal : Callable Tryz.prog 26 := ⟨_, Tryz.func26, by kernel_rfl, by kernel_rfl⟩
theorem ct_laws_toVal {x : Vl} : Ct Tryz.prog 26 [eVl x] [] (eVl x) [] := by
  refine Ct_bodyS tok Tryz.func26 rfl 11 (by kernel_rfl) (by kernel_rfl) fun X hX => ?_
  refine jq [1, 2] ?_
  refine jq [1, 2, 3] ?_
  refine jq [1, 2, 3] ?_
  refine jq [2, 3] ?_
  refine jq [2] ?_
  refine W_ret (je0 ?_)
  simp
end Go.Proofs
namespace Go.Proofs
open Go Go.Ev


theorem cb_laws_toValS : Callable Tryz.prog 127 := ⟨_, Tryz.func127, by kernel_rfl, by kernel_rfl⟩
theorem ct_laws_toValS {l : List Vl} (q1 : l.length ≤ 1099511627776) : Ct Tryz.prog 127 [.lst false 2 (l.map eVl)] [] (.lst true 2 (l.map eVl)) [] := by
  have w1 : 16 * (l.length : Int) ≤ 281474976710656 := by omega
  have w2 : (l.length : Int) ≤ 9223372036854775807 := by omega
  refine Ct_bodyS tok Tryz.func127 rfl 23 (by kernel_rfl) (by kernel_rfl) fun X hX => ?_
  refine W_rseqK [0] (jh hX (by simp [fillL_length, fillL_at, w1, w2]; rfl)) ?_
  refine W_rseqK [0, 3] (jh hX (by simp [fillL_length, fillL_at, w1, w2]; rfl)) ?_
  refine W_seq (W_rseqK [0, 3, 4] (jh hX (by simp [fillL_length, fillL_at, w1, w2]; rfl)) ?_)
  refine W_block (W_loopU (α := Nat) [0, 3, 4] (fun i => [(4, .int .i64 i)]) (fun i => [(0, some (2, fillL eVl (.agg [.int .i64 0, .int .i64 0]) l i))]) (fun i => i ≤ l.length) (fun i => l.length - i) (0) (fun i => by simp; rfl) (by simp [fillL_zero]) ?_ ?_)
  · simp
  rintro i hi
  refine W_seq (W_rseqK [0, 3, 4, 11] (jh hX (by simp [fillL_length, fillL_at, w1, w2]; rfl)) ?_)
  refine jd (fun h3 => ?_) (fun h3 => ?_)
  · try simp at h3
    refine W_skip (W_seq (W_block (W_reg (js hX 6 (by simp [h3, fillL_length, fillL_at, w1, w2]; rfl) (Runs.call [] rfl (by simp) rfl (by simp [fillL_length, fillL_at, w1, w2]; rfl) (by simp; rfl) (by apply ct_laws_toVal <;> first | assumption | omega | (simp at *; omega) | simp_all) cb_laws_toVal (by simp) (by simp) (by simp [fillL_length, fillL_at, w1, w2]; rfl) (jh hX (by simp [h3, fillL_length, fillL_at, w1, w2]; rfl)))) ?_)))
    refine W_reg (jh hX (by simp [fillL_length, fillL_at, w1, w2]; (try (simp (disch := omega) only [wrap_i64]; (try simp [fillL_length, fillL_at, w1, w2]))); rfl)) ?_
    refine round_end (i + 1) [0, 3, 4] (by simp [h3, fillL_length, fillL_at]; first | exact fillL_set h3 | (constructor <;> first | omega | exact fillL_set h3)) ?_ ?_
    · omega
    · omega
  · try simp at h3
    have hil : i = l.length := by omega
    subst hil
    rw [fillL_full]
    refine W_exit (W_rseqK [2] (jh hX (by simp [fillL_length, fillL_at, w1, w2]; rfl)) ?_)
    refine W_ret (je (by simp [h3, fillL_length, fillL_at, w1, w2]; rfl) ?_)
    simp
end Go.Proofs
namespace Go.Proofs
open Go Go.Ev


theorem cb_laws_toObj : Callable Tryz.prog 77 := ⟨_, Tryz.func77, by kernel_rfl, by kernel_rfl⟩
theorem ct_laws_toObj {x : HOb} (h : sizeOb x ≤ 1099511627776) : Ct Tryz.prog 77 [eOb x] [] (oOb x) [] := by
  simp only [sizeOb] at h
  refine Ct_bodyS tok Tryz.func77 rfl 18 (by kernel_rfl) (by kernel_rfl) fun X hX => ?_
  refine jq [1, 2] ?_
  refine jq [1, 2, 3] ?_
  refine jq [1, 2, 3] ?_
  refine jq [1, 2, 3] ?_
  refine jq [1, 2, 3] ?_
  refine W_rseqK [2, 3] (jt 2 (k:=(jc [] (c:=(by apply ct_laws_toValS <;> first | assumption | omega | exact fun y hy => Nat.le_trans (mem_sum hy) (by omega))) (a:=cb_laws_toValS) (k:=jr)))) ?_
  refine jq [2] ?_
  refine W_ret (je0 ?_)
  simp [oOb]
end Go.Proofs
namespace Go.Proofs
open Go Go.Ev


theorem cb_laws_toObjS : Callable Tryz.prog 39 := ⟨_, Tryz.func39, by kernel_rfl, by kernel_rfl⟩
theorem ct_laws_toObjS {l : List HOb} (q1 : l.length ≤ 1099511627776) (hb : ∀ y ∈ l, sizeOb y ≤ 1099511627776) : Ct Tryz.prog 39 [.lst false 4 (l.map eOb)] [] (.lst true 4 (l.map oOb)) [] := by
  have w1 : 56 * (l.length : Int) ≤ 281474976710656 := by omega
  have w2 : (l.length : Int) ≤ 9223372036854775807 := by omega
  refine Ct_bodyS tok Tryz.func39 rfl 23 (by kernel_rfl) (by kernel_rfl) fun X hX => ?_
  refine W_rseqK [0] (jh hX (by simp [fillL_length, fillL_at, w1, w2]; rfl)) ?_
  refine W_rseqK [0, 3] (jh hX (by simp [fillL_length, fillL_at, w1, w2]; rfl)) ?_
  refine W_seq (W_rseqK [0, 3, 4] (jh hX (by simp [fillL_length, fillL_at, w1, w2]; rfl)) ?_)
  refine W_block (W_loopU (α := Nat) [0, 3, 4] (fun i => [(4, .int .i64 i)]) (fun i => [(0, some (4, fillL oOb (.agg [.int .i64 0, .str [], .bool false, .raw (.slice none 0 0)]) l i))]) (fun i => i ≤ l.length) (fun i => l.length - i) (0) (fun i => by simp; rfl) (by simp [fillL_zero]) ?_ ?_)
  · simp
  rintro i hi
  refine W_seq (W_rseqK [0, 3, 4, 11] (jh hX (by simp [fillL_length, fillL_at, w1, w2]; rfl)) ?_)
  refine jd (fun h3 => ?_) (fun h3 => ?_)
  · try simp at h3
    refine W_skip (W_seq (W_block (W_reg (js hX 6 (by simp [h3, fillL_length, fillL_at, w1, w2]; rfl) (Runs.call [] rfl (by simp) rfl (by simp [fillL_length, fillL_at, w1, w2]; rfl) (by simp; rfl) (by apply ct_laws_toObj <;> first | assumption | omega | exact hb _ (List.getElem_mem _)) cb_laws_toObj (by simp) (by simp) (by simp [fillL_length, fillL_at, w1, w2]; rfl) (jh hX (by simp [h3, fillL_length, fillL_at, w1, w2]; rfl)))) ?_)))
    refine W_reg (jh hX (by simp [fillL_length, fillL_at, w1, w2]; (try (simp (disch := omega) only [wrap_i64]; (try simp [fillL_length, fillL_at, w1, w2]))); rfl)) ?_
    refine ⟨i + 1, Le.trans (Le.keep [0, 3, 4] _) (Le.trans (Le.absorb 0 i 3 (by simp [h3, fillL_length]; rfl)) (Le.trans (Le.trim 1 (by simp [hX]) _ (by simp)) (Le.of_eq (by simp [h3]; exact (congrArg (jkL _) (fillL_set h3)).trans (jkL_pure _ _ (pureL_fillL (fun x => by simp [V.pure, pureL]) (by simp [V.pure, pureL]))))))), ?_, ?_⟩
    · omega
    · omega
  · try simp at h3
    have hil : i = l.length := by omega
    subst hil
    rw [fillL_full]
    refine W_exit (W_rseqK [2] (jh hX (by simp [fillL_length, fillL_at, w1, w2]; rfl)) ?_)
    refine W_ret (je (by simp [h3, fillL_length, fillL_at, w1, w2]; rfl) ?_)
    simp
end Go.Proofs
namespace Go.Proofs
open Go Go.Ev


theorem cb_laws_toHeap : Callable Tryz.prog 12 := ⟨_, Tryz.func12, by kernel_rfl, by kernel_rfl⟩
theorem ct_laws_toHeap {x : Hep} (h : sizeHp x ≤ 1099511627776) : Ct Tryz.prog 12 [eHp x] [] (oHp x) [] := by
  simp only [sizeHp] at h
  refine Ct_bodyS tok Tryz.func12 rfl 12 (by kernel_rfl) (by kernel_rfl) fun X hX => ?_
  refine jq [1, 2] ?_
  refine jq [1, 2, 3] ?_
  refine W_rseqK [1, 2, 3] (jt 2 (k:=(jc [] (c:=(by apply ct_laws_toObjS <;> first | assumption | omega | exact fun y hy => Nat.le_trans (mem_sum hy) (by omega))) (a:=cb_laws_toObjS) (k:=jr)))) ?_
  refine jq [2, 3] ?_
  refine jq [2] ?_
  refine W_ret (je0 ?_)
  simp [oHp]
end Go.Proofs
namespace Go.Proofs
open Go Go.Ev
section
variable {X : Ctx} {ops : Array Oper} {ls : List Oper} {st s s1 s2 s3 : St} {n0 : Nat} {Q : Exit → St → Prop} {t u : Ti}
theorem jV {id : Nat} {y : Code} (n : Nat) (t : Ti) (ks : List Nat) (hX : X.n0 = n0) (hH : StepsL Tryz.prog TT n0 ls.toArray t st s2) (h2 : Runs Tryz.prog X ls.toArray (ls.drop n) s2 s3) (hk : W Tryz.prog X y (s3.keep ks) Q)
    (hB : tisB .any ls.toArray n t = true := by kernel_rfl) : W Tryz.prog X (.seq (.region id ls.toArray true) y) st Q := W_tiseqK n t ks hmo hB tok hX hH h2 hk
theorem jVr {id : Nat} (n : Nat) (t : Ti) (hX : X.n0 = n0) (hH : StepsL Tryz.prog TT n0 ls.toArray t st s2) (h2 : Runs Tryz.prog X ls.toArray (ls.drop n) s2 s3) (hq : Q .normal s3)
    (hB : tisB .any ls.toArray n t = true := by kernel_rfl) : W Tryz.prog X (.region id ls.toArray true) st Q := W_tis hmo hB tok hX hH h2 hq
theorem jVp {i : Nat} (h : runTk TT n0 ops [] [i] s = some s1) (k : StepsL Tryz.prog TT n0 ops t s1 s2) : StepsL Tryz.prog TT n0 ops (.pur i t) s s2 := .pur h k
theorem jVo {i : Nat} {o : Oper} (ho : ops[i]? = some o := by rfl) (p : ∀ X : Ctx, X.n0 = n0 → Runs Tryz.prog X ops [o] s s1) (k : StepsL Tryz.prog TT n0 ops t s1 s2) : StepsL Tryz.prog TT n0 ops (.one i t) s s2 := .one ho p k
theorem jVt {i j : Nat} (h1 : StepsL Tryz.prog TT n0 ops (.one i t) s s2) (h2 : StepsL Tryz.prog TT n0 ops (.one j u) s s2) : StepsL Tryz.prog TT n0 ops (.two i j t u) s s2 := .two h1 h2
end
end Go.Proofs
namespace Go.Proofs
open Go Go.Ev
theorem plc_next {l : List Cls} {es : List (Str × Int)} {i : Nat} (h : i < l.length) :
    plc es i (l.drop i) = plc (if (lookM es l[i].name).isSome then es else es ++ [(l[i].name, (i : Int))]) (i + 1) (l.drop (i + 1)) := by
  rw [List.drop_eq_getElem_cons h]; rfl
abbrev wob (l : List Cls) (bm : Nat) : Ob := some (2, [.agg [.lst false 6 (l.map eC), .raw (.map (some bm))]])
abbrev wst (l : List Cls) (bm : Nat) (a : Nat × List (Str × Int)) : St := ⟨sp 40 [(3, .ptr 0 0 0), (12, .lst false 6 (l.map eC)), (13, .int .i64 l.length), (14, .int .i64 a.1)], [wob l bm]⟩
theorem cb_impl_worldOf : Callable Tryz.prog 113 := ⟨_, Tryz.func113, by kernel_rfl, by kernel_rfl⟩
set_option maxHeartbeats 2000000 in
set_option maxRecDepth 100000 in
theorem ct_impl_worldOf {l : List Cls} (hl : l.length ≤ 1099511627776) : Ct Tryz.prog 113 [.lst false 6 (l.map eC)] [] (wv l) [] := by
  refine Ct_bodyS tok Tryz.func113 rfl 40 (by kernel_rfl) (by kernel_rfl) fun X hX => ?_
  refine W_rseqK [0] (Runs.run tok hX (by simp; rfl)) ?_
  refine W_le (Le.of_eq (by simp; rfl)) ?_
  refine W_mono2 (W_makeMap (F := places l) (x := .lst false 6 (l.map eC)) (t2 := 2) (Qj := fun bm e s es => e = .ret ∧ s = ⟨sp 40 [(2, .ptr 0 0 0)], [wob l bm]⟩ ∧ es = places l) hX (by rfl)
    (by intro X hX; exact opB_ok tok hX (by simp; rfl)) (by rfl) (by simp; rfl) (by rfl) (by rfl) (by rfl) (by rfl) (by simp [V.fz]) (by rfl) ?_ ?_) ?_
  · intro X1 bm hX1
    refine WLJ_lift fun X' hX' hmk => ?_
    refine WL_runsK [3, 0] (Runs.run tok hX' (by simp; rfl)) ⟨rfl, ?_⟩
    refine WJ_seq ?_
    refine WJ_seq ?_
    refine WJ_lift fun X' hX' hmk => ?_
    refine W_regK [3, 12, 13, 14] (Runs.run tok hX' (by simp; rfl)) ?_
    simp only [thenJ]
    refine WJ_block ?_
    refine WJ_loop (α := Nat × List (Str × Int)) (wst l bm) (fun a => a.2) (fun a => a.1 ≤ l.length ∧ plc a.2 a.1 (l.drop a.1) = places l) (fun a => l.length - a.1) (0, []) (by simp) rfl ⟨by simp, rfl⟩ ?_
    rintro ⟨i, es⟩ ⟨hi, hI⟩
    simp only at hi hI
    refine WJ_seq ?_
    refine WJ_lift fun X' hX' hmk => ?_
    refine W_regK [3, 12, 13, 14, 15] (Runs.run tok hX' (by simp; rfl)) ?_
    simp only [thenJ]
    refine WJ_seq ?_
    refine WJ_cond (by simp; rfl) (fun h => ?_) (fun h => ?_)
    · simp at h
      refine WJ_lift fun X' hX' hmk => W_skip ?_
      simp only [thenJ]
      refine WJ_seq ?_
      refine WJ_block ?_
      refine WJ_seq ?_
      refine WJ_lift fun X' hX' hmk => ?_
      refine W_regK [3, 12, 13, 14, 4, 5] (Runs.run tok hX' (by simp [h]; rfl)) ?_
      simp only [thenJ]
      refine WJ_seq ?_
      refine WJ_lift fun X' hX' hmk => ?_
      refine W_drawnK [3, 12, 13, 14, 4, 5, 7] hmo (by kernel_rfl) (RunsQ.step (n0 := 0) 6 tok (by simp; rfl) (RunsQ.lookR tok hmk (by rfl) (by rfl) (by rfl) (by rfl) (by rfl) (by rfl) (by rfl) (by rfl) (by simp) (by simp; rfl) (RunsQ.run (n0 := 0) tok (by simp; rfl)))) ?_
      simp only [thenJ]
      refine WJ_seq ?_
      refine WJ_lift fun X' hX' hmk => ?_
      refine W_regK [3, 12, 13, 14, 4, 5, 30] (Runs.run tok hX' (by simp; rfl)) ?_
      simp only [thenJ]
      have hnx := plc_next (es := es) h
      have hw : IntKind.i64.wrap ((i : Int) + 1) = ((i + 1 : Nat) : Int) := by rw [wrap_i64 (by omega) (by omega)]; simp
      refine WJ_cond (by simp; rfl) (fun h2 => ?_) (fun h2 => ?_)
      · have hn : lookM es l[i].name = none := by simpa using h2
        refine WJ_mapSet (s := l[i].name) (i := (i : Int)) 7 tok hmo (by kernel_rfl) (RunsS.run (n0 := 0) tok (by simp; rfl)) (by rfl) (by rfl) (by rfl) (by rfl) (by rfl) (by rfl) (by rfl) (by rfl) (by simp) (by simp) (by simp) hn ?_
        simp only [blockJ, thenJ]
        refine WJ_trimK 1 (by rw [hX1]; omega) (by simp) (by simp; rfl) ?_
        refine WJ_lift fun X' hX' hmk => ?_
        refine W_regK [3, 12, 13, 14] (Runs.run tok hX' (by simp; rfl)) ?_
        simp only [thenJ]
        refine ⟨(i + 1, es ++ [(l[i].name, (i : Int))]), by simp [hw], rfl, ⟨by simp; omega, ?_⟩, by simp; omega⟩
        rw [hnx, hn] at hI
        exact hI
      · have hn : (lookM es l[i].name).isSome = true := by simpa using h2
        refine WJ_lift fun X' hX' hmk => W_skip ?_
        simp only [blockJ, thenJ]
        refine WJ_trimK 1 (by rw [hX1]; omega) (by simp) (by simp; rfl) ?_
        refine WJ_lift fun X' hX' hmk => ?_
        refine W_regK [3, 12, 13, 14] (Runs.run tok hX' (by simp; rfl)) ?_
        simp only [thenJ]
        refine ⟨(i + 1, es), by simp [hw], rfl, ⟨by simp; omega, ?_⟩, by simp; omega⟩
        rw [hnx, if_pos hn] at hI
        exact hI
    · simp at h
      refine WJ_lift fun X' hX' hmk => W_exit ?_
      simp only [thenJ, blockJ]
      rw [if_pos trivial]
      rw [List.drop_eq_nil_of_le h] at hI
      simp only [plc] at hI
      subst hI
      refine WJ_seq ?_
      refine WJ_lift fun X' hX' hmk => ?_
      refine W_regK [2] (Runs.run tok hX' (by simp; rfl)) ?_
      simp only [thenJ]
      exact WJ_lift fun X' hX' hmk => W_ret ⟨rfl, by simp, rfl⟩
  · rintro bm e s es ⟨rfl, rfl, rfl⟩
    exact ⟨.inl rfl, rfl, by simp, by simp [sp_length], rfl⟩
  · rintro e s ⟨he, rfl⟩
    rcases he with rfl | rfl
    · exact W_retR (by simp; rfl) (.of_eq (by rfl)) rfl
    · exact W_endR (by simp; rfl) (.of_eq (by rfl)) rfl
end Go.Proofs

namespace Go.Proofs
open Go Go.Ev


theorem cb_slices_Index_string_string : Callable Tryz.prog 119 := ⟨_, Tryz.func119, by kernel_rfl, by kernel_rfl⟩
theorem ct_slices_Index_string_string {l : List Str} {t : Str} (hl : l.length ≤ 1099511627776) : Ct Tryz.prog 119 [.lst false 1 (l.map V.str), .str t] [] (.int .i64 (fix (fun x => decide (t = x)) l)) [] := by
  refine Ct_bodyS tok Tryz.func119 rfl 19 (by kernel_rfl) (by kernel_rfl) fun X hX => ?_
  refine jq [0, 1] ?_
  refine W_seq (jq [0, 1, 7, 8] ?_)
  refine W_block (W_loopU (α := Nat) [0, 1, 7, 8] (fun i => [(8, .int .i64 i)]) (fun i => []) (fun i => i ≤ l.length ∧ ∀ x ∈ l.take i, (fun x => decide (t = x)) x = false) (fun i => l.length - i) (0) (fun i => by simp; rfl) (by simp) ?_ ?_)
  · simp
  rintro i ⟨hi, hI⟩
  refine jq [0, 1, 7, 8, 9] ?_
  refine W_seq (jd (fun h2 => ?_) (fun h2 => ?_))
  · try simp at h2
    refine W_skip (W_seq (W_block (jq [0, 1, 5, 7, 8] ?_)))
    refine W_rseqK [0, 1, 5, 7, 8, 16] (jh hX (by simp [h2]; rfl)) ?_
    refine jd (fun h4 => ?_) (fun h4 => ?_)
    · try simp at h4
      refine jq [4] ?_
      refine W_ret (je (by simp [h2]; rfl) ?_)
      rw [fix_hit h2 hI (by simpa using h4)]
    · try simp at h4
      refine W_skip (W_reg (jh hX (by simp; (try (simp (disch := omega) only [wrap_i64]; (try simp))); rfl)) ?_)
      refine round_end (i + 1) [0, 1, 7, 8] (by simp [h2]; try (simp (disch := omega) only [wrap_i64])) ?_ ?_
      · exact ⟨by omega, take_not h2 hI (by simpa using h4)⟩
      · omega
  · try simp at h2
    refine W_exit (jq [4] ?_)
    refine W_ret (je (by simp [h2]; rfl) ?_)
    rw [fix_none (p := fun x => decide (t = x)) (fun x hx => hI x (by rw [List.take_of_length_le h2]; exact hx))]
end Go.Proofs
namespace Go.Proofs
open Go Go.Ev


theorem cb_slices_Contains_string_string : Callable Tryz.prog 70 := ⟨_, Tryz.func70, by kernel_rfl, by kernel_rfl⟩
theorem ct_slices_Contains_string_string {l : List Str} {t : Str} (hl : l.length ≤ 1099511627776) : Ct Tryz.prog 70 [.lst false 1 (l.map V.str), .str t] [] (.bool (l.any (fun x => decide (t = x)))) [] := by
  refine Ct_bodyS tok Tryz.func70 rfl 9 (by kernel_rfl) (by kernel_rfl) fun X hX => ?_
  refine jq [0, 1] ?_
  refine W_rseqK [4] (jt 2 (k:=(jc [] (c:=(by apply ct_slices_Index_string_string <;> first | assumption | omega | (simp at *; omega) | simp_all)) (a:=cb_slices_Index_string_string) (k:=jr)))) ?_
  refine W_ret (je0 ?_)
  rw [← fix_ge]
end Go.Proofs
namespace Go.Proofs
open Go Go.Ev


theorem cb_impl_builtIn : Callable Tryz.prog 128 := ⟨_, Tryz.func128, by kernel_rfl, by kernel_rfl⟩
theorem ct_impl_builtIn  : Ct Tryz.prog 128 [] [] (.lst true 1 (builtIn.map V.str)) [] := by
  refine Ct_bodyS tok Tryz.func128 rfl 2 (by kernel_rfl) (by kernel_rfl) fun X hX => ?_
  refine jq [] ?_
  refine jq [0] ?_
  refine W_ret (je0 ?_)
  simp [builtIn]
end Go.Proofs
namespace Go.Proofs
open Go Go.Ev


theorem cb_impl_isBuiltIn : Callable Tryz.prog 96 := ⟨_, Tryz.func96, by kernel_rfl, by kernel_rfl⟩
theorem ct_impl_isBuiltIn {n : Str} : Ct Tryz.prog 96 [.str n] [] (.bool (bIn n)) [] := by
  refine Ct_bodyS tok Tryz.func96 rfl 6 (by kernel_rfl) (by kernel_rfl) fun X hX => ?_
  refine jq [0] ?_
  refine W_rseqK [2] (jc [] (c:=(by apply ct_impl_builtIn <;> first | assumption | omega | (simp at *; omega) | simp_all)) (a:=cb_impl_builtIn) (k:=(jt 1 (k:=(jB (c:=(by apply (ct_slices_Contains_string_string (l := builtIn)) <;> first | decide | simp)) (a:=cb_slices_Contains_string_string) (k:=jr)))))) ?_
  refine W_ret (je0 ?_)
  rw [bIn_any]
end Go.Proofs
namespace Go.Proofs
open Go Go.Ev


theorem cb_impl_length : Callable Tryz.prog 104 := ⟨_, Tryz.func104, by kernel_rfl, by kernel_rfl⟩
theorem ct_impl_length {t : Str} : Ct Tryz.prog 104 [.str t] [] (.int .i64 t.length) [] := by
  refine Ct_bodyS tok Tryz.func104 rfl 5 (by kernel_rfl) (by kernel_rfl) fun X hX => ?_
  refine jq [0] ?_
  refine jq [2] ?_
  refine W_ret (je0 ?_)
  simp
end Go.Proofs
namespace Go.Proofs
open Go Go.Ev


theorem cb_impl_reader_is : Callable Tryz.prog 186 := ⟨_, Tryz.func186, by kernel_rfl, by kernel_rfl⟩
theorem ct_impl_reader_is {t : Str} {p : Nat} {b : Bool} {n : Int} (ht : t.length ≤ 1099511627776) (hp : p ≤ t.length) (hn0 : 0 ≤ n) (hn1 : n < 256) : Ct Tryz.prog 186 [.ptr 0 0 0, .int .u8 n] [rdr t p b] (.bool (hit t p b n.toNat)) [rdr t p b] := by
  obtain ⟨m, rfl⟩ : ∃ m : Nat, n = m := ⟨n.toNat, by omega⟩
  refine Ct_bodyS tok Tryz.func186 rfl 35 (by kernel_rfl) (by kernel_rfl) fun X hX => ?_
  refine jq [0, 1] ?_
  refine jD [4] (jS 6 (by simp; rfl) (jM 11 10 [0, 1, 21] (p:=fun b1_6 => by (try simp at b1_6); exact (jS 8 (by simp [-atD_lt, -atL_lt]; rfl) (jC (c:=by apply ct_impl_length <;> first | assumption | omega | (simp at *; omega) | simp_all) (a:=cb_impl_length) (k:=(jQ (by simp [-atD_lt, -atL_lt]; rfl)))))) (q:=fun b1_6 => by (try simp at b1_6); exact (jQ (by simp [-atD_lt, -atL_lt]; rfl))) (k:=(jS 1 (by simp; rfl) (jM 12 22 [34] (p:=fun b1_18 => by (try simp at b1_18); exact (jQ (by simp [-atD_lt, -atL_lt, b1_18]; rfl))) (q:=fun b1_18 => by (try simp at b1_18); exact (jQ (by simp [-atD_lt, -atL_lt]; rfl))) (k:=(jQ (by simp; rfl)))))))) ?_
  refine W_ret (je0 ?_)
  rcases Nat.lt_or_ge p t.length with h | h
  · (simp [hit, isAt_lt h, h]) <;> grind
  · (simp [hit, isAt_ge h]) <;> omega
end Go.Proofs
namespace Go.Proofs
open Go Go.Ev


theorem cb_impl_reader_take : Callable Tryz.prog 144 := ⟨_, Tryz.func144, by kernel_rfl, by kernel_rfl⟩
theorem ct_impl_reader_take {t : Str} {p : Nat} {b : Bool} {n : Int} (ht : t.length ≤ 1099511627776) (hp : p ≤ t.length) (hn0 : 0 ≤ n) (hn1 : n < 256) : Ct Tryz.prog 144 [.ptr 0 0 0, .int .u8 n] [rdr t p b] (.bool (hit t p b n.toNat)) [rdr t (adv (hit t p b n.toNat) p) b] := by
  refine Ct_bodyS tok Tryz.func144 rfl 16 (by kernel_rfl) (by kernel_rfl) fun X hX => ?_
  refine jq [0, 1] ?_
  refine W_seq (W_rseqK [0, 8] (jt 2 (k:=(jc [0] (c:=(by apply ct_impl_reader_is <;> first | assumption | omega | (simp at *; omega) | simp_all)) (a:=cb_impl_reader_is) (k:=jr)))) ?_)
  refine jd (fun h1 => ?_) (fun h1 => ?_)
  · try simp at h1
    refine jq [4] ?_
    refine W_ret (W_retR2 (by simp; rfl) (by rfl) (.of_eq ?_) ?_)
    all_goals clear hX
    · skip
      simp_all
    · skip
      simp_all
  · try simp at h1
    refine W_skip (W_rseqK [] (jh hX (by simp; (try (simp (disch := omega) only [wrap_i64]; (try simp))); rfl)) ?_)
    refine jq [4] ?_
    refine W_ret (W_retR2 (by simp; rfl) (by rfl) (.of_eq ?_) ?_)
    all_goals clear hX
    · skip
      simp_all
    · skip
      simp_all
end Go.Proofs
namespace Go.Proofs
open Go Go.Ev


theorem cb_internal_stringslite_IndexByte : Callable Tryz.prog 235 := ⟨_, Tryz.func235, by kernel_rfl, by kernel_rfl⟩
theorem ct_internal_stringslite_IndexByte {t : Str} {c : UInt8} : Ct Tryz.prog 235 [.str t, .int .u8 c.toNat] [] (.int .i64 (ixL c t)) [] := by
  refine Ct_bodyS tok Tryz.func235 rfl 8 (by kernel_rfl) (by kernel_rfl) fun X hX => ?_
  refine jq [0, 1] ?_
  refine W_rseqK [4] (jt 2 (k:=(Runs.extIB rfl (by simp) (by simp; rfl) (by simp; rfl) ext_IB (by simp; rfl) jr))) ?_
  refine W_ret (je0 ?_)
  simp
end Go.Proofs
namespace Go.Proofs
open Go Go.Ev


theorem cb_strings_IndexByte : Callable Tryz.prog 219 := ⟨_, Tryz.func219, by kernel_rfl, by kernel_rfl⟩
theorem ct_strings_IndexByte {t : Str} {c : UInt8} : Ct Tryz.prog 219 [.str t, .int .u8 c.toNat] [] (.int .i64 (ixL c t)) [] := by
  refine Ct_bodyS tok Tryz.func219 rfl 8 (by kernel_rfl) (by kernel_rfl) fun X hX => ?_
  refine jq [0, 1] ?_
  refine W_rseqK [4] (jt 2 (k:=(jc [] (c:=(by apply ct_internal_stringslite_IndexByte <;> first | assumption | omega | (simp at *; omega) | simp_all)) (a:=cb_internal_stringslite_IndexByte) (k:=jr)))) ?_
  refine W_ret (je0 ?_)
  simp
end Go.Proofs
namespace Go.Proofs
open Go Go.Ev


theorem cb_impl_isNameByte : Callable Tryz.prog 187 := ⟨_, Tryz.func187, by kernel_rfl, by kernel_rfl⟩
theorem ct_impl_isNameByte {c : UInt8} {n : Int} : Ct Tryz.prog 187 [.int .u8 c.toNat, .int .i64 n] [] (.bool (nameByte c (decide (n ≤ 0)))) [] := by
  obtain ⟨k1, k2⟩ := nameTable_byte c
  rw [show nameTable = [48, 49, 50, 51, 52, 53, 54, 55, 56, 57, 97, 98, 99, 100, 101, 102, 103, 104, 105, 106, 107, 108, 109, 110, 111, 112, 113, 114, 115, 116, 117, 118, 119, 120, 121, 122, 65, 66, 67, 68, 69, 70, 71, 72, 73, 74, 75, 76, 77, 78, 79, 80, 81, 82, 83, 84, 85, 86, 87, 88, 89, 90, 36] from rfl] at k1 k2
  refine Ct_bodyS tok Tryz.func187 rfl 18 (by kernel_rfl) (by kernel_rfl) fun X hX => ?_
  refine jq [0, 1] ?_
  refine W_rseqK [1, 5] (jt 1 (k:=(jc [] (c:=(by apply ct_strings_IndexByte <;> first | assumption | omega | (simp at *; omega) | simp_all)) (a:=cb_strings_IndexByte) (k:=jr)))) ?_
  refine W_rseqK [4] (jt 3 (k:=(jm 7 10 [17] (p:=fun b2_3 => by (try simp at b2_3); exact (jh hX (by simp [-atD_lt, -atL_lt]; rfl))) (q:=fun b2_3 => by (try simp at b2_3); exact (js hX 3 (by simp [-atD_lt, -atL_lt]; rfl) (jm 3 13 [10, 16] (p:=fun b2_6 => by (try simp at b2_6); exact (jh hX (by simp [-atD_lt, -atL_lt]; rfl))) (q:=fun b2_6 => by (try simp at b2_6); exact (jh hX (by simp [-atD_lt, -atL_lt]; rfl))) (k:=(jh hX (by simp [-atD_lt, -atL_lt]; rfl)))))) (k:=jr)))) ?_
  refine W_ret (je0 ?_)
  by_cases hn : n ≤ 0
  · rw [decide_eq_true hn, ← k1]; simp; omega
  · have hp : 0 < n := by omega
    rw [decide_eq_false hn, ← k2]; simp [hp]; grind
end Go.Proofs
namespace Go.Proofs
open Go Go.Ev


theorem cb_impl_reader_want : Callable Tryz.prog 188 := ⟨_, Tryz.func188, by kernel_rfl, by kernel_rfl⟩
theorem ct_impl_reader_want {t : Str} {p : Nat} {b : Bool} {n : Int} (ht : t.length ≤ 1099511627776) (hp : p ≤ t.length) (hn0 : 0 ≤ n) (hn1 : n < 256) : Ct Tryz.prog 188 [.ptr 0 0 0, .int .u8 n] [rdr t p b] (.tup []) [rdr t (adv (hit t p b n.toNat) p) (b || !hit t p b n.toNat)] := by
  refine Ct_bodyS tok Tryz.func188 rfl 11 (by kernel_rfl) (by kernel_rfl) fun X hX => ?_
  refine W_rseqK [0, 7] (jt 2 (k:=(jc [0] (c:=(by apply ct_impl_reader_take <;> first | assumption | omega | (simp at *; omega) | simp_all)) (a:=cb_impl_reader_take) (k:=jr)))) ?_
  refine jd (fun h0 => ?_) (fun h0 => ?_)
  · try simp at h0
    refine W_reg jr ?_
    refine W_endR2 (by simp; rfl) (by rfl) (.of_eq ?_) ?_
    all_goals clear hX
    · skip
      rfl
    · skip
      simp_all
  · try simp at h0
    refine W_skip (W_endR2 (by simp; rfl) (by rfl) (.of_eq ?_) ?_)
    all_goals clear hX
    · skip
      rfl
    · skip
      simp_all
end Go.Proofs
namespace Go.Proofs
open Go Go.Ev


theorem cb_impl_reader_name : Callable Tryz.prog 145 := ⟨_, Tryz.func145, by kernel_rfl, by kernel_rfl⟩
theorem ct_impl_reader_name {t : Str} {p : Nat} {b : Bool} (ht : t.length ≤ 1099511627776) (hp : p ≤ t.length) : Ct Tryz.prog 145 [.ptr 0 0 0] [rdr t p b] (.tup []) [rdr t (if b = true then p else (nmP t p).1) (b || !(nmP t p).2)] := by
  refine Ct_bodyS tok Tryz.func145 rfl 69 (by kernel_rfl) (by kernel_rfl) fun X hX => ?_
  refine jq [0, 2] ?_
  refine W_seq (W_block (W_loopU (α := Nat) [0, 2] (fun i => []) (fun i => [(0, rdr t i b)]) (fun i => p ≤ i ∧ i ≤ t.length ∧ i - p ≤ 20 ∧ (b = true → i = p) ∧ i + nameRun (20 - (i - p)) (decide (i = p)) (t.drop i) = p + nameRun 20 true (t.drop p)) (fun i => t.length - i) (p) (fun i => by simp; rfl) (by simp) ?_ ?_))
  · simp; omega
  rintro i ⟨h0i, hi, hn, hb, hI⟩
  refine W_seq (jD [0, 2, 50] (jS 6 (by simp; rfl) (jM 11 12 [0, 2, 23] (p:=fun b1_6 => by (try simp at b1_6); exact (jS 8 (by simp [-atD_lt, -atL_lt]; rfl) (jC (c:=by apply ct_impl_length <;> first | assumption | omega | (simp at *; omega) | simp_all) (a:=cb_impl_length) (k:=(jQ (by simp [-atD_lt, -atL_lt]; rfl)))))) (q:=fun b1_6 => by (try simp at b1_6); exact (jQ (by simp [-atD_lt, -atL_lt]; rfl))) (k:=(jS 1 (by simp; rfl) (jM 8 24 [0, 2, 32] (p:=fun b1_18 => by (try simp at b1_18); exact (jQ (by simp [-atD_lt, -atL_lt, b1_18]; (try (simp (disch := omega) only [wrap_i64]; (try simp [-atD_lt, -atL_lt, b1_18]))); rfl))) (q:=fun b1_18 => by (try simp at b1_18); exact (jQ (by simp [-atD_lt, -atL_lt]; rfl))) (k:=(jS 1 (by simp; rfl) (jM 17 33 [0, 2, 50] (p:=fun b1_27 => by (try simp at b1_27); exact (jS 15 (by simp [-atD_lt, -atL_lt, b1_27]; (try (simp (disch := omega) only [wrap_i64]; (try simp [-atD_lt, -atL_lt, b1_27]))); rfl) (jC (c:=by apply ct_impl_isNameByte <;> first | assumption | omega | (simp at *; omega) | simp_all) (a:=cb_impl_isNameByte) (k:=(jQ (by simp [-atD_lt, -atL_lt]; rfl)))))) (q:=fun b1_27 => by (try simp at b1_27); exact (jQ (by simp [-atD_lt, -atL_lt]; rfl))) (k:=(RunsQ.fin (by (try simp); rfl))))))))))) ?_)
  have hge : t.length ≤ i → nameRun (20 - (i - p)) (decide (i = p)) (t.drop i) = 0 := fun h => by rw [List.drop_eq_nil_of_le h]; simp [nameRun]
  have hg2 : i - p = 20 → nameRun (20 - (i - p)) (decide (i = p)) (t.drop i) = 0 := fun h => by rw [h]; simp [nameRun]
  have hg3 := fun h1 h2 => @drop_nameRun t i p h1 h2 h0i
  refine jd (fun h1 => ?_) (fun h1 => ?_)
  · try simp at h1
    have ⟨⟨⟨h1d, h1a⟩, h1b⟩, h1c⟩ := h1
    rw [atD_lt h1a, show decide ((i : Int) - p ≤ 0) = decide (i = p) from by simp; omega] at h1c
    rw [hg3 h1a (by omega), if_pos h1c] at hI
    refine W_skip (W_block (W_reg (jh hX (by simp [h1]; (try (simp (disch := omega) only [wrap_i64]; (try simp [h1]))); rfl)) ?_))
    refine round_end (i + 1) [0, 2] (by simp [h1]; try (simp (disch := omega) only [wrap_i64])) ?_ ?_
    · exact ⟨by omega, by omega, by omega, by simp_all, by omega⟩
    · omega
  · try simp at h1
    have hI2 : b = false → i = p + nameRun 20 true (t.drop p) := by
      intro hbf
      rcases Nat.lt_or_ge i t.length with hl | hl
      · by_cases hk : i - p = 20
        · have := hg2 hk; omega
        · rw [hg3 hl (by omega)] at hI
          have : nameByte t[i] (decide (i = p)) = false := by
            rw [← atD_lt hl]; have := h1 hbf hl (by omega); rwa [show decide ((i : Int) - p ≤ 0) = decide (i = p) from by simp; omega] at this
          rw [this] at hI; simpa using hI
      · have := hge hl; omega
    have hnm : b = false → nmP t p = if (isAt t i 59 && !decide (i = p)) then (i + 1, true) else (i, false) := by
      intro hbf; simp only [nmP, ← hI2 hbf]
    clear hI hI2 hg2 hg3 hge
    refine W_exit (W_seq (W_rseqK [0, 63] (jh hX (by simp [h1]; rfl)) ?_))
    refine' W_condS3 [0] (by simp; rfl) (by rfl) (fun h3 => ?a1_1) (fun h3 => ?a0_1) ?ak_1
    case a1_1 =>
      try simp at h3
      refine W_reg (jh hX (by simp [h1]; rfl)) ?_
      exact ⟨rfl, Eq.trans (by (try simp); rfl) (by rfl)⟩
    case a0_1 =>
      try simp at h3
      refine W_skip ?_
      exact ⟨rfl, Eq.trans (by (try simp); rfl) (by rfl)⟩
    case ak_1 =>
      refine W_le (Le.of_eq (by simp; rfl)) ?_
      refine W_reg (jt 1 (k:=(jc [0] (c:=(by apply ct_impl_reader_want <;> first | assumption | omega | (simp at *; omega) | simp_all)) (a:=cb_impl_reader_want) (k:=jf)))) ?_
      refine W_endR2 (by simp [h1]; rfl) (by rfl) (.of_eq ?_) ?_
      all_goals clear hX
      · skip
        rfl
      · skip
        cases b
        · have hnm := hnm rfl
          by_cases hip : i = p <;> by_cases h9 : isAt t i 59 = true <;> simp_all [hit]
        · simp_all [hit]
end Go.Proofs
namespace Go.Proofs
open Go Go.Ev


theorem cb_impl_reader_kind : Callable Tryz.prog 103 := ⟨_, Tryz.func103, by kernel_rfl, by kernel_rfl⟩
theorem ct_impl_reader_kind {t : Str} {p : Nat} (ht : t.length ≤ 1099511627776) (hp : p ≤ t.length) : Ct Tryz.prog 103 [.ptr 0 0 0] [rdr t p false] (.str (if (tyP t p).2 = true then seg t p (tyP t p).1 else [])) [rdr t (tyP t p).1 (!(tyP t p).2)] := by
  refine Ct_bodyS tok Tryz.func103 rfl 35 (by kernel_rfl) (by kernel_rfl) fun X hX => ?_
  refine jq [0] ?_
  refine jq [0, 3] ?_
  refine W_rseqK [0, 3] (jt 1 (k:=(jc [0] (c:=(by apply ct_impl_reader_take <;> first | assumption | omega | (simp [*] <;> omega) | simp_all)) (a:=cb_impl_reader_take) (k:=jf)))) ?_
  obtain ⟨q, hq, hqt, hql, hpq⟩ : ∃ q, adv (isAt t p 91) p = q ∧ tyP t p = tyP1 t q ∧ q ≤ t.length ∧ p ≤ q := ⟨_, rfl, by simp only [tyP]; split <;> simp_all, by have := @adv_le t p 91; omega, by have := @adv_le t p 91; omega⟩
  refine W_le (Le.of_eq (by simp [hq]; rfl)) ?_
  refine W_seq (W_block (W_rseqK [0, 3, 13] (jt 1 (k:=(jc [0] (c:=(by apply ct_impl_reader_take <;> first | assumption | omega | (simp [*] <;> omega) | simp_all)) (a:=cb_impl_reader_take) (k:=jr)))) ?_))
  refine jd (fun h4 => ?_) (fun h4 => ?_)
  · try simp at h4
    have h4l := lt_of_isAt h4
    have s1 : q + 1 ≤ t.length := h4l
    have s2 : p ≤ q + 1 := by omega
    refine W_skip (W_seq (W_rseqK [0, 3, 24] (jh hX (by simp [h4, s1, s2]; rfl)) ?_))
    refine jd (fun h7 => ?_) (fun h7 => ?_)
    · try simp at h7
      all_goals
        refine jq [2] ?_
        refine W_ret (W_retR2 (by simp [h4, s1, s2]; rfl) (by rfl) (.of_eq ?_) ?_)
        all_goals clear hX
        · skip
          simp_all [tyP1, seg]
        · skip
          simp_all [tyP1]
    · try simp at h7
      all_goals
        refine W_skip (jD [2] (jQ (by simp [h4, s1, s2]; rfl)) ?_)
        refine W_ret (W_retR2 (by simp [h4, s1, s2]; rfl) (by rfl) (.of_eq ?_) ?_)
        all_goals clear hX
        · skip
          simp_all [tyP1, seg]
        · skip
          simp_all [tyP1]
  · try simp at h4
    skip
    refine W_rseqK [0, 3, 16] (jt 1 (k:=(Runs.call [0] rfl (by simp) rfl (by simp [h4]; rfl) (by simp; rfl) (by apply ct_impl_reader_take <;> first | assumption | omega | (simp [*] <;> omega) | simp_all) cb_impl_reader_take (by simp) (by simp) (by simp [h4]; rfl) jr))) ?_
    refine jd (fun h5 => ?_) (fun h5 => ?_)
    · try simp at h5
      have h5l := lt_of_isAt h5
      have hnl := nmP_le (t := t) (p := q + 1) (by omega)
      have s1 := hnl.2.1
      have s2 : p ≤ (nmP t (q + 1)).1 := by omega
      refine W_reg (jt 1 (k:=(Runs.call [0] rfl (by simp) rfl (by simp [h4, h5, s1, s2]; rfl) (by simp; rfl) (by apply ct_impl_reader_name <;> first | assumption | omega | (simp [*] <;> omega) | simp_all) cb_impl_reader_name (by simp) (by simp) (by simp [h4, h5, s1, s2]; rfl) jf))) ?_
      refine W_seq (W_rseqK [0, 3, 24] (jh hX (by simp [h4, h5, s1, s2]; rfl)) ?_)
      refine jd (fun h7 => ?_) (fun h7 => ?_)
      · try simp at h7
        all_goals
          refine jq [2] ?_
          refine W_ret (W_retR2 (by simp [h4, h5, s1, s2]; rfl) (by rfl) (.of_eq ?_) ?_)
          all_goals clear hX
          · skip
            simp_all [tyP1, seg]
          · skip
            simp_all [tyP1]
      · try simp at h7
        all_goals
          refine W_skip (jD [2] (jQ (by simp [h4, h5, s1, s2]; rfl)) ?_)
          refine W_ret (W_retR2 (by simp [h4, h5, s1, s2]; rfl) (by rfl) (.of_eq ?_) ?_)
          all_goals clear hX
          · skip
            simp_all [tyP1, seg]
          · skip
            simp_all [tyP1]
    · try simp at h5
      skip
      refine W_reg (jh hX (by simp [h4, h5]; rfl)) ?_
      refine W_seq (W_rseqK [0, 3, 24] (jh hX (by simp [h4, h5]; rfl)) ?_)
      refine jd (fun h7 => ?_) (fun h7 => ?_)
      · try simp at h7
        all_goals
          refine jq [2] ?_
          refine W_ret (W_retR2 (by simp [h4, h5]; rfl) (by rfl) (.of_eq ?_) ?_)
          all_goals clear hX
          · skip
            simp_all [tyP1, seg]
          · skip
            simp_all [tyP1]
      · try simp at h7
        all_goals
          refine W_skip (jD [2] (jQ (by simp [h4, h5]; rfl)) ?_)
          refine W_ret (W_retR2 (by simp [h4, h5]; rfl) (by rfl) (.of_eq ?_) ?_)
          all_goals clear hX
          · skip
            simp_all [tyP1, seg]
          · skip
            simp_all [tyP1]
end Go.Proofs
namespace Go.Proofs
open Go Go.Ev


theorem cb_impl_typeRight : Callable Tryz.prog 58 := ⟨_, Tryz.func58, by kernel_rfl, by kernel_rfl⟩
theorem ct_impl_typeRight {t : Str} (ht : t.length ≤ 1099511627776) : Ct Tryz.prog 58 [.str t] [] (.bool (typeRight t)) [] := by
  refine Ct_bodyS tok Tryz.func58 rfl 23 (by kernel_rfl) (by kernel_rfl) fun X hX => ?_
  refine jq [0] ?_
  refine jq [0, 3] ?_
  refine W_rseqK [0, 3] (jt 1 (k:=(jc [0] (c:=(by apply ct_impl_reader_kind <;> first | assumption | omega | (simp at *; omega) | simp_all)) (a:=cb_impl_reader_kind) (k:=jf)))) ?_
  refine jD [2] (jS 6 (by simp; rfl) (jM 8 14 [22] (p:=fun b3_6 => by (try simp at b3_6); exact (jS 5 (by simp [-atD_lt, -atL_lt]; rfl) (jC (c:=by apply ct_impl_length <;> first | assumption | omega | (simp at *; omega) | simp_all) (a:=cb_impl_length) (k:=(jQ (by simp [-atD_lt, -atL_lt]; rfl)))))) (q:=fun b3_6 => by (try simp at b3_6); exact (jQ (by simp [-atD_lt, -atL_lt]; rfl))) (k:=(jQ (by simp; rfl))))) ?_
  refine W_ret (je0 ?_)
  have := @tyP_le t 0 (by omega)
  simp only [typeRight]
  cases (tyP t 0).2 <;> simp
  omega
end Go.Proofs
namespace Go.Proofs
open Go Go.Ev


theorem cb_impl_within : Callable Tryz.prog 60 := ⟨_, Tryz.func60, by kernel_rfl, by kernel_rfl⟩
theorem ct_impl_within {n a b : Int} : Ct Tryz.prog 60 [.int .i64 n, .int .i64 a, .int .i64 b] [] (.bool (decide (a ≤ n ∧ n ≤ b))) [] := by
  refine Ct_bodyS tok Tryz.func60 rfl 15 (by kernel_rfl) (by kernel_rfl) fun X hX => ?_
  refine jq [0, 1, 2] ?_
  refine W_rseqK [6] (jt 4 (k:=(jm 4 10 [14] (p:=fun b1_4 => by (try simp at b1_4); exact (jh hX (by simp [-atD_lt, -atL_lt]; rfl))) (q:=fun b1_4 => by (try simp at b1_4); exact (jh hX (by simp [-atD_lt, -atL_lt]; rfl))) (k:=jr)))) ?_
  refine W_ret (je0 ?_)
  (try simp_all) <;> grind
end Go.Proofs
namespace Go.Proofs
open Go Go.Ev


theorem cb_impl_NameRight : Callable Tryz.prog 200 := ⟨_, Tryz.func200, by kernel_rfl, by kernel_rfl⟩
theorem ct_impl_NameRight {t : Str} (ht : t.length ≤ 1099511627776) : Ct Tryz.prog 200 [.str t] [] (.bool (nameRight t)) [] := by
  refine Ct_bodyS tok Tryz.func200 rfl 19 (by kernel_rfl) (by kernel_rfl) fun X hX => ?_
  refine jq [0] ?_
  refine W_seq (jq [0, 5, 6] ?_)
  refine W_block (W_loopU (α := Nat) [0, 5, 6] (fun i => [(6, .int .i64 i)]) (fun i => []) (fun i => i ≤ t.length ∧ nameFrom (decide (i = 0)) (t.drop i) = nameFrom true t) (fun i => t.length - i) (0) (fun i => by simp; rfl) (by simp) ?_ ?_)
  · simp
  rintro i ⟨hi, hI⟩
  refine jq [0, 5, 6, 7] ?_
  refine W_seq (jd (fun h2 => ?_) (fun h2 => ?_))
  · try simp at h2
    rw [List.drop_eq_getElem_cons h2] at hI
    simp only [nameFrom] at hI
    refine W_skip (W_seq (W_block (jq [0, 3, 5, 6] ?_)))
    refine W_rseqK [0, 5, 6, 14] (js hX 4 (by simp [h2]; rfl) (jc [] (c:=(by apply ct_impl_isNameByte <;> first | assumption | omega | (simp at *; omega) | simp_all)) (a:=cb_impl_isNameByte) (k:=jr))) ?_
    refine jd (fun h4 => ?_) (fun h4 => ?_)
    · try simp at h4
      refine jq [2] ?_
      refine W_ret (je (by simp [h2]; rfl) ?_)
      rw [nameRight, ← hI, h4]; simp
    · try simp at h4
      rw [h4, Bool.true_and] at hI
      refine W_skip (W_reg (jh hX (by simp; (try (simp (disch := omega) only [wrap_i64]; (try simp))); rfl)) ?_)
      refine round_end (i + 1) [0, 5, 6] (by simp [h2]; try (simp (disch := omega) only [wrap_i64])) ?_ ?_
      · exact ⟨by omega, by simpa using hI⟩
      · omega
  · try simp at h2
    rw [List.drop_eq_nil_of_le h2] at hI
    simp only [nameFrom] at hI
    refine W_exit (W_rseqK [2] (jt 1 (k:=(jc [] (c:=(by apply ct_impl_length <;> first | assumption | omega | (simp at *; omega) | simp_all)) (a:=cb_impl_length) (k:=(jc [] (c:=(by apply ct_impl_within <;> first | assumption | omega | (simp at *; omega) | simp_all)) (a:=cb_impl_within) (k:=jr)))))) ?_)
    refine W_ret (je (by simp [h2]; rfl) ?_)
    rw [nameRight, ← hI]; simp
end Go.Proofs
namespace Go.Proofs
open Go Go.Ev


theorem cb_impl_Class_fieldAt_1 : Callable Tryz.prog 226 := ⟨_, Tryz.func226, by kernel_rfl, by kernel_rfl⟩
theorem ct_impl_Class_fieldAt_1 {x : Fld} {n : Str} : Ct Tryz.prog 226 [eF x, .fp [.str n]] [] (.bool (decide (x.name = n))) [] := by
  refine Ct_bodyS tok Tryz.func226 rfl 8 (by kernel_rfl) (by kernel_rfl) fun X hX => ?_
  refine jq [1, 2] ?_
  refine jq [3] ?_
  refine W_ret (je0 ?_)
  simp_all
end Go.Proofs
namespace Go.Proofs
open Go Go.Ev


theorem cb_slices_IndexFunc_impl_Field_impl_Field : Callable Tryz.prog 225 := ⟨_, Tryz.func225, by kernel_rfl, by kernel_rfl⟩
theorem ct_slices_IndexFunc_impl_Field_impl_Field {n : Str} {l : List Fld} (hl : l.length ≤ 1099511627776) : Ct Tryz.prog 225 [.lst false 3 (l.map eF), .clo (.func 226) [] [.fp [.str n]]] [] (.int .i64 (fix (fun x => decide (x.name = n)) l)) [] := by
  refine Ct_bodyS tok Tryz.func225 rfl 19 (by kernel_rfl) (by kernel_rfl) fun X hX => ?_
  refine jq [0, 1] ?_
  refine W_seq (jq [0, 1, 7, 8] ?_)
  refine W_block (W_loopU (α := Nat) [0, 1, 7, 8] (fun i => [(8, .int .i64 i)]) (fun i => []) (fun i => i ≤ l.length ∧ ∀ x ∈ l.take i, (fun x => decide (x.name = n)) x = false) (fun i => l.length - i) (0) (fun i => by simp; rfl) (by simp) ?_ ?_)
  · simp
  rintro i ⟨hi, hI⟩
  refine jq [0, 1, 7, 8, 9] ?_
  refine W_seq (jd (fun h2 => ?_) (fun h2 => ?_))
  · try simp at h2
    refine W_skip (W_seq (W_block (jq [0, 1, 5, 7, 8] ?_)))
    refine W_rseqK [0, 1, 5, 7, 8, 16] (js hX 5 (by simp [h2]; rfl) (jc [] (c:=(by apply ct_impl_Class_fieldAt_1 <;> first | assumption | exact hs _ (List.getElem_mem h2) | omega)) (a:=cb_impl_Class_fieldAt_1) (k:=jf))) ?_
    refine jd (fun h4 => ?_) (fun h4 => ?_)
    · try simp at h4
      refine jq [4] ?_
      refine W_ret (je (by simp [h2]; rfl) ?_)
      rw [fix_hit h2 hI (by simpa using h4)]
    · try simp at h4
      refine W_skip (W_reg (jh hX (by simp; (try (simp (disch := omega) only [wrap_i64]; (try simp))); rfl)) ?_)
      refine round_end (i + 1) [0, 1, 7, 8] (by simp [h2]; try (simp (disch := omega) only [wrap_i64])) ?_ ?_
      · exact ⟨by omega, take_not h2 hI (by simpa using h4)⟩
      · omega
  · try simp at h2
    refine W_exit (jq [4] ?_)
    refine W_ret (je (by simp [h2]; rfl) ?_)
    rw [fix_none (p := fun x => decide (x.name = n)) (fun x hx => hI x (by rw [List.take_of_length_le h2]; exact hx))]
end Go.Proofs
namespace Go.Proofs
open Go Go.Ev


theorem cb_impl_Class_fieldAt : Callable Tryz.prog 201 := ⟨_, Tryz.func201, by kernel_rfl, by kernel_rfl⟩
theorem ct_impl_Class_fieldAt {x : Cls} {n : Str} (h : x.fields.length ≤ 1099511627776) : Ct Tryz.prog 201 [eC x, .str n] [] (.int .i64 (fix (fun f => decide (f.name = n)) x.fields)) [] := by
  refine Ct_bodyS tok Tryz.func201 rfl 9 (by kernel_rfl) (by kernel_rfl) fun X hX => ?_
  refine jq [2, 3] ?_
  refine W_rseqK [4] (jt 3 (k:=(jB (c:=(by apply ct_slices_IndexFunc_impl_Field_impl_Field <;> first | assumption | omega | (simp at *; omega) | simp_all)) (a:=cb_slices_IndexFunc_impl_Field_impl_Field) (k:=jr)))) ?_
  refine W_ret (je0 ?_)
  simp_all
end Go.Proofs
namespace Go.Proofs
open Go Go.Ev


theorem cb_impl_descRead : Callable Tryz.prog 205 := ⟨_, Tryz.func205, by kernel_rfl, by kernel_rfl⟩
theorem ct_impl_descRead {t : Str} (ht : t.length ≤ 1099511627776) : Ct Tryz.prog 205 [.str t] [] (eDO (dRead t)) [] := by
  refine Ct_bodyS tok Tryz.func205 rfl 66 (by kernel_rfl) (by kernel_rfl) fun X hX => ?_
  refine jq [0, 2] ?_
  refine jq [0, 2, 3, 4] ?_
  refine W_rseqK [0, 2, 3, 4] (jt 1 (k:=(jc [1] (c:=(by apply ct_impl_reader_want <;> first | assumption | omega | (simp [*] <;> omega) | (simp <;> omega))) (a:=cb_impl_reader_want) (k:=jf)))) ?_
  refine W_seq (W_block (W_le (Le.nilC 2 0 0 1 (by simp; rfl)) ?_))
  refine W_loopU (α := List Str × Nat × Bool) [0, 2, 3, 4] (fun a => []) (fun a => [(1, rdr t a.2.1 a.2.2), (2, some (2, [.agg [.arr 3 0 a.1.length, .str []]])), (3, some (1, a.1.map V.str))]) (fun a => a.2.1 ≤ t.length ∧ a.1.length ≤ 8 ∧ (a.2.2 = true → dRead t = dErr a.2.1) ∧ (a.2.2 = false → isAt t 0 40 = true ∧ dParams t (8 - a.1.length) a.2.1 a.1 = dParams t 8 1 [])) (fun a => 8 - a.1.length) (([], adv (isAt t 0 40) 0, !isAt t 0 40)) (fun a => by simp; rfl) (by simp) ?_ ?_
  · have h9 := @adv_le t 0 40
    refine ⟨by simp; omega, by simp, ?_, ?_⟩
    · intro h; simp at h; simp [dRead, h]
    · intro h; simp at h; simp [h]
  rintro ⟨ps, p, b⟩ ⟨hp, hn, hE, hI⟩
  simp only at hp hn hE hI
  cases b
  all_goals
    refine W_seq ?_
    first | (refine W_rseqK [0, 2, 3, 4, 20] (jt 7 (k:=(jc [1] (c:=(by apply ct_impl_reader_take <;> first | assumption | omega | (simp [*] <;> omega) | (simp <;> omega))) (a:=cb_impl_reader_take) (k:=jr)))) ?_) | (refine jq [0, 2, 3, 4, 20] ?_) | (refine W_rseqK [0, 2, 3, 4, 20] (jt 6 (k:=(jm 4 16 [0, 2, 3, 4, 20] (p:=fun b3_6 => by (try simp at b3_6); exact (js hX 1 (by simp [-atD_lt, -atL_lt]; rfl) (Runs.call [1] rfl (by simp) rfl (by simp [-atD_lt, -atL_lt]; rfl) (by simp; rfl) (by apply ct_impl_reader_take <;> first | assumption | omega | (simp [*] <;> omega) | (simp <;> omega)) cb_impl_reader_take (by simp) (by simp) (by simp [-atD_lt, -atL_lt]; rfl) (jh hX (by simp [-atD_lt, -atL_lt]; rfl))))) (q:=fun b3_6 => by (try simp at b3_6); exact (jh hX (by simp [-atD_lt, -atL_lt]; rfl))) (k:=jf)))) ?_)
    refine jd (fun h3 => ?_) (fun h3 => ?_)
    · try simp at h3
      all_goals
        have h3b : isAt t p 41 = false := by simpa using h3
        obtain ⟨hI1, hI⟩ := hI rfl
        have w1 : (ps.length + 1) * 16 ≤ 140737488355328 := by omega
        have w2 : ps.length ≤ 1099511627775 := by omega
        refine W_skip (W_block (W_seq (W_rseqK [0, 2, 3, 4, 24] (jh hX (by simp [h3b, w1, w2]; rfl)) ?_)))
        refine jd (fun h4 => ?_) (fun h4 => ?_)
        · try simp at h4
          have h4b : 8 - ps.length = 0 := by omega
          rw [h4b, dParams, if_neg (by simp [h3b])] at hI
          have hd : dRead t = dErr p := dRead_err hI1 hI.symm
          refine W_rseqK [0, 2, 3, 4] (jh hX (by simp [h3b, w1, w2]; rfl)) ?_
          refine W_exit (W_seq (W_rseqK [0, 2, 3, 4, 36] (jt 1 (k:=(jc [1] (c:=(by apply ct_impl_reader_take <;> first | assumption | omega | (simp [*] <;> omega) | (simp <;> omega))) (a:=cb_impl_reader_take) (k:=jf)))) ?_))
          refine jd (fun h7 => ?_) (fun h7 => ?_)
          · try simp at h7
            all_goals
              have h7b : isAt t (p + 1) 86 = true := by simpa [h3b] using h7
              have w2 := lt_of_isAt h7b
              refine W_reg (jh hX (by simp [h3b, w1, w2, h7b, w2]; rfl)) ?_
              refine W_seq ?_
              first | (refine jD [2, 3, 4, 58] (jQ (by simp [h3b, w1, w2, h7b, w2]; rfl)) ?_) | (refine jD [2, 3, 4, 58] (jS 10 (by simp [h3b, w1, w2, h7b, w2]; rfl) (jC (c:=by apply ct_impl_length <;> first | assumption | omega | (simp [*] <;> omega) | (simp <;> omega)) (a:=cb_impl_length) (k:=(jQ (by simp; rfl))))) ?_) | (refine jD [2, 3, 4, 58] (jS 5 (by simp [h3b, w1, w2, h7b, w2]; rfl) (jM 8 50 [2, 3, 4, 58] (p:=fun b11_5 => by (try simp at b11_5); exact (jQ (by simp [-atD_lt, -atL_lt]; rfl))) (q:=fun b11_5 => by (try simp at b11_5); exact (jS 5 (by simp [-atD_lt, -atL_lt, h3b, w1, w2, h7b, w2]; rfl) (jC (c:=by apply ct_impl_length <;> first | assumption | omega | (simp [*] <;> omega) | (simp <;> omega)) (a:=cb_impl_length) (k:=(jQ (by simp [-atD_lt, -atL_lt]; rfl)))))) (k:=(RunsQ.fin (by (try simp); rfl))))) ?_)
              refine jd (fun h11 => ?_) (fun h11 => ?_)
              · try simp at h11
                all_goals
                  refine W_rseqK [2] (jh hX (by simp [h3b, w1, w2, h7b, w2, h11]; rfl)) ?_
                  refine W_ret (W_retR (by simp [h3b, w1, w2, h7b, w2, h11]; rfl) ?_ rfl)
                  first
                    | (rw [hd]; exact wk_err _ _ _)
                    | (rw [hE rfl]; exact wk_err _ _ _)
                    | (rw [hd, show dTail t ps p = dErr (p + 2) from by simp only [dTail, h7b, if_true]; rw [if_pos (by omega)]]; exact wk_err _ _ _)
                    | (rw [hd, show dTail t ps p = dErr (tyP t (p + 1)).1 from by simp only [dTail, h7b, Bool.false_eq_true, if_false]; grind]; exact wk_err _ _ _)
              · try simp at h11
                all_goals
                  refine W_skip (W_rseqK [2] (jh hX (by simp [h3b, w1, w2, h7b, w2, h11]; rfl)) ?_)
                  refine W_ret (W_retR (by simp [h3b, w1, w2, h7b, w2, h11]; rfl) ?_ rfl)
                  first
                    | (rw [hd, show dTail t ps p = ⟨ps, [86], 0, 0⟩ from by simp only [dTail, h7b, if_true]; rw [if_neg (by omega)]]; exact Wk.refl _)
                    | (rw [hd, show dTail t ps p = ⟨ps, seg t (p + 1) (tyP t (p + 1)).1, 0, 0⟩ from by simp only [dTail, h7b, Bool.false_eq_true, if_false]; grind]; exact Wk.refl _)
          · try simp at h7
            all_goals
              first
                | (have h7b : isAt t (p + 1) 86 = false := by simpa [h3b] using h7)
                | have h7b := trivial
              refine W_rseqK [0, 2, 3, 4, 42] (jh hX (by simp [h3b, w1, w2, h7b]; rfl)) ?_
              refine jd (fun h9 => ?_) (fun h9 => ?_)
              · try simp at h9
                all_goals
                  refine W_reg (jt 1 (k:=(jc [1] (c:=(by apply ct_impl_reader_kind <;> first | assumption | omega | (simp [*] <;> omega) | (simp <;> omega))) (a:=cb_impl_reader_kind) (k:=(jh hX (by simp [h3b, w1, w2, h7b]; rfl)))))) ?_
                  refine W_seq ?_
                  first | (refine jD [2, 3, 4, 58] (jQ (by simp [h3b, w1, w2, h7b]; rfl)) ?_) | (refine jD [2, 3, 4, 58] (jS 10 (by simp [h3b, w1, w2, h7b]; rfl) (jC (c:=by apply ct_impl_length <;> first | assumption | omega | (simp [*] <;> omega) | (simp <;> omega)) (a:=cb_impl_length) (k:=(jQ (by simp; rfl))))) ?_) | (refine jD [2, 3, 4, 58] (jS 5 (by simp [h3b, w1, w2, h7b]; rfl) (jM 8 50 [2, 3, 4, 58] (p:=fun b11_5 => by (try simp at b11_5); exact (jQ (by simp [-atD_lt, -atL_lt]; rfl))) (q:=fun b11_5 => by (try simp at b11_5); exact (jS 5 (by simp [-atD_lt, -atL_lt, h3b, w1, w2, h7b]; rfl) (jC (c:=by apply ct_impl_length <;> first | assumption | omega | (simp [*] <;> omega) | (simp <;> omega)) (a:=cb_impl_length) (k:=(jQ (by simp [-atD_lt, -atL_lt]; rfl)))))) (k:=(RunsQ.fin (by (try simp); rfl))))) ?_)
                  refine jd (fun h11 => ?_) (fun h11 => ?_)
                  · try simp at h11
                    all_goals
                      refine W_rseqK [2] (jh hX (by simp [h3b, w1, w2, h7b, h11]; rfl)) ?_
                      refine W_ret (W_retR (by simp [h3b, w1, w2, h7b, h11]; rfl) ?_ rfl)
                      first
                        | (rw [hd]; exact wk_err _ _ _)
                        | (rw [hE rfl]; exact wk_err _ _ _)
                        | (rw [hd, show dTail t ps p = dErr (p + 2) from by simp only [dTail, h7b, if_true]; rw [if_pos (by omega)]]; exact wk_err _ _ _)
                        | (rw [hd, show dTail t ps p = dErr (tyP t (p + 1)).1 from by simp only [dTail, h7b, Bool.false_eq_true, if_false]; grind]; exact wk_err _ _ _)
                  · try simp at h11
                    all_goals
                      refine W_skip (W_rseqK [2] (jh hX (by simp [h3b, w1, w2, h7b, h11]; rfl)) ?_)
                      refine W_ret (W_retR (by simp [h3b, w1, w2, h7b, h11]; rfl) ?_ rfl)
                      first
                        | (rw [hd, show dTail t ps p = ⟨ps, [86], 0, 0⟩ from by simp only [dTail, h7b, if_true]; rw [if_neg (by omega)]]; exact Wk.refl _)
                        | (rw [hd, show dTail t ps p = ⟨ps, seg t (p + 1) (tyP t (p + 1)).1, 0, 0⟩ from by simp only [dTail, h7b, Bool.false_eq_true, if_false]; grind]; exact Wk.refl _)
              · try simp at h9
                all_goals
                  refine W_skip (W_seq ?_)
                  first | (refine jD [2, 3, 4, 58] (jQ (by simp [h3b, w1, w2, h7b]; rfl)) ?_) | (refine jD [2, 3, 4, 58] (jS 10 (by simp [h3b, w1, w2, h7b]; rfl) (jC (c:=by apply ct_impl_length <;> first | assumption | omega | (simp [*] <;> omega) | (simp <;> omega)) (a:=cb_impl_length) (k:=(jQ (by simp; rfl))))) ?_) | (refine jD [2, 3, 4, 58] (jS 5 (by simp [h3b, w1, w2, h7b]; rfl) (jM 8 50 [2, 3, 4, 58] (p:=fun b11_5 => by (try simp at b11_5); exact (jQ (by simp [-atD_lt, -atL_lt]; rfl))) (q:=fun b11_5 => by (try simp at b11_5); exact (jS 5 (by simp [-atD_lt, -atL_lt, h3b, w1, w2, h7b]; rfl) (jC (c:=by apply ct_impl_length <;> first | assumption | omega | (simp [*] <;> omega) | (simp <;> omega)) (a:=cb_impl_length) (k:=(jQ (by simp [-atD_lt, -atL_lt]; rfl)))))) (k:=(RunsQ.fin (by (try simp); rfl))))) ?_)
                  refine jd (fun h11 => ?_) (fun h11 => ?_)
                  · try simp at h11
                    all_goals
                      refine W_rseqK [2] (jh hX (by simp [h3b, w1, w2, h7b, h11]; rfl)) ?_
                      refine W_ret (W_retR (by simp [h3b, w1, w2, h7b, h11]; rfl) ?_ rfl)
                      first
                        | (rw [hd]; exact wk_err _ _ _)
                        | (rw [hE rfl]; exact wk_err _ _ _)
                        | (rw [hd, show dTail t ps p = dErr (p + 2) from by simp only [dTail, h7b, if_true]; rw [if_pos (by omega)]]; exact wk_err _ _ _)
                        | (rw [hd, show dTail t ps p = dErr (tyP t (p + 1)).1 from by simp only [dTail, h7b, Bool.false_eq_true, if_false]; grind]; exact wk_err _ _ _)
                  · try simp at h11
                    all_goals
                      refine W_skip (W_rseqK [2] (jh hX (by simp [h3b, w1, w2, h7b, h11]; rfl)) ?_)
                      refine W_ret (W_retR (by simp [h3b, w1, w2, h7b, h11]; rfl) ?_ rfl)
                      first
                        | (rw [hd, show dTail t ps p = ⟨ps, [86], 0, 0⟩ from by simp only [dTail, h7b, if_true]; rw [if_neg (by omega)]]; exact Wk.refl _)
                        | (rw [hd, show dTail t ps p = ⟨ps, seg t (p + 1) (tyP t (p + 1)).1, 0, 0⟩ from by simp only [dTail, h7b, Bool.false_eq_true, if_false]; grind]; exact Wk.refl _)
        · try simp at h4
          have h4b : 8 - ps.length = (8 - (ps.length + 1)) + 1 := by omega
          rw [h4b, dParams, if_neg (by simp [h3b])] at hI
          obtain ⟨hge, hle, hgt, _⟩ := tyP_le hp
          have hE3 : (!(tyP t p).2) = true → dRead t = dErr (tyP t p).1 := by
            intro h; rw [if_neg (by simpa using h)] at hI; exact dRead_err hI1 hI.symm
          have hI3 : (!(tyP t p).2) = false → isAt t 0 40 = true ∧ dParams t (8 - (ps ++ [if (tyP t p).2 = true then seg t p (tyP t p).1 else []]).length) (tyP t p).1 (ps ++ [if (tyP t p).2 = true then seg t p (tyP t p).1 else []]) = dParams t 8 1 [] := by
            intro h; have h : (tyP t p).2 = true := by simpa using h
            rw [if_pos h] at hI ⊢; refine ⟨hI1, ?_⟩; rw [← hI]; simp
          refine W_skip (W_held (n := 5) (A := [0, 1, 2]) (B := [3, 4]) (L := [2]) hmo (by kernel_rfl) tok hX (by simp [h3b, w1, w2]; rfl) (jH (p:=fun X hX => (jc [1] (c:=(by apply ct_impl_reader_kind <;> first | assumption | omega | (simp [*] <;> omega) | (simp <;> omega))) (a:=cb_impl_reader_kind) (k:=jf))) (k:=(jH (p:=fun X hX => jr) (k:=.nil)))) (jh hX (by simp [h3b, w1, w2]; rfl)) ?_)
          refine round_endT ((ps ++ [if (tyP t p).2 = true then seg t p (tyP t p).1 else []], (tyP t p).1, !(tyP t p).2)) [0, 2, 3, 4] 4 (by simp [hX]) (by simp) (by simp [h3b, w1, w2]; try (simp (disch := omega) only [wrap_i64])) ?_ ?_
          · exact ⟨hle, by simp; omega, hE3, hI3⟩
          · simp; omega
    · try simp at h3
      all_goals
        first
          | (have h3b : isAt t p 41 = true := by simpa using h3
             have hI1 := (hI rfl).1
             have hI := (hI rfl).2
             have hd : dRead t = dTail t ps p := dRead_ok hI1 (by rw [← hI]; cases 8 - ps.length <;> simp [dParams, h3b])
             have w0 : p + 1 ≤ t.length := lt_of_isAt h3b
             have w1 := tyP_le w0)
          | (have h3b := trivial
             have w0 := trivial
             have w1 := trivial)
        refine W_exit (W_seq (W_rseqK [0, 2, 3, 4, 36] (jt 1 (k:=(jc [1] (c:=(by apply ct_impl_reader_take <;> first | assumption | omega | (simp [*] <;> omega) | (simp <;> omega))) (a:=cb_impl_reader_take) (k:=jf)))) ?_))
        refine jd (fun h7 => ?_) (fun h7 => ?_)
        · try simp at h7
          all_goals
            have h7b : isAt t (p + 1) 86 = true := by simpa [h3b] using h7
            have w2 := lt_of_isAt h7b
            refine W_reg (jh hX (by simp [h3b, w0, w1, h7b, w2]; rfl)) ?_
            refine W_seq ?_
            first | (refine jD [2, 3, 4, 58] (jQ (by simp [h3b, w0, w1, h7b, w2]; rfl)) ?_) | (refine jD [2, 3, 4, 58] (jS 10 (by simp [h3b, w0, w1, h7b, w2]; rfl) (jC (c:=by apply ct_impl_length <;> first | assumption | omega | (simp [*] <;> omega) | (simp <;> omega)) (a:=cb_impl_length) (k:=(jQ (by simp; rfl))))) ?_) | (refine jD [2, 3, 4, 58] (jS 5 (by simp [h3b, w0, w1, h7b, w2]; rfl) (jM 8 50 [2, 3, 4, 58] (p:=fun b11_5 => by (try simp at b11_5); exact (jQ (by simp [-atD_lt, -atL_lt]; rfl))) (q:=fun b11_5 => by (try simp at b11_5); exact (jS 5 (by simp [-atD_lt, -atL_lt, h3b, w0, w1, h7b, w2]; rfl) (jC (c:=by apply ct_impl_length <;> first | assumption | omega | (simp [*] <;> omega) | (simp <;> omega)) (a:=cb_impl_length) (k:=(jQ (by simp [-atD_lt, -atL_lt]; rfl)))))) (k:=(RunsQ.fin (by (try simp); rfl))))) ?_)
            refine jd (fun h11 => ?_) (fun h11 => ?_)
            · try simp at h11
              all_goals
                refine W_rseqK [2] (jh hX (by simp [h3b, w0, w1, h7b, w2, h11]; rfl)) ?_
                refine W_ret (W_retR (by simp [h3b, w0, w1, h7b, w2, h11]; rfl) ?_ rfl)
                first
                  | (rw [hd]; exact wk_err _ _ _)
                  | (rw [hE rfl]; exact wk_err _ _ _)
                  | (rw [hd, show dTail t ps p = dErr (p + 2) from by simp only [dTail, h7b, if_true]; rw [if_pos (by omega)]]; exact wk_err _ _ _)
                  | (rw [hd, show dTail t ps p = dErr (tyP t (p + 1)).1 from by simp only [dTail, h7b, Bool.false_eq_true, if_false]; grind]; exact wk_err _ _ _)
            · try simp at h11
              all_goals
                refine W_skip (W_rseqK [2] (jh hX (by simp [h3b, w0, w1, h7b, w2, h11]; rfl)) ?_)
                refine W_ret (W_retR (by simp [h3b, w0, w1, h7b, w2, h11]; rfl) ?_ rfl)
                first
                  | (rw [hd, show dTail t ps p = ⟨ps, [86], 0, 0⟩ from by simp only [dTail, h7b, if_true]; rw [if_neg (by omega)]]; exact Wk.refl _)
                  | (rw [hd, show dTail t ps p = ⟨ps, seg t (p + 1) (tyP t (p + 1)).1, 0, 0⟩ from by simp only [dTail, h7b, Bool.false_eq_true, if_false]; grind]; exact Wk.refl _)
        · try simp at h7
          all_goals
            first
              | (have h7b : isAt t (p + 1) 86 = false := by simpa [h3b] using h7)
              | have h7b := trivial
            refine W_rseqK [0, 2, 3, 4, 42] (jh hX (by simp [h3b, w0, w1, h7b]; rfl)) ?_
            refine jd (fun h9 => ?_) (fun h9 => ?_)
            · try simp at h9
              all_goals
                refine W_reg (jt 1 (k:=(jc [1] (c:=(by apply ct_impl_reader_kind <;> first | assumption | omega | (simp [*] <;> omega) | (simp <;> omega))) (a:=cb_impl_reader_kind) (k:=(jh hX (by simp [h3b, w0, w1, h7b]; rfl)))))) ?_
                refine W_seq ?_
                first | (refine jD [2, 3, 4, 58] (jQ (by simp [h3b, w0, w1, h7b]; rfl)) ?_) | (refine jD [2, 3, 4, 58] (jS 10 (by simp [h3b, w0, w1, h7b]; rfl) (jC (c:=by apply ct_impl_length <;> first | assumption | omega | (simp [*] <;> omega) | (simp <;> omega)) (a:=cb_impl_length) (k:=(jQ (by simp; rfl))))) ?_) | (refine jD [2, 3, 4, 58] (jS 5 (by simp [h3b, w0, w1, h7b]; rfl) (jM 8 50 [2, 3, 4, 58] (p:=fun b11_5 => by (try simp at b11_5); exact (jQ (by simp [-atD_lt, -atL_lt]; rfl))) (q:=fun b11_5 => by (try simp at b11_5); exact (jS 5 (by simp [-atD_lt, -atL_lt, h3b, w0, w1, h7b]; rfl) (jC (c:=by apply ct_impl_length <;> first | assumption | omega | (simp [*] <;> omega) | (simp <;> omega)) (a:=cb_impl_length) (k:=(jQ (by simp [-atD_lt, -atL_lt]; rfl)))))) (k:=(RunsQ.fin (by (try simp); rfl))))) ?_)
                refine jd (fun h11 => ?_) (fun h11 => ?_)
                · try simp at h11
                  all_goals
                    refine W_rseqK [2] (jh hX (by simp [h3b, w0, w1, h7b, h11]; rfl)) ?_
                    refine W_ret (W_retR (by simp [h3b, w0, w1, h7b, h11]; rfl) ?_ rfl)
                    first
                      | (rw [hd]; exact wk_err _ _ _)
                      | (rw [hE rfl]; exact wk_err _ _ _)
                      | (rw [hd, show dTail t ps p = dErr (p + 2) from by simp only [dTail, h7b, if_true]; rw [if_pos (by omega)]]; exact wk_err _ _ _)
                      | (rw [hd, show dTail t ps p = dErr (tyP t (p + 1)).1 from by simp only [dTail, h7b, Bool.false_eq_true, if_false]; grind]; exact wk_err _ _ _)
                · try simp at h11
                  all_goals
                    refine W_skip (W_rseqK [2] (jh hX (by simp [h3b, w0, w1, h7b, h11]; rfl)) ?_)
                    refine W_ret (W_retR (by simp [h3b, w0, w1, h7b, h11]; rfl) ?_ rfl)
                    first
                      | (rw [hd, show dTail t ps p = ⟨ps, [86], 0, 0⟩ from by simp only [dTail, h7b, if_true]; rw [if_neg (by omega)]]; exact Wk.refl _)
                      | (rw [hd, show dTail t ps p = ⟨ps, seg t (p + 1) (tyP t (p + 1)).1, 0, 0⟩ from by simp only [dTail, h7b, Bool.false_eq_true, if_false]; grind]; exact Wk.refl _)
            · try simp at h9
              all_goals
                refine W_skip (W_seq ?_)
                first | (refine jD [2, 3, 4, 58] (jQ (by simp [h3b, w0, w1, h7b]; rfl)) ?_) | (refine jD [2, 3, 4, 58] (jS 10 (by simp [h3b, w0, w1, h7b]; rfl) (jC (c:=by apply ct_impl_length <;> first | assumption | omega | (simp [*] <;> omega) | (simp <;> omega)) (a:=cb_impl_length) (k:=(jQ (by simp; rfl))))) ?_) | (refine jD [2, 3, 4, 58] (jS 5 (by simp [h3b, w0, w1, h7b]; rfl) (jM 8 50 [2, 3, 4, 58] (p:=fun b11_5 => by (try simp at b11_5); exact (jQ (by simp [-atD_lt, -atL_lt]; rfl))) (q:=fun b11_5 => by (try simp at b11_5); exact (jS 5 (by simp [-atD_lt, -atL_lt, h3b, w0, w1, h7b]; rfl) (jC (c:=by apply ct_impl_length <;> first | assumption | omega | (simp [*] <;> omega) | (simp <;> omega)) (a:=cb_impl_length) (k:=(jQ (by simp [-atD_lt, -atL_lt]; rfl)))))) (k:=(RunsQ.fin (by (try simp); rfl))))) ?_)
                refine jd (fun h11 => ?_) (fun h11 => ?_)
                · try simp at h11
                  all_goals
                    refine W_rseqK [2] (jh hX (by simp [h3b, w0, w1, h7b, h11]; rfl)) ?_
                    refine W_ret (W_retR (by simp [h3b, w0, w1, h7b, h11]; rfl) ?_ rfl)
                    first
                      | (rw [hd]; exact wk_err _ _ _)
                      | (rw [hE rfl]; exact wk_err _ _ _)
                      | (rw [hd, show dTail t ps p = dErr (p + 2) from by simp only [dTail, h7b, if_true]; rw [if_pos (by omega)]]; exact wk_err _ _ _)
                      | (rw [hd, show dTail t ps p = dErr (tyP t (p + 1)).1 from by simp only [dTail, h7b, Bool.false_eq_true, if_false]; grind]; exact wk_err _ _ _)
                · try simp at h11
                  all_goals
                    refine W_skip (W_rseqK [2] (jh hX (by simp [h3b, w0, w1, h7b, h11]; rfl)) ?_)
                    refine W_ret (W_retR (by simp [h3b, w0, w1, h7b, h11]; rfl) ?_ rfl)
                    first
                      | (rw [hd, show dTail t ps p = ⟨ps, [86], 0, 0⟩ from by simp only [dTail, h7b, if_true]; rw [if_neg (by omega)]]; exact Wk.refl _)
                      | (rw [hd, show dTail t ps p = ⟨ps, seg t (p + 1) (tyP t (p + 1)).1, 0, 0⟩ from by simp only [dTail, h7b, Bool.false_eq_true, if_false]; grind]; exact Wk.refl _)
end Go.Proofs
namespace Go.Proofs
open Go Go.Ev


theorem cb_impl_isMethodName : Callable Tryz.prog 227 := ⟨_, Tryz.func227, by kernel_rfl, by kernel_rfl⟩
theorem ct_impl_isMethodName {t : Str} (ht : t.length ≤ 1099511627776) : Ct Tryz.prog 227 [.str t] [] (.bool (nameRight t || decide (t = init))) [] := by
  refine Ct_bodyS tok Tryz.func227 rfl 9 (by kernel_rfl) (by kernel_rfl) fun X hX => ?_
  refine jq [0] ?_
  refine W_rseqK [2] (jt 1 (k:=(jc [] (c:=(by apply ct_impl_NameRight <;> first | assumption | omega | (simp at *; omega) | simp_all)) (a:=cb_impl_NameRight) (k:=(jt 1 (k:=(jm 3 5 [8] (p:=fun b1_3 => by (try simp at b1_3); exact (jh hX (by simp [-atD_lt, -atL_lt]; rfl))) (q:=fun b1_3 => by (try simp at b1_3); exact (jh hX (by simp [-atD_lt, -atL_lt]; rfl))) (k:=jr)))))))) ?_
  refine W_ret (je0 ?_)
  (try simp_all [init]) <;> grind
end Go.Proofs
namespace Go.Proofs
open Go Go.Ev


theorem cb_impl_isText : Callable Tryz.prog 79 := ⟨_, Tryz.func79, by kernel_rfl, by kernel_rfl⟩
theorem ct_impl_isText {l : List Str} (hl : l.length ≤ 1099511627776) : Ct Tryz.prog 79 [.lst false 1 (l.map V.str)] [] (.bool (l.all fun t => decide (t.length ≤ 20000))) [] := by
  refine Ct_bodyS tok Tryz.func79 rfl 15 (by kernel_rfl) (by kernel_rfl) fun X hX => ?_
  refine jq [0] ?_
  refine W_seq (jq [5, 6, 7] ?_)
  refine W_block (W_loopU (α := Nat) [5, 6, 7] (fun i => [(7, .int .i64 i)]) (fun i => []) (fun i => i ≤ l.length ∧ (l.drop i).all (fun t => decide (t.length ≤ 20000)) = l.all fun t => decide (t.length ≤ 20000)) (fun i => l.length - i) (0) (fun i => by simp; rfl) (by simp) ?_ ?_)
  · simp
  rintro i ⟨hi, hI⟩
  refine jq [5, 6, 7, 8] ?_
  refine W_seq (jd (fun h2 => ?_) (fun h2 => ?_))
  · try simp at h2
    rw [List.drop_eq_getElem_cons h2] at hI
    simp only [List.all_cons] at hI
    refine W_skip (W_seq (W_block (W_rseqK [4, 5, 6, 7] (jh hX (by simp [h2]; rfl)) ?_)))
    refine W_rseqK [5, 6, 7, 13] (jh hX (by simp [h2]; rfl)) ?_
    refine jd (fun h4 => ?_) (fun h4 => ?_)
    · try simp at h4
      refine jq [2] ?_
      refine W_ret (je (by simp [h2, h4]; rfl) ?_)
      rw [← hI, decide_eq_false (by omega)]; rfl
    · try simp at h4
      rw [decide_eq_true (by omega), Bool.true_and] at hI
      refine W_skip (W_reg (jh hX (by simp; (try (simp (disch := omega) only [wrap_i64]; (try simp))); rfl)) ?_)
      refine round_end (i + 1) [5, 6, 7] (by simp [h2, h4]; try (simp (disch := omega) only [wrap_i64])) ?_ ?_
      · exact ⟨by omega, hI⟩
      · omega
  · try simp at h2
    refine W_exit (jq [2] ?_)
    refine W_ret (je (by simp [h2]; rfl) ?_)
    rw [← hI, List.drop_eq_nil_of_le h2]; rfl
end Go.Proofs
namespace Go.Proofs
open Go Go.Ev


theorem cb_impl_isDesc : Callable Tryz.prog 228 := ⟨_, Tryz.func228, by kernel_rfl, by kernel_rfl⟩
theorem ct_impl_isDesc {t : Str} (ht : t.length ≤ 1099511627776) : Ct Tryz.prog 228 [.str t] [] (.bool (decide ((descRead t).code = 0))) [] := by
  refine Ct_bodyS tok Tryz.func228 rfl 12 (by kernel_rfl) (by kernel_rfl) fun X hX => ?_
  refine jq [0] ?_
  refine W_rseqK [2] (jt 2 (k:=(jB (c:=(by apply (ct_impl_isText (l := [t])) <;> simp)) (a:=cb_impl_isText) (k:=(jt 1 (k:=(jm 5 6 [11] (p:=fun b1_4 => by (try simp at b1_4); exact (js hX 1 (by simp [-atD_lt, -atL_lt]; rfl) (Runs.callF rfl (by simp) rfl (by simp [-atD_lt, -atL_lt]; rfl) (by apply ct_impl_descRead <;> first | assumption | omega | (simp at *; omega) | simp_all) cb_impl_descRead (by simp [-atD_lt, -atL_lt]; rfl) (jh hX (by simp [-atD_lt, -atL_lt]; rfl))))) (q:=fun b1_4 => by (try simp at b1_4); exact (jh hX (by simp [-atD_lt, -atL_lt]; rfl))) (k:=jr)))))))) ?_
  refine W_ret (je0 ?_)
  unfold descRead
  (try simp_all) <;> grind
end Go.Proofs
namespace Go.Proofs
open Go Go.Ev


theorem cb_impl_size_impl_Ins : Callable Tryz.prog 209 := ⟨_, Tryz.func209, by kernel_rfl, by kernel_rfl⟩
theorem ct_impl_size_impl_Ins {l : List Ins} : Ct Tryz.prog 209 [.lst false 5 (l.map eI)] [] (.int .i64 l.length) [] := by
  refine Ct_bodyS tok Tryz.func209 rfl 5 (by kernel_rfl) (by kernel_rfl) fun X hX => ?_
  refine jq [0] ?_
  refine jq [2] ?_
  refine W_ret (je0 ?_)
  simp
end Go.Proofs
namespace Go.Proofs
open Go Go.Ev


theorem cb_impl_isOp : Callable Tryz.prog 240 := ⟨_, Tryz.func240, by kernel_rfl, by kernel_rfl⟩
theorem ct_impl_isOp {n : Int} : Ct Tryz.prog 240 [.int .i64 n] [] (.bool (decide (1 ≤ n ∧ n ≤ 44))) [] := by
  refine Ct_bodyS tok Tryz.func240 rfl 5 (by kernel_rfl) (by kernel_rfl) fun X hX => ?_
  refine jq [0] ?_
  refine W_rseqK [2] (jt 1 (k:=(jc [] (c:=(by apply ct_impl_within <;> first | assumption | omega | (simp at *; omega) | simp_all)) (a:=cb_impl_within) (k:=jr)))) ?_
  refine W_ret (je0 ?_)
  simp
end Go.Proofs
namespace Go.Proofs
open Go Go.Ev


theorem cb_impl_opForms : Callable Tryz.prog 241 := ⟨_, Tryz.func241, by kernel_rfl, by kernel_rfl⟩
theorem ct_impl_opForms  : Ct Tryz.prog 241 [] [] (.lst true 1 (formL.map V.str)) [] := by
  refine Ct_bodyS tok Tryz.func241 rfl 2 (by kernel_rfl) (by kernel_rfl) fun X hX => ?_
  refine jq [] ?_
  refine jq [0] ?_
  refine W_ret (je0 ?_)
  rfl
end Go.Proofs
namespace Go.Proofs
open Go Go.Ev


theorem cb_impl_OpForm : Callable Tryz.prog 234 := ⟨_, Tryz.func234, by kernel_rfl, by kernel_rfl⟩
theorem ct_impl_OpForm {op : Int} : Ct Tryz.prog 234 [.int .i64 op] [] (.str (opForm op)) [] := by
  have hol : formL.length = 44 := rfl
  refine Ct_bodyS tok Tryz.func234 rfl 11 (by kernel_rfl) (by kernel_rfl) fun X hX => ?_
  refine jq [0] ?_
  refine W_seq (W_rseqK [0, 5] (jt 1 (k:=(jc [] (c:=(by apply ct_impl_isOp <;> first | assumption | omega | (simp at *; omega) | simp_all)) (a:=cb_impl_isOp) (k:=jr)))) ?_)
  refine jd (fun h1 => ?_) (fun h1 => ?_)
  · try simp at h1
    refine jq [2] ?_
    refine W_ret (je0 ?_)
    simp only [opForm]; rw [if_pos (by omega)]
  · try simp at h1
    obtain ⟨k, rfl⟩ : ∃ k : Nat, op = (k : Int) + 1 := ⟨(op - 1).toNat, by omega⟩
    have hk : k < formL.length := by rw [hol]; omega
    have hk1 : IntKind.i64.wrap ((k : Int) + 1 - 1) = k := by rw [wrap_i64 (by omega) (by omega)]; omega
    refine W_skip (W_rseqK [2] (jF (c:=(by apply ct_impl_opForms <;> first | assumption | omega | (simp at *; omega) | simp_all)) (a:=cb_impl_opForms) (k:=(jh hX (by simp [hk, hk1]; (try (simp (disch := omega) only [wrap_i64]; (try simp [hk, hk1]))); rfl)))) ?_)
    refine W_ret (je (by simp [hk, hk1]; rfl) ?_)
    simp only [opForm]; rw [if_neg (by omega), show ((k : Int) + 1 - 1).toNat = k from by omega]; simp [hk]
end Go.Proofs
namespace Go.Proofs
open Go Go.Ev


theorem cb_impl_isInt : Callable Tryz.prog 107 := ⟨_, Tryz.func107, by kernel_rfl, by kernel_rfl⟩
theorem ct_impl_isInt {n : Int} : Ct Tryz.prog 107 [.int .i64 n] [] (.bool (isInt n)) [] := by
  refine Ct_bodyS tok Tryz.func107 rfl 5 (by kernel_rfl) (by kernel_rfl) fun X hX => ?_
  refine jq [0] ?_
  refine W_rseqK [2] (jt 1 (k:=(jc [] (c:=(by apply ct_impl_within <;> first | assumption | omega | (simp at *; omega) | simp_all)) (a:=cb_impl_within) (k:=jr)))) ?_
  refine W_ret (je0 ?_)
  simp [isInt]
end Go.Proofs
namespace Go.Proofs
open Go Go.Ev


theorem cb_impl_InsRight : Callable Tryz.prog 236 := ⟨_, Tryz.func236, by kernel_rfl, by kernel_rfl⟩
theorem ct_impl_InsRight {x : Ins} (h : sizeI x ≤ 1099511627776) : Ct Tryz.prog 236 [eI x] [] (.bool (insRight x)) [] := by
  simp only [sizeI] at h
  refine Ct_bodyS tok Tryz.func236 rfl 143 (by kernel_rfl) (by kernel_rfl) fun X hX => ?_
  refine jq [1] ?_
  refine W_rseqK [1, 3] (jt 4 (k:=(jm 4 7 [1, 11] (p:=fun b1_4 => by (try simp at b1_4); exact (jh hX (by simp [-atD_lt, -atL_lt]; rfl))) (q:=fun b1_4 => by (try simp at b1_4); exact (jh hX (by simp [-atD_lt, -atL_lt]; rfl))) (k:=(jt 1 (k:=(jm 4 12 [1, 16] (p:=fun b1_9 => by (try simp at b1_9); exact (jh hX (by simp [-atD_lt, -atL_lt]; rfl))) (q:=fun b1_9 => by (try simp at b1_9); exact (jh hX (by simp [-atD_lt, -atL_lt]; rfl))) (k:=jr)))))))) ?_
  refine W_seq (W_rseqK [1, 3, 19] (jt 2 (k:=(jc [] (c:=(by apply ct_impl_OpForm <;> first | assumption | omega | (simp at *; omega) | simp_all)) (a:=cb_impl_OpForm) (k:=jf)))) ?_)
  refine W_block (jq [1, 3, 19, 20] ?_)
  refine jd (fun h3 => ?_) (fun h3 => ?_)
  · try simp at h3
    refine W_rseqK [2] (jt 2 (k:=(jm 4 23 [27] (p:=fun b4_2 => by (try simp at b4_2); exact (jh hX (by simp [-atD_lt, -atL_lt]; rfl))) (q:=fun b4_2 => by (try simp at b4_2); exact (jh hX (by simp [-atD_lt, -atL_lt]; rfl))) (k:=jr)))) ?_
    refine W_ret (je0 ?_)
    (try simp_all [insRight, insEmpty, isInt, init]) <;> grind
  · try simp at h3
    refine jq [1, 3, 19, 28] ?_
    refine jd (fun h5 => ?_) (fun h5 => ?_)
    · try simp at h5
      refine W_rseqK [2] (jt 2 (k:=(jm 4 31 [35] (p:=fun b6_2 => by (try simp at b6_2); exact (js hX 2 (by simp [-atD_lt, -atL_lt]; rfl) (Runs.call [] rfl (by simp) rfl (by simp [-atD_lt, -atL_lt]; rfl) (by simp; rfl) (by apply ct_impl_isInt <;> first | assumption | omega | (simp at *; omega) | simp_all) cb_impl_isInt (by simp) (by simp) (by simp [-atD_lt, -atL_lt]; rfl) (jh hX (by simp [-atD_lt, -atL_lt]; rfl))))) (q:=fun b6_2 => by (try simp at b6_2); exact (jh hX (by simp [-atD_lt, -atL_lt]; rfl))) (k:=jr)))) ?_
      refine W_ret (je0 ?_)
      (try simp_all [insRight, insEmpty, isInt, init]) <;> grind
    · try simp at h5
      refine jq [1, 3, 19, 36] ?_
      refine jd (fun h7 => ?_) (fun h7 => ?_)
      · try simp at h7
        refine W_rseqK [2] (jt 2 (k:=(jm 4 39 [43] (p:=fun b8_2 => by (try simp at b8_2); exact (js hX 2 (by simp [-atD_lt, -atL_lt]; rfl) (Runs.call [] rfl (by simp) rfl (by simp [-atD_lt, -atL_lt]; rfl) (by simp; rfl) (by apply ct_impl_within <;> first | assumption | omega | (simp at *; omega) | simp_all) cb_impl_within (by simp) (by simp) (by simp [-atD_lt, -atL_lt]; rfl) (jh hX (by simp [-atD_lt, -atL_lt]; rfl))))) (q:=fun b8_2 => by (try simp at b8_2); exact (jh hX (by simp [-atD_lt, -atL_lt]; rfl))) (k:=jr)))) ?_
        refine W_ret (je0 ?_)
        (try simp_all [insRight, insEmpty, isInt, init]) <;> grind
      · try simp at h7
        refine jq [1, 3, 19, 44] ?_
        refine jd (fun h9 => ?_) (fun h9 => ?_)
        · try simp at h9
          refine W_rseqK [2] (jt 2 (k:=(jm 4 47 [51] (p:=fun b10_2 => by (try simp at b10_2); exact (js hX 2 (by simp [-atD_lt, -atL_lt]; rfl) (Runs.call [] rfl (by simp) rfl (by simp [-atD_lt, -atL_lt]; rfl) (by simp; rfl) (by apply ct_impl_within <;> first | assumption | omega | (simp at *; omega) | simp_all) cb_impl_within (by simp) (by simp) (by simp [-atD_lt, -atL_lt]; rfl) (jh hX (by simp [-atD_lt, -atL_lt]; rfl))))) (q:=fun b10_2 => by (try simp at b10_2); exact (jh hX (by simp [-atD_lt, -atL_lt]; rfl))) (k:=jr)))) ?_
          refine W_ret (je0 ?_)
          (try simp_all [insRight, insEmpty, isInt, init]) <;> grind
        · try simp at h9
          refine jq [1, 19, 52] ?_
          refine jd (fun h11 => ?_) (fun h11 => ?_)
          · try simp at h11
            refine W_rseqK [2] (jt 4 (k:=(jm 4 57 [1, 61] (p:=fun b12_4 => by (try simp at b12_4); exact (js hX 2 (by simp [-atD_lt, -atL_lt]; rfl) (Runs.call [] rfl (by simp) rfl (by simp [-atD_lt, -atL_lt]; rfl) (by simp; rfl) (by apply ct_impl_NameRight <;> first | assumption | omega | (simp at *; omega) | simp_all) cb_impl_NameRight (by simp) (by simp) (by simp [-atD_lt, -atL_lt]; rfl) (jh hX (by simp [-atD_lt, -atL_lt]; rfl))))) (q:=fun b12_4 => by (try simp at b12_4); exact (jh hX (by simp [-atD_lt, -atL_lt]; rfl))) (k:=(jt 1 (k:=(jm 4 62 [1, 66] (p:=fun b12_9 => by (try simp at b12_9); exact (jh hX (by simp [-atD_lt, -atL_lt]; rfl))) (q:=fun b12_9 => by (try simp at b12_9); exact (jh hX (by simp [-atD_lt, -atL_lt]; rfl))) (k:=(jt 1 (k:=(jm 4 67 [71] (p:=fun b12_14 => by (try simp at b12_14); exact (jh hX (by simp [-atD_lt, -atL_lt]; rfl))) (q:=fun b12_14 => by (try simp at b12_14); exact (jh hX (by simp [-atD_lt, -atL_lt]; rfl))) (k:=jr)))))))))))) ?_
            refine W_ret (je0 ?_)
            (try simp_all [insRight, insEmpty, isInt, init]) <;> grind
          · try simp at h11
            refine jq [1, 19, 72] ?_
            refine jd (fun h13 => ?_) (fun h13 => ?_)
            · try simp at h13
              refine W_rseqK [2] (jt 4 (k:=(jm 4 77 [1, 81] (p:=fun b14_4 => by (try simp at b14_4); exact (jh hX (by simp [-atD_lt, -atL_lt]; rfl))) (q:=fun b14_4 => by (try simp at b14_4); exact (jh hX (by simp [-atD_lt, -atL_lt]; rfl))) (k:=(jt 1 (k:=(jm 4 82 [1, 86] (p:=fun b14_9 => by (try simp at b14_9); exact (jh hX (by simp [-atD_lt, -atL_lt]; rfl))) (q:=fun b14_9 => by (try simp at b14_9); exact (jh hX (by simp [-atD_lt, -atL_lt]; rfl))) (k:=(jt 1 (k:=(jm 15 87 [102] (p:=fun b14_14 => by (try simp at b14_14); exact (js hX 4 (by simp [-atD_lt, -atL_lt]; rfl) (jm 10 91 [87, 101] (p:=fun b14_18 => by (try simp at b14_18); exact (jh hX (by simp [-atD_lt, -atL_lt]; rfl))) (q:=fun b14_18 => by (try simp at b14_18); exact (js hX 2 (by simp [-atD_lt, -atL_lt]; rfl) (Runs.call [] rfl (by simp) rfl (by simp [-atD_lt, -atL_lt]; rfl) (by simp; rfl) (by apply ct_impl_typeRight <;> first | assumption | omega | (simp at *; omega) | simp_all) cb_impl_typeRight (by simp) (by simp) (by simp [-atD_lt, -atL_lt]; rfl) (js hX 1 (by simp [-atD_lt, -atL_lt]; rfl) (jm 5 95 [87, 91, 100] (p:=fun b14_22 => by (try simp at b14_22); (have hlt := (len_of_typeRight b14_22).1; have hat := isAt_lt (n := 76) hlt); exact (jh hX (by simp [-atD_lt, -atL_lt, hlt]; rfl))) (q:=fun b14_22 => by (try simp at b14_22); exact (jh hX (by simp [-atD_lt, -atL_lt]; rfl))) (k:=(jh hX (by simp [-atD_lt, -atL_lt]; rfl)))))))) (k:=(jh hX (by simp [-atD_lt, -atL_lt]; rfl)))))) (q:=fun b14_14 => by (try simp at b14_14); exact (jh hX (by simp [-atD_lt, -atL_lt]; rfl))) (k:=jr)))))))))))) ?_
              refine W_ret (je0 ?_)
              have hp := plainType x.desc
              have hq : typeRight x.desc = true → isAt x.desc 0 76 = decide ((atD x.desc 0).toNat = 76) := fun h => by have hlt := (len_of_typeRight h).1; rw [isAt_lt hlt, atD_lt hlt]; simp
              (try simp_all [insRight, insEmpty]) <;> grind
            · try simp at h13
              refine jq [1, 19, 103] ?_
              refine jd (fun h15 => ?_) (fun h15 => ?_)
              · try simp at h15
                refine W_rseqK [2] (jt 4 (k:=(jm 4 108 [1, 112] (p:=fun b16_4 => by (try simp at b16_4); exact (js hX 2 (by simp [-atD_lt, -atL_lt]; rfl) (Runs.call [] rfl (by simp) rfl (by simp [-atD_lt, -atL_lt]; rfl) (by simp; rfl) (by apply ct_impl_NameRight <;> first | assumption | omega | (simp at *; omega) | simp_all) cb_impl_NameRight (by simp) (by simp) (by simp [-atD_lt, -atL_lt]; rfl) (jh hX (by simp [-atD_lt, -atL_lt]; rfl))))) (q:=fun b16_4 => by (try simp at b16_4); exact (jh hX (by simp [-atD_lt, -atL_lt]; rfl))) (k:=(jt 1 (k:=(jm 4 113 [1, 117] (p:=fun b16_9 => by (try simp at b16_9); exact (js hX 2 (by simp [-atD_lt, -atL_lt]; rfl) (Runs.call [] rfl (by simp) rfl (by simp [-atD_lt, -atL_lt]; rfl) (by simp; rfl) (by apply ct_impl_NameRight <;> first | assumption | omega | (simp at *; omega) | simp_all) cb_impl_NameRight (by simp) (by simp) (by simp [-atD_lt, -atL_lt]; rfl) (jh hX (by simp [-atD_lt, -atL_lt]; rfl))))) (q:=fun b16_9 => by (try simp at b16_9); exact (jh hX (by simp [-atD_lt, -atL_lt]; rfl))) (k:=(jt 1 (k:=(jm 4 118 [122] (p:=fun b16_14 => by (try simp at b16_14); exact (js hX 2 (by simp [-atD_lt, -atL_lt]; rfl) (Runs.call [] rfl (by simp) rfl (by simp [-atD_lt, -atL_lt]; rfl) (by simp; rfl) (by apply ct_impl_typeRight <;> first | assumption | omega | (simp at *; omega) | simp_all) cb_impl_typeRight (by simp) (by simp) (by simp [-atD_lt, -atL_lt]; rfl) (jh hX (by simp [-atD_lt, -atL_lt]; rfl))))) (q:=fun b16_14 => by (try simp at b16_14); exact (jh hX (by simp [-atD_lt, -atL_lt]; rfl))) (k:=jr)))))))))))) ?_
                refine W_ret (je0 ?_)
                (try simp_all [insRight, insEmpty, isInt, init]) <;> grind
              · try simp at h15
                refine jq [1, 123] ?_
                refine jd (fun h17 => ?_) (fun h17 => ?_)
                · try simp at h17
                  refine W_rseqK [2] (jt 4 (k:=(jm 4 128 [1, 132] (p:=fun b18_4 => by (try simp at b18_4); exact (js hX 2 (by simp [-atD_lt, -atL_lt]; rfl) (Runs.call [] rfl (by simp) rfl (by simp [-atD_lt, -atL_lt]; rfl) (by simp; rfl) (by apply ct_impl_NameRight <;> first | assumption | omega | (simp at *; omega) | simp_all) cb_impl_NameRight (by simp) (by simp) (by simp [-atD_lt, -atL_lt]; rfl) (jh hX (by simp [-atD_lt, -atL_lt]; rfl))))) (q:=fun b18_4 => by (try simp at b18_4); exact (jh hX (by simp [-atD_lt, -atL_lt]; rfl))) (k:=(jt 1 (k:=(jm 4 133 [1, 137] (p:=fun b18_9 => by (try simp at b18_9); exact (js hX 2 (by simp [-atD_lt, -atL_lt]; rfl) (Runs.call [] rfl (by simp) rfl (by simp [-atD_lt, -atL_lt]; rfl) (by simp; rfl) (by apply ct_impl_isMethodName <;> first | assumption | omega | (simp at *; omega) | simp_all) cb_impl_isMethodName (by simp) (by simp) (by simp [-atD_lt, -atL_lt]; rfl) (jh hX (by simp [-atD_lt, -atL_lt]; rfl))))) (q:=fun b18_9 => by (try simp at b18_9); exact (jh hX (by simp [-atD_lt, -atL_lt]; rfl))) (k:=(jt 1 (k:=(jm 4 138 [142] (p:=fun b18_14 => by (try simp at b18_14); exact (js hX 2 (by simp [-atD_lt, -atL_lt]; rfl) (Runs.call [] rfl (by simp) rfl (by simp [-atD_lt, -atL_lt]; rfl) (by simp; rfl) (by apply ct_impl_isDesc <;> first | assumption | omega | (simp at *; omega) | simp_all) cb_impl_isDesc (by simp) (by simp) (by simp [-atD_lt, -atL_lt]; rfl) (jh hX (by simp [-atD_lt, -atL_lt]; rfl))))) (q:=fun b18_14 => by (try simp at b18_14); exact (jh hX (by simp [-atD_lt, -atL_lt]; rfl))) (k:=jr)))))))))))) ?_
                  refine W_ret (je0 ?_)
                  (try simp_all [insRight, insEmpty, isInt, init]) <;> grind
                · try simp at h17
                  refine W_skip (jq [2] ?_)
                  refine W_ret (je0 ?_)
                  (try simp_all [insRight, insEmpty, isInt, init]) <;> grind
end Go.Proofs
namespace Go.Proofs
open Go Go.Ev


theorem cb_impl_codeRight_1 : Callable Tryz.prog 238 := ⟨_, Tryz.func238, by kernel_rfl, by kernel_rfl⟩
theorem ct_impl_codeRight_1 {x : Hdl} {n : Int} (h : x.cls.length ≤ 1099511627776) (hn0 : 0 ≤ n) (hn : n ≤ 1099511627776) : Ct Tryz.prog 238 [eH x, .fp [.int .i64 n]] [] (.bool (!hdlRight n x)) [] := by
  refine Ct_bodyS tok Tryz.func238 rfl 34 (by kernel_rfl) (by kernel_rfl) fun X hX => ?_
  refine jq [1, 2] ?_
  refine W_rseqK [3] (jt 4 (k:=(jm 6 7 [1, 2, 13] (p:=fun b1_4 => by (try simp at b1_4); exact (jh hX (by simp [-atD_lt, -atL_lt]; rfl))) (q:=fun b1_4 => by (try simp at b1_4); exact (jh hX (by simp [-atD_lt, -atL_lt, b1_4]; rfl))) (k:=(jt 1 (k:=(jm 5 14 [1, 2, 19] (p:=fun b1_11 => by (try simp at b1_11); exact (jh hX (by simp [-atD_lt, -atL_lt]; rfl))) (q:=fun b1_11 => by (try simp at b1_11); exact (jh hX (by simp [-atD_lt, -atL_lt, b1_11]; rfl))) (k:=(jt 1 (k:=(jm 7 20 [2, 27] (p:=fun b1_17 => by (try simp at b1_17); exact (jh hX (by simp [-atD_lt, -atL_lt]; rfl))) (q:=fun b1_17 => by (try simp at b1_17); exact (js hX 4 (by simp [-atD_lt, -atL_lt, b1_17]; (try (simp (disch := omega) only [wrap_i64]; (try simp [-atD_lt, -atL_lt, b1_17]))); rfl) (Runs.call [] rfl (by simp) rfl (by simp [-atD_lt, -atL_lt]; rfl) (by simp; rfl) (by apply ct_impl_within <;> first | assumption | omega | (simp at *; omega) | simp_all) cb_impl_within (by simp) (by simp) (by simp [-atD_lt, -atL_lt]; rfl) (jh hX (by simp [-atD_lt, -atL_lt]; rfl))))) (k:=(jt 1 (k:=(jm 5 28 [33] (p:=fun b1_25 => by (try simp at b1_25); exact (jh hX (by simp [-atD_lt, -atL_lt]; rfl))) (q:=fun b1_25 => by (try simp at b1_25); exact (js hX 2 (by simp [-atD_lt, -atL_lt, b1_25]; rfl) (Runs.call [] rfl (by simp) rfl (by simp [-atD_lt, -atL_lt]; rfl) (by simp; rfl) (by apply ct_impl_NameRight <;> first | assumption | omega | (simp at *; omega) | simp_all) cb_impl_NameRight (by simp) (by simp) (by simp [-atD_lt, -atL_lt]; rfl) (jh hX (by simp [-atD_lt, -atL_lt]; rfl))))) (k:=jr)))))))))))))))) ?_
  refine W_ret (je0 ?_)
  (try simp_all [hdlRight]) <;> grind
end Go.Proofs
namespace Go.Proofs
open Go Go.Ev


theorem cb_slices_IndexFunc_impl_Handler_impl_Handler : Callable Tryz.prog 243 := ⟨_, Tryz.func243, by kernel_rfl, by kernel_rfl⟩
theorem ct_slices_IndexFunc_impl_Handler_impl_Handler {n : Int} (hn0 : 0 ≤ n) (hn : n ≤ 1099511627776) {l : List Hdl} (hl : l.length ≤ 1099511627776) (hs : ∀ x ∈ l, x.cls.length ≤ 1099511627776) : Ct Tryz.prog 243 [.lst false 4 (l.map eH), .clo (.func 238) [] [.fp [.int .i64 n]]] [] (.int .i64 (fix (fun x => !hdlRight n x) l)) [] := by
  refine Ct_bodyS tok Tryz.func243 rfl 19 (by kernel_rfl) (by kernel_rfl) fun X hX => ?_
  refine jq [0, 1] ?_
  refine W_seq (jq [0, 1, 7, 8] ?_)
  refine W_block (W_loopU (α := Nat) [0, 1, 7, 8] (fun i => [(8, .int .i64 i)]) (fun i => []) (fun i => i ≤ l.length ∧ ∀ x ∈ l.take i, (fun x => !hdlRight n x) x = false) (fun i => l.length - i) (0) (fun i => by simp; rfl) (by simp) ?_ ?_)
  · simp
  rintro i ⟨hi, hI⟩
  refine jq [0, 1, 7, 8, 9] ?_
  refine W_seq (jd (fun h2 => ?_) (fun h2 => ?_))
  · try simp at h2
    refine W_skip (W_seq (W_block (jq [0, 1, 5, 7, 8] ?_)))
    refine W_rseqK [0, 1, 5, 7, 8, 16] (js hX 5 (by simp [h2]; rfl) (jc [] (c:=(by apply ct_impl_codeRight_1 <;> first | assumption | exact hs _ (List.getElem_mem h2) | omega)) (a:=cb_impl_codeRight_1) (k:=jf))) ?_
    refine jd (fun h4 => ?_) (fun h4 => ?_)
    · try simp at h4
      refine jq [4] ?_
      refine W_ret (je (by simp [h2]; rfl) ?_)
      rw [fix_hit h2 hI (by simpa using h4)]
    · try simp at h4
      refine W_skip (W_reg (jh hX (by simp; (try (simp (disch := omega) only [wrap_i64]; (try simp))); rfl)) ?_)
      refine round_end (i + 1) [0, 1, 7, 8] (by simp [h2]; try (simp (disch := omega) only [wrap_i64])) ?_ ?_
      · exact ⟨by omega, take_not h2 hI (by simpa using h4)⟩
      · omega
  · try simp at h2
    refine W_exit (jq [4] ?_)
    refine W_ret (je (by simp [h2]; rfl) ?_)
    rw [fix_none (p := fun x => !hdlRight n x) (fun x hx => hI x (by rw [List.take_of_length_le h2]; exact hx))]
end Go.Proofs
namespace Go.Proofs
open Go Go.Ev


theorem cb_slices_ContainsFunc_impl_Handler_impl_Handler : Callable Tryz.prog 237 := ⟨_, Tryz.func237, by kernel_rfl, by kernel_rfl⟩
theorem ct_slices_ContainsFunc_impl_Handler_impl_Handler {n : Int} (hn0 : 0 ≤ n) (hn : n ≤ 1099511627776) {l : List Hdl} (hl : l.length ≤ 1099511627776) (hs : ∀ x ∈ l, x.cls.length ≤ 1099511627776) : Ct Tryz.prog 237 [.lst false 4 (l.map eH), .clo (.func 238) [] [.fp [.int .i64 n]]] [] (.bool (l.any (fun x => !hdlRight n x))) [] := by
  refine Ct_bodyS tok Tryz.func237 rfl 9 (by kernel_rfl) (by kernel_rfl) fun X hX => ?_
  refine jq [0, 1] ?_
  refine W_rseqK [4] (jt 2 (k:=(jc [] (c:=(by apply ct_slices_IndexFunc_impl_Handler_impl_Handler <;> first | assumption | omega | (simp at *; omega) | simp_all)) (a:=cb_slices_IndexFunc_impl_Handler_impl_Handler) (k:=jr)))) ?_
  refine W_ret (je0 ?_)
  rw [← fix_ge]
end Go.Proofs
namespace Go.Proofs
open Go Go.Ev


theorem cb_impl_codeRight : Callable Tryz.prog 229 := ⟨_, Tryz.func229, by kernel_rfl, by kernel_rfl⟩
theorem ct_impl_codeRight {x : Mth} (h : sizeM x ≤ 1099511627776) : Ct Tryz.prog 229 [eM x] [] (.bool (codeR x)) [] := by
  unfold codeR
  simp only [sizeM] at h
  refine Ct_bodyS tok Tryz.func229 rfl 46 (by kernel_rfl) (by kernel_rfl) fun X hX => ?_
  refine jq [1] ?_
  refine W_rseqK [1, 3] (jt 2 (k:=(jc [] (c:=(by apply ct_impl_size_impl_Ins <;> first | assumption | omega | (have := mem_sum (f := sizeI) (List.getElem_mem (l := x.code) (n := i) (by omega)); simp only [sizeI] at *; omega))) (a:=cb_impl_size_impl_Ins) (k:=jr)))) ?_
  refine W_seq (W_rseqK [1, 3, 17] (jt 1 (k:=(jc [] (c:=(by apply ct_impl_within <;> first | assumption | omega | (have := mem_sum (f := sizeI) (List.getElem_mem (l := x.code) (n := i) (by omega)); simp only [sizeI] at *; omega))) (a:=cb_impl_within) (k:=(jt 2 (k:=(jm 5 12 [1, 3, 17] (p:=fun b2_4 => by (try simp at b2_4); exact (jh hX (by simp [-atD_lt, -atL_lt]; rfl))) (q:=fun b2_4 => by (try simp at b2_4); exact (jh hX (by simp [-atD_lt, -atL_lt]; rfl))) (k:=jf)))))))) ?_)
  refine jd (fun h2 => ?_) (fun h2 => ?_)
  · try simp at h2
    refine jq [2] ?_
    refine W_ret (je (by simp [h2]; rfl) ?_)
    have h2b : x.code.length < 1 ∨ 60 < x.code.length ∨ 6 < x.hdls.length := by
      rcases h2 with (h | h) | h
      · simp [h]
      · omega
      · omega
    rw [decide_eq_true h2b]; rfl
  · try simp at h2
    refine W_skip (W_seq (W_rseqK [1, 3, 19, 20, 21] (jh hX (by simp [h2]; rfl)) ?_))
    refine W_block (W_loopU (α := Nat) [1, 3, 19, 20, 21] (fun i => [(21, .int .i64 i)]) (fun i => []) (fun i => i ≤ x.code.length ∧ (x.code.drop i).all (codeOK x.code.length) = x.code.all (codeOK x.code.length)) (fun i => x.code.length - i) (0) (fun i => by simp; rfl) (by simp) ?_ ?_)
    · simp
    rintro i ⟨hi, hI⟩
    refine jq [1, 3, 19, 20, 21, 22] ?_
    refine W_seq (jd (fun h5 => ?_) (fun h5 => ?_))
    · try simp at h5
      rw [all_drop h5] at hI
      refine W_skip (W_seq (W_block (W_rseqK [1, 3, 5, 19, 20, 21] (jh hX (by simp [h2, h5]; rfl)) ?_)))
      refine W_rseqK [1, 3, 19, 20, 21, 39] (js hX 1 (by simp [h2, h5]; rfl) (jc [] (c:=(by apply ct_impl_InsRight <;> first | assumption | omega | (have := mem_sum (f := sizeI) (List.getElem_mem (l := x.code) (n := i) (by omega)); simp only [sizeI] at *; omega))) (a:=cb_impl_InsRight) (k:=(jt 2 (k:=(jm 11 28 [1, 3, 19, 20, 21, 39] (p:=fun b7_4 => by (try simp at b7_4); exact (jh hX (by simp [-atD_lt, -atL_lt]; rfl))) (q:=fun b7_4 => by (try simp at b7_4); exact (js hX 2 (by simp [-atD_lt, -atL_lt, h2, h5]; rfl) (Runs.call [] rfl (by simp) rfl (by simp [-atD_lt, -atL_lt]; rfl) (by simp; rfl) (by apply ct_impl_OpForm <;> first | assumption | omega | (have := mem_sum (f := sizeI) (List.getElem_mem (l := x.code) (n := i) (by omega)); simp only [sizeI] at *; omega)) cb_impl_OpForm (by simp) (by simp) (by simp [-atD_lt, -atL_lt]; rfl) (js hX 2 (by simp [-atD_lt, -atL_lt]; rfl) (jm 5 33 [1, 3, 19, 20, 21, 28, 38] (p:=fun b7_9 => by (try simp at b7_9); exact (jh hX (by simp [-atD_lt, -atL_lt, h2, h5]; rfl))) (q:=fun b7_9 => by (try simp at b7_9); exact (jh hX (by simp [-atD_lt, -atL_lt]; rfl))) (k:=(jh hX (by simp [-atD_lt, -atL_lt]; rfl)))))))) (k:=jf))))))) ?_
      refine jd (fun h7 => ?_) (fun h7 => ?_)
      · try simp at h7
        refine jq [2] ?_
        refine W_ret (je (by simp [h2, h5, h7]; rfl) ?_)
        have : codeOK x.code.length x.code[i] = false := by unfold codeOK; grind
        simp [← hI, this]
      · try simp at h7
        have h7b : codeOK x.code.length x.code[i] = true := by unfold codeOK; grind
        rw [h7b, Bool.true_and] at hI
        refine W_skip (W_reg (jh hX (by simp; (try (simp (disch := omega) only [wrap_i64]; (try simp))); rfl)) ?_)
        refine round_endT (i + 1) [1, 3, 19, 20, 21] 2 (by simp [hX]) (by simp) (by simp [h2, h5, h7]; try (simp (disch := omega) only [wrap_i64])) ?_ ?_
        · exact ⟨by omega, hI⟩
        · omega
    · try simp at h5
      rw [List.drop_eq_nil_of_le h5] at hI
      refine W_exit (W_rseqK [2] (js hX 3 (by simp [h2, h5]; rfl) (jB (c:=(by apply ct_slices_ContainsFunc_impl_Handler_impl_Handler <;> first | assumption | omega | (intro y hy; have := mem_sum (f := sizeH) hy; simp only [sizeH] at *; omega))) (a:=cb_slices_ContainsFunc_impl_Handler_impl_Handler) (k:=jr))) ?_)
      refine W_ret (je (by simp [h2, h5]; rfl) ?_)
      have h2b : ¬ (x.code.length < 1 ∨ 60 < x.code.length ∨ 6 < x.hdls.length) := by omega
      rw [decide_eq_false h2b, ← hI]
      simp only [List.all_nil, Bool.true_and, Bool.not_false]
      congr 1
      rw [Bool.eq_iff_iff]
      simp
end Go.Proofs
namespace Go.Proofs
open Go Go.Ev


theorem cb_impl_size_string : Callable Tryz.prog 117 := ⟨_, Tryz.func117, by kernel_rfl, by kernel_rfl⟩
theorem ct_impl_size_string {l : List Str} : Ct Tryz.prog 117 [.lst false 1 (l.map V.str)] [] (.int .i64 l.length) [] := by
  refine Ct_bodyS tok Tryz.func117 rfl 5 (by kernel_rfl) (by kernel_rfl) fun X hX => ?_
  refine jq [0] ?_
  refine jq [2] ?_
  refine W_ret (je0 ?_)
  simp
end Go.Proofs
