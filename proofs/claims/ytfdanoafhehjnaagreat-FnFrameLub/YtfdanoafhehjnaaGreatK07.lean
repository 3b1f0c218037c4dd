/- Part 8 of what the proofs lean on: what the functions of the program and of the reference compute. Conditions: none. -/
import Derived.Test.YtfdanoafhehjnaaGreatK06
set_option linter.all false
set_option linter.unusedVariables false
set_option linter.unusedSimpArgs false
set_option maxHeartbeats 2000000
set_option maxRecDepth 100000
namespace Go.Proofs
open Go Go.Ev

attribute [local irreducible] nS nV wordS wordV ltyS ltyV pickV l06T
theorem cb_spec_l01Src_l03Method : Callable Tryz.prog 141 := ⟨_, Tryz.func141, by kernel_rfl, by kernel_rfl⟩
theorem ct_spec_l01Src_l03Method {s : Src} (hs : okS s) : CtE Tryz.prog 141 [.ptr 0 0 0] [oSrc s] (fun r ob' => ∃ (s' : Src) (m : Mth), r = oM m ∧ ob' = [oSrc s'] ∧ okS s' ∧ smM m) := by
  refine Ct_bodyE tok Tryz.func141 rfl 140 (by kernel_rfl) (by kernel_rfl) fun X hX => ?_
  refine jq [0, 2] ?_
  refine W_rseqK [0, 2, 3] (jt 2 (k:=(jc [0, 2] (c:=(by apply (ct_spec_l01Src_pick (l := [[102], [103], [109, 97, 105, 110], [60, 105, 110, 105, 116, 62]])) <;> first | omega | assumption | decide | exact nS_ok (by assumption) _ | exact nS_ok (nS_ok (by assumption) _) _ | ((repeat apply nS_ok); assumption))) (a:=cb_spec_l01Src_pick) (k:=(jt 2 (k:=(jc [0, 3] (c:=(by apply (ct_spec_l01Src_pick (l := [[40, 41, 86], [40, 73, 41, 73], [40, 73, 76, 65, 59, 41, 76, 65, 59]])) <;> first | omega | assumption | decide | exact nS_ok (by assumption) _ | exact nS_ok (nS_ok (by assumption) _) _ | ((repeat apply nS_ok); assumption))) (a:=cb_spec_l01Src_pick) (k:=(jt 1 (k:=(jc [0] (c:=(by apply ct_spec_l01Src_n <;> first | omega | assumption | decide | exact nS_ok (by assumption) _ | exact nS_ok (nS_ok (by assumption) _) _ | ((repeat apply nS_ok); assumption))) (a:=cb_spec_l01Src_n) (k:=(jt 1 (k:=(jc [0] (c:=(by apply ct_spec_l01Src_n <;> first | omega | assumption | decide | exact nS_ok (by assumption) _ | exact nS_ok (nS_ok (by assumption) _) _ | ((repeat apply nS_ok); assumption))) (a:=cb_spec_l01Src_n) (k:=(jh hX (by simp; (try (simp (disch := omega) only [wrap_i64]; (try simp))); rfl)))))))))))))))))) ?_
  refine W_le (Le.trans (Le.nilC 4 0 7 5 (by simp; rfl)) (Le.trans (Le.nilC 4 0 8 4 (by simp; rfl)) .refl)) ?_
  refine W_seq (jq [0, 2, 3, 20] ?_)
  refine W_cutT (α := Src × Mth) [0, 2, 3] (fun p => []) (fun p => [(0, oSrc p.1), (4, some (9, [.agg [.str p.2.name, .str p.2.desc, .bool p.2.static, .bool p.2.abstr, .bool p.2.final, .int .i64 p.2.stack, .int .i64 p.2.locals, .arr 5 0 p.2.code.length, .arr 6 0 p.2.hdls.length]])), (5, some (5, p.2.code.map eI)), (6, some (4, p.2.hdls.map eH))]) (fun p => okS p.1 ∧ smM p.2 ∧ p.2.code = [] ∧ p.2.hdls = []) (fun p => by simp; rfl) ?_ ?_
  · skip
    refine jd (fun h2 => ?_) (fun h2 => ?_)
    · try simp at h2
      refine W_reg (jt 2 (k:=(jc [0, 7] (c:=(by apply (ct_spec_l01Src_pick (l := [[40, 41, 86], [40, 73, 41, 86]])) <;> first | omega | assumption | decide | exact nS_ok (by assumption) _ | exact nS_ok (nS_ok (by assumption) _) _ | ((repeat apply nS_ok); assumption))) (a:=cb_spec_l01Src_pick) (k:=jr)))) ?_
      refine cut_endT ((⟨_, _, _, _⟩, ⟨_, _, _, _, _, _, _, [], []⟩)) [0, 2, 3] 7 (by simp [hX]) (by simp) (Eq.trans (by simp; rfl) (by rfl)) ?_
      exact ⟨by (first | assumption | ((repeat (first | apply nS_ok | apply wordS_ok | apply ltyS_ok)) <;> assumption)), ⟨by first | exact pick_le _ (by decide) (by decide) (by decide) | (simp; done), by first | exact pick_le _ (by decide) (by decide) (by decide) | (simp; done), by simp, by simp, by simp, by simp⟩, rfl, rfl⟩
    · try simp at h2
      refine W_rseqK [0, 2, 3] (jt 1 (k:=(jc [0] (c:=(by apply ct_spec_l01Src_one <;> first | omega | assumption | decide | exact nS_ok (by assumption) _ | exact nS_ok (nS_ok (by assumption) _) _ | ((repeat apply nS_ok); assumption))) (a:=cb_spec_l01Src_one) (k:=jr)))) ?_
      refine W_reg (jt 1 (k:=(jc [0] (c:=(by apply ct_spec_l01Src_one <;> first | omega | assumption | decide | exact nS_ok (by assumption) _ | exact nS_ok (nS_ok (by assumption) _) _ | ((repeat apply nS_ok); assumption))) (a:=cb_spec_l01Src_one) (k:=jr)))) ?_
      refine cut_endT ((⟨_, _, _, _⟩, ⟨_, _, _, _, _, _, _, [], []⟩)) [0, 2, 3] 7 (by simp [hX]) (by simp) (Eq.trans (by simp; rfl) (by rfl)) ?_
      exact ⟨by (first | assumption | ((repeat (first | apply nS_ok | apply wordS_ok | apply ltyS_ok)) <;> assumption)), ⟨by first | exact pick_le _ (by decide) (by decide) (by decide) | (simp; done), by first | exact pick_le _ (by decide) (by decide) (by decide) | (simp; done), by simp, by simp, by simp, by simp⟩, rfl, rfl⟩
  · rintro ⟨s, ⟨mn, md, mst, mab, mfi, mk, ml, mc, mh⟩⟩ ⟨hs, hm, hc0, hh0⟩
    simp only at hs hm hc0 hh0
    subst hc0
    subst hh0
    refine W_seq (W_rseqK [0, 2, 3, 4] (jt 1 (k:=(jc [0] (c:=(by apply ct_spec_l01Src_n <;> first | omega | assumption | decide | exact nS_ok (by assumption) _ | exact nS_ok (nS_ok (by assumption) _) _ | ((repeat apply nS_ok); assumption))) (a:=cb_spec_l01Src_n) (k:=(jh hX (by simp; (try (simp (disch := omega) only [wrap_i64]; (try simp))); rfl)))))) ?_)
    have h9 := (nV_r s (m := 6) (by decide))
    have h8 := h9.2.1 (by decide)
    have w6 : IntKind.i64.wrap (1 + nV s 6) = 1 + nV s 6 := wrap_i64 (by omega) (by omega)
    refine W_block (W_loopU (α := Int × Src × List Ins) [0, 2, 3, 4] (fun p => [(4, .int .i64 p.1)]) (fun p => [(0, oSrc p.2.1), (4, some (9, [.agg [.str mn, .str md, .bool mst, .bool mab, .bool mfi, .int .i64 mk, .int .i64 ml, .arr 5 0 p.2.2.length, .arr 6 0 ([] : List Hdl).length]])), (5, some (5, p.2.2.map eI))]) (fun p => p.1 ≤ 6 ∧ (p.2.2.length : Int) + p.1 ≤ 6 ∧ 0 ≤ p.1 ∧ okS p.2.1 ∧ ∀ x ∈ p.2.2, smI x) (fun p => p.1.toNat) ((1 + nV s 6, nS s 6, [])) (fun p => by simp; rfl) (by simp [w6]) ?_ ?_)
    · have h9 := (nV_r s (m := 6) (by decide)); have h8 := h9.2.1 (by decide); exact ⟨by simp only; omega, by simp; omega, by simp only; omega, nS_ok hs _, by simp⟩
    rintro ⟨j, s, c⟩ ⟨hj, hjc, hj0, hs, hci⟩
    simp only at hj hjc hj0 hs hci
    have w1 : (c.length + 1) * 64 ≤ 140737488355328 := by omega
    have w2 : c.length ≤ 1099511627775 := by omega
    have wj : IntKind.i64.wrap (j - 1) = j - 1 := wrap_i64 (by omega) (by omega)
    refine W_seq (W_rseqK [0, 2, 3, 4, 35] (jh hX (by simp [w1, w2, wj]; rfl)) ?_)
    refine jd (fun h7 => ?_) (fun h7 => ?_)
    · try simp at h7
      refine W_skip (W_seq (W_block (W_rseqL [0, 2, 3, 4, 5] ?_)))
      refine WL_go 1 ((jh hX (by simp [w1, w2, wj, h7]; rfl))) ?_
      refine WL_cE [0] rfl (by simp) rfl (by simp; rfl) (by simp; rfl) (by apply ct_spec_l01Src_l03Ins <;> first | omega | assumption | decide | exact nS_ok (by assumption) _ | exact nS_ok (nS_ok (by assumption) _) _ | ((repeat apply nS_ok); assumption)) cb_spec_l01Src_l03Ins (by simp) (by simp) ?_
      rintro _ _ ⟨s1, x, rfl, rfl, hs1, hx⟩
      refine WL_le' (Le.of_eq (by simp; rfl)) ?_
      obtain ⟨xo, xa, xc, xn, xd⟩ := x
      refine WL_fin ((jh hX (by simp [w1, w2, wj, h7]; rfl))) ?_
      refine W_seq ?_
      by_cases hb : opForm xo = [116]
      all_goals
        first | (refine W_rseqK [0, 2, 3, 4, 5, 48] (js hX 2 (by simp [w1, w2, wj, h7, hb]; rfl) (jc [] (c:=(by apply ct_spec_OpForm <;> first | omega | assumption | decide | exact nS_ok (by assumption) _ | exact nS_ok (nS_ok (by assumption) _) _ | ((repeat apply nS_ok); assumption))) (a:=cb_spec_OpForm) (k:=(js hX 3 (by simp [w1, w2, wj, h7, hb]; rfl) (jc [0] (c:=(by apply ct_spec_l01Src_one <;> first | omega | assumption | decide | exact nS_ok (by assumption) _ | exact nS_ok (nS_ok (by assumption) _) _ | ((repeat apply nS_ok); assumption))) (a:=cb_spec_l01Src_one) (k:=(jh hX (by simp [w1, w2, wj, h7, hb]; rfl)))))))) ?_) | (refine W_rseqK [0, 2, 3, 4, 5, 48] (js hX 2 (by simp [w1, w2, wj, h7, hb]; rfl) (jc [] (c:=(by apply ct_spec_OpForm <;> first | omega | assumption | decide | exact nS_ok (by assumption) _ | exact nS_ok (nS_ok (by assumption) _) _ | ((repeat apply nS_ok); assumption))) (a:=cb_spec_OpForm) (k:=(jh hX (by simp [w1, w2, wj, h7, hb]; rfl))))) ?_)
        refine jd (fun h10 => ?_) (fun h10 => ?_)
        · try simp at h10
          all_goals
            refine W_reg (jh hX (by simp [w1, w2, wj, h7, hb]; rfl)) ?_
            refine W_reg (jh hX (by simp [w1, w2, wj, h7, hb]; rfl)) ?_
            refine W_reg (jh hX (by simp [w1, w2, wj, h7, hb]; (try (simp (disch := omega) only [wrap_i64]; (try simp [w1, w2, wj, h7, hb]))); rfl)) ?_
            first
              | (refine round_endT (j - 1, nS s1 20, c ++ [⟨xo, 0, xc, xn, xd⟩]) [0, 2, 3, 4] 7 (by simp [hX]) (by simp) ?_ ?_ ?_; (solve | simp [wj]); exact ⟨by simp only; omega, by simp; omega, by simp only; omega, by (first | assumption | ((repeat (first | apply nS_ok | apply wordS_ok | apply ltyS_ok)) <;> assumption)), all_app hci hx⟩; (simp only; omega))
              | (refine round_endT (j - 1, nS s1 20, c ++ [⟨xo, xa, xc, xn, xd⟩]) [0, 2, 3, 4] 7 (by simp [hX]) (by simp) ?_ ?_ ?_; (solve | simp [wj]); exact ⟨by simp only; omega, by simp; omega, by simp only; omega, by (first | assumption | ((repeat (first | apply nS_ok | apply wordS_ok | apply ltyS_ok)) <;> assumption)), all_app hci hx⟩; (simp only; omega))
              | (refine round_endT (j - 1, s1, c ++ [⟨xo, xa, xc, xn, xd⟩]) [0, 2, 3, 4] 7 (by simp [hX]) (by simp) ?_ ?_ ?_; (solve | simp [wj]); exact ⟨by simp only; omega, by simp; omega, by simp only; omega, by (first | assumption | ((repeat (first | apply nS_ok | apply wordS_ok | apply ltyS_ok)) <;> assumption)), all_app hci hx⟩; (simp only; omega))
        · try simp at h10
          all_goals
            refine W_skip (W_reg (jh hX (by simp [w1, w2, wj, h7, hb]; rfl)) ?_)
            refine W_reg (jh hX (by simp [w1, w2, wj, h7, hb]; (try (simp (disch := omega) only [wrap_i64]; (try simp [w1, w2, wj, h7, hb]))); rfl)) ?_
            first
              | (refine round_endT (j - 1, nS s1 20, c ++ [⟨xo, 0, xc, xn, xd⟩]) [0, 2, 3, 4] 7 (by simp [hX]) (by simp) ?_ ?_ ?_; (solve | simp [wj]); exact ⟨by simp only; omega, by simp; omega, by simp only; omega, by (first | assumption | ((repeat (first | apply nS_ok | apply wordS_ok | apply ltyS_ok)) <;> assumption)), all_app hci hx⟩; (simp only; omega))
              | (refine round_endT (j - 1, nS s1 20, c ++ [⟨xo, xa, xc, xn, xd⟩]) [0, 2, 3, 4] 7 (by simp [hX]) (by simp) ?_ ?_ ?_; (solve | simp [wj]); exact ⟨by simp only; omega, by simp; omega, by simp only; omega, by (first | assumption | ((repeat (first | apply nS_ok | apply wordS_ok | apply ltyS_ok)) <;> assumption)), all_app hci hx⟩; (simp only; omega))
              | (refine round_endT (j - 1, s1, c ++ [⟨xo, xa, xc, xn, xd⟩]) [0, 2, 3, 4] 7 (by simp [hX]) (by simp) ?_ ?_ ?_; (solve | simp [wj]); exact ⟨by simp only; omega, by simp; omega, by simp only; omega, by (first | assumption | ((repeat (first | apply nS_ok | apply wordS_ok | apply ltyS_ok)) <;> assumption)), all_app hci hx⟩; (simp only; omega))
    · try simp at h7
      refine W_exit (W_seq (W_rseqK [0, 2, 3, 57] (js hX 1 (by simp [w1, w2, wj, h7]; rfl) (jc [0] (c:=(by apply ct_spec_l01Src_one <;> first | omega | assumption | decide | exact nS_ok (by assumption) _ | exact nS_ok (nS_ok (by assumption) _) _ | ((repeat apply nS_ok); assumption))) (a:=cb_spec_l01Src_one) (k:=jf))) ?_))
      refine W_cutT (α := Src × Mth) [0, 2, 3] (fun p => []) (fun p => [(0, oSrc p.1), (4, some (9, [.agg [.str p.2.name, .str p.2.desc, .bool p.2.static, .bool p.2.abstr, .bool p.2.final, .int .i64 p.2.stack, .int .i64 p.2.locals, .arr 5 0 p.2.code.length, .arr 6 0 p.2.hdls.length]])), (5, some (5, p.2.code.map eI)), (6, some (4, p.2.hdls.map eH))]) (fun p => okS p.1 ∧ smM p.2 ∧ p.2.hdls.length ≤ 1) (fun p => by simp; rfl) ?_ ?_
      · skip
        refine jd (fun h13 => ?_) (fun h13 => ?_)
        · try simp at h13
          refine W_reg (jh hX (by simp [w1, w2, wj, h7]; rfl)) ?_
          refine cut_endT ((nS s 4, ⟨mn, md, mst, mab, mfi, mk, ml, c, [⟨0, (c.length : Nat), 0, [69, 114, 114, 111, 114]⟩]⟩)) [0, 2, 3] 7 (by simp [hX]) (by simp) (Eq.trans (by simp [w1, w2, wj, h7]; rfl) (by rfl)) ?_
          exact ⟨by (first | assumption | ((repeat (first | apply nS_ok | apply wordS_ok | apply ltyS_ok)) <;> assumption)), ⟨hm.n, hm.d, by simp only; omega, by simp, hci, by simp⟩, by simp⟩
        · try simp at h13
          refine W_skip (cut_endT ((⟨_, _, _, _⟩, ⟨_, _, _, _, _, _, _, c, []⟩)) [0, 2, 3] 7 (by simp [hX]) (by simp) (Eq.trans (by simp [w1, w2, wj, h7]; rfl) (by rfl)) ?_)
          exact ⟨by (first | assumption | ((repeat (first | apply nS_ok | apply wordS_ok | apply ltyS_ok)) <;> assumption)), ⟨hm.n, hm.d, by simp only; omega, by simp, hci, by simp⟩, by simp⟩
      · rintro ⟨s, ⟨mn, md, mst, mab, mfi, mk, ml, mc, mh⟩⟩ ⟨hs, hm, hh1⟩
        simp only at hs hm hh1
        have hmc := hm.c
        have hmh := hm.h
        simp only at hmc hmh
        have w1 : (mc.length + 1) * 64 ≤ 140737488355328 := by omega
        have w2 : mc.length ≤ 1099511627775 := by omega
        have w3 : (mh.length + 1) * 40 ≤ 140737488355328 := by omega
        have w4 : mh.length ≤ 1099511627775 := by omega
        refine W_seq (W_rseqK [0, 2, 3, 73] (js hX 1 (by simp [wj, h7, w1, w2, w3, w4]; rfl) (jc [0] (c:=(by apply ct_spec_l01Src_one <;> first | omega | assumption | decide | exact nS_ok (by assumption) _ | exact nS_ok (nS_ok (by assumption) _) _ | ((repeat apply nS_ok); assumption))) (a:=cb_spec_l01Src_one) (k:=(js hX 1 (by simp [wj, h7, w1, w2, w3, w4]; rfl) (jm 4 69 [0, 2, 3, 73] (p:=fun b15_3 => by (try simp at b15_3); exact (jh hX (by simp [-atD_lt, -atL_lt, wj, h7, w1, w2, w3, w4]; rfl))) (q:=fun b15_3 => by (try simp at b15_3); exact (jh hX (by simp [-atD_lt, -atL_lt, wj, h7, w1, w2, w3, w4]; rfl))) (k:=jf)))))) ?_)
        refine W_cutT (α := Src × Mth) [0, 2, 3] (fun p => []) (fun p => [(0, oSrc p.1), (4, some (9, [.agg [.str p.2.name, .str p.2.desc, .bool p.2.static, .bool p.2.abstr, .bool p.2.final, .int .i64 p.2.stack, .int .i64 p.2.locals, .arr 5 0 p.2.code.length, .arr 6 0 p.2.hdls.length]])), (5, some (5, p.2.code.map eI)), (6, some (4, p.2.hdls.map eH))]) (fun p => okS p.1 ∧ smM p.2 ∧ p.2.hdls.length ≤ 1) (fun p => by simp; rfl) ?_ ?_
        · skip
          refine jd (fun h15 => ?_) (fun h15 => ?_)
          · try simp at h15
            refine W_reg (jh hX (by simp [wj, h7, w1, w2, w3, w4]; rfl)) ?_
            refine ⟨(nS s 8, ⟨mn, md, false, true, false, 0, 0, [], []⟩), Le.trans (Le.keep [0, 2, 3] _) (Le.trans (Le.nilC 4 0 7 5 (by simp; rfl)) (Le.trans (Le.nilC 4 0 8 4 (by simp; rfl)) (Le.trans (Le.swap 5 7 (by simp [hX])) (Le.trans (Le.swap 6 8 (by simp [hX])) (Le.trans (Le.trim 7 (by simp [hX]) _ (by simp)) (Le.of_eq (by simp [mapL_I, mapL_H]; rfl))))))), ?_⟩
            exact ⟨nS_ok hs _, ⟨hm.n, hm.d, by simp, by simp, by simp, by simp⟩, by simp⟩
          · try simp at h15
            refine W_skip (cut_endT ((⟨_, _, _, _⟩, ⟨_, _, _, _, _, _, _, _, _⟩)) [0, 2, 3] 7 (by simp [hX]) (by simp) (Eq.trans (by simp [wj, h7, w1, w2, w3, w4]; rfl) (by rfl)) ?_)
            exact ⟨by (first | assumption | ((repeat (first | apply nS_ok | apply wordS_ok | apply ltyS_ok)) <;> assumption)), ⟨by exact hm.n, by exact hm.d, by exact hm.c, by exact hm.h, by exact hm.ci, by exact hm.hi⟩, hh1⟩
        · rintro ⟨s, ⟨mn, md, mst, mab, mfi, mk, ml, mc, mh⟩⟩ ⟨hs, hm, hh1⟩
          simp only at hs hm hh1
          have hmc := hm.c
          have hmh := hm.h
          simp only at hmc hmh
          have w1 : (mc.length + 1) * 64 ≤ 140737488355328 := by omega
          have w2 : mc.length ≤ 1099511627775 := by omega
          have w3 : (mh.length + 1) * 40 ≤ 140737488355328 := by omega
          have w4 : mh.length ≤ 1099511627775 := by omega
          refine W_seq (W_rseqK [0, 2, 3, 80] (js hX 1 (by simp [wj, h7, w1, w2, w3, w4]; rfl) (jc [0] (c:=(by apply ct_spec_l01Src_one <;> first | omega | assumption | decide | exact nS_ok (by assumption) _ | exact nS_ok (nS_ok (by assumption) _) _ | ((repeat apply nS_ok); assumption))) (a:=cb_spec_l01Src_one) (k:=jf))) ?_)
          refine W_cutT (α := Src × Mth) [2, 3] (fun p => []) (fun p => [(0, oSrc p.1), (4, some (9, [.agg [.str p.2.name, .str p.2.desc, .bool p.2.static, .bool p.2.abstr, .bool p.2.final, .int .i64 p.2.stack, .int .i64 p.2.locals, .arr 5 0 p.2.code.length, .arr 6 0 p.2.hdls.length]])), (5, some (5, p.2.code.map eI)), (6, some (4, p.2.hdls.map eH))]) (fun p => okS p.1 ∧ smM p.2) (fun p => by simp; rfl) ?_ ?_
          · skip
            refine jd (fun h17 => ?_) (fun h17 => ?_)
            · try simp at h17
              refine W_rseqK [0, 2, 3, 82] (js hX 1 (by simp [wj, h7, w1, w2, w3, w4]; rfl) (jc [0] (c:=(by apply ct_spec_l01Src_n <;> first | omega | assumption | decide | exact nS_ok (by assumption) _ | exact nS_ok (nS_ok (by assumption) _) _ | ((repeat apply nS_ok); assumption))) (a:=cb_spec_l01Src_n) (k:=jf))) ?_
              refine W_block (W_rseqK [0, 2, 3, 82, 86] (jh hX (by simp [wj, h7, w1, w2, w3, w4]; rfl)) ?_)
              refine jd (fun h20 => ?_) (fun h20 => ?_)
              · try simp at h20
                refine W_reg (js hX 2 (by simp [wj, h7, w1, w2, w3, w4]; rfl) (jc [0] (c:=(by apply ct_spec_l01Src_n <;> first | omega | assumption | decide | exact nS_ok (by assumption) _ | exact nS_ok (nS_ok (by assumption) _) _ | ((repeat apply nS_ok); assumption))) (a:=cb_spec_l01Src_n) (k:=(jh hX (by simp [wj, h7, w1, w2, w3, w4]; rfl))))) ?_
                refine cut_endT ((⟨_, _, _, _⟩, ⟨_, _, _, _, _, _, _, _, _⟩)) [2, 3] 7 (by simp [hX]) (by simp) (Eq.trans (by simp; rfl) (by rfl)) ?_
                exact ⟨by (first | assumption | ((repeat (first | apply nS_ok | apply wordS_ok | apply ltyS_ok)) <;> assumption)), ⟨by first | exact hm.n | exact Nat.le_trans (word_le _) (by decide), by exact hm.d, by exact hm.c, by exact hm.h, by exact hm.ci, by exact hm.hi⟩⟩
              · try simp at h20
                refine W_rseqK [0, 2, 3, 82, 94] (jh hX (by simp [wj, h7, w1, w2, w3, w4]; rfl)) ?_
                refine jd (fun h22 => ?_) (fun h22 => ?_)
                · try simp at h22
                  refine W_reg (js hX 2 (by simp [wj, h7, w1, w2, w3, w4]; rfl) (jc [0] (c:=(by apply ct_spec_l01Src_n <;> first | omega | assumption | decide | exact nS_ok (by assumption) _ | exact nS_ok (nS_ok (by assumption) _) _ | ((repeat apply nS_ok); assumption))) (a:=cb_spec_l01Src_n) (k:=(jh hX (by simp [wj, h7, w1, w2, w3, w4]; rfl))))) ?_
                  refine cut_endT ((⟨_, _, _, _⟩, ⟨_, _, _, _, _, _, _, _, _⟩)) [2, 3] 7 (by simp [hX]) (by simp) (Eq.trans (by simp; rfl) (by rfl)) ?_
                  exact ⟨by (first | assumption | ((repeat (first | apply nS_ok | apply wordS_ok | apply ltyS_ok)) <;> assumption)), ⟨by first | exact hm.n | exact Nat.le_trans (word_le _) (by decide), by exact hm.d, by exact hm.c, by exact hm.h, by exact hm.ci, by exact hm.hi⟩⟩
                · try simp at h22
                  refine W_rseqK [0, 2, 3, 82, 102] (jh hX (by simp [wj, h7, w1, w2, w3, w4]; rfl)) ?_
                  refine jd (fun h24 => ?_) (fun h24 => ?_)
                  · try simp at h24
                    refine jVr 12 (.pur 0 (.pur 2 (.pur 4 (.pur 6 (.pur 8 (.two 1 3 (.one 3 (.one 5 (.one 7 (.one 9 (.pur 10 (.one 11 .tail)))))) (.two 1 5 (.one 5 (.one 7 (.one 9 (.pur 10 (.one 11 .tail))))) (.two 1 7 (.one 7 (.one 9 (.pur 10 (.one 11 .tail)))) (.two 1 9 (.one 9 (.pur 10 (.one 11 .tail))) (.pur 10 (.two 1 11 (.one 11 .tail) (.one 1 .tail)))))))))))) hX (jVp (by simp [wj, h7, w1, w2, w3, w4]; rfl) (jVp (by simp [wj, h7, w1, w2, w3, w4]; rfl) (jVp (by simp [wj, h7, w1, w2, w3, w4]; rfl) (jVp (by simp [wj, h7, w1, w2, w3, w4]; rfl) (jVp (by simp [wj, h7, w1, w2, w3, w4]; rfl) (jVt (jVo (p:=fun X hX => (jh hX (by simp [wj, h7, w1, w2, w3, w4]; rfl))) (k:=(jVo (p:=fun X hX => (jc [0] (c:=(by apply ct_spec_l01Src_n <;> first | omega | assumption | decide | exact nS_ok (by assumption) _ | exact nS_ok (nS_ok (by assumption) _) _ | ((repeat apply nS_ok); assumption))) (a:=cb_spec_l01Src_n) (k:=jf))) (k:=(jVo (p:=fun X hX => (jc [0] (c:=(by apply ct_spec_l01Src_n <;> first | omega | assumption | decide | exact nS_ok (by assumption) _ | exact nS_ok (nS_ok (by assumption) _) _ | ((repeat apply nS_ok); assumption))) (a:=cb_spec_l01Src_n) (k:=jf))) (k:=(jVo (p:=fun X hX => (jc [0] (c:=(by apply ct_spec_l01Src_n <;> first | omega | assumption | decide | exact nS_ok (by assumption) _ | exact nS_ok (nS_ok (by assumption) _) _ | ((repeat apply nS_ok); assumption))) (a:=cb_spec_l01Src_n) (k:=jf))) (k:=(jVo (p:=fun X hX => (jc [0] (c:=(by apply ct_spec_l01Src_word <;> first | omega | assumption | decide | exact nS_ok (by assumption) _ | exact nS_ok (nS_ok (by assumption) _) _ | ((repeat apply nS_ok); assumption))) (a:=cb_spec_l01Src_word) (k:=jf))) (k:=(jVp (by simp [wj, h7, w1, w2, w3, w4]; rfl) (jVo (p:=fun X hX => (jh hX (by simp [wj, h7, w1, w2, w3, w4]; rfl))) (k:=.tail))))))))))))) (jVo (p:=fun X hX => (jc [0] (c:=(by apply ct_spec_l01Src_n <;> first | omega | assumption | decide | exact nS_ok (by assumption) _ | exact nS_ok (nS_ok (by assumption) _) _ | ((repeat apply nS_ok); assumption))) (a:=cb_spec_l01Src_n) (k:=jf))) (k:=(jVt (jVo (p:=fun X hX => (jh hX (by simp [wj, h7, w1, w2, w3, w4]; try rfl))) (k:=(jVo (p:=fun X hX => (jc [0] (c:=(by apply ct_spec_l01Src_n <;> first | omega | assumption | decide | exact nS_ok (by assumption) _ | exact nS_ok (nS_ok (by assumption) _) _ | ((repeat apply nS_ok); assumption))) (a:=cb_spec_l01Src_n) (k:=jf))) (k:=(jVo (p:=fun X hX => (jc [0] (c:=(by apply ct_spec_l01Src_n <;> first | omega | assumption | decide | exact nS_ok (by assumption) _ | exact nS_ok (nS_ok (by assumption) _) _ | ((repeat apply nS_ok); assumption))) (a:=cb_spec_l01Src_n) (k:=jf))) (k:=(jVo (p:=fun X hX => (jc [0] (c:=(by apply ct_spec_l01Src_word <;> first | omega | assumption | decide | exact nS_ok (by assumption) _ | exact nS_ok (nS_ok (by assumption) _) _ | ((repeat apply nS_ok); assumption))) (a:=cb_spec_l01Src_word) (k:=jf))) (k:=(jVp (by simp [wj, h7, w1, w2, w3, w4]; try rfl) (jVo (p:=fun X hX => (jh hX (by simp [wj, h7, w1, w2, w3, w4]; try rfl))) (k:=.tail))))))))))) (jVo (p:=fun X hX => (jc [0] (c:=(by apply ct_spec_l01Src_n <;> first | omega | assumption | decide | exact nS_ok (by assumption) _ | exact nS_ok (nS_ok (by assumption) _) _ | ((repeat apply nS_ok); assumption))) (a:=cb_spec_l01Src_n) (k:=jf))) (k:=(jVt (jVo (p:=fun X hX => (jh hX (by simp [wj, h7, w1, w2, w3, w4]; try rfl))) (k:=(jVo (p:=fun X hX => (jc [0] (c:=(by apply ct_spec_l01Src_n <;> first | omega | assumption | decide | exact nS_ok (by assumption) _ | exact nS_ok (nS_ok (by assumption) _) _ | ((repeat apply nS_ok); assumption))) (a:=cb_spec_l01Src_n) (k:=jf))) (k:=(jVo (p:=fun X hX => (jc [0] (c:=(by apply ct_spec_l01Src_word <;> first | omega | assumption | decide | exact nS_ok (by assumption) _ | exact nS_ok (nS_ok (by assumption) _) _ | ((repeat apply nS_ok); assumption))) (a:=cb_spec_l01Src_word) (k:=jf))) (k:=(jVp (by simp [wj, h7, w1, w2, w3, w4]; try rfl) (jVo (p:=fun X hX => (jh hX (by simp [wj, h7, w1, w2, w3, w4]; try rfl))) (k:=.tail))))))))) (jVo (p:=fun X hX => (jc [0] (c:=(by apply ct_spec_l01Src_n <;> first | omega | assumption | decide | exact nS_ok (by assumption) _ | exact nS_ok (nS_ok (by assumption) _) _ | ((repeat apply nS_ok); assumption))) (a:=cb_spec_l01Src_n) (k:=jf))) (k:=(jVt (jVo (p:=fun X hX => (jh hX (by simp [wj, h7, w1, w2, w3, w4]; try rfl))) (k:=(jVo (p:=fun X hX => (jc [0] (c:=(by apply ct_spec_l01Src_word <;> first | omega | assumption | decide | exact nS_ok (by assumption) _ | exact nS_ok (nS_ok (by assumption) _) _ | ((repeat apply nS_ok); assumption))) (a:=cb_spec_l01Src_word) (k:=jf))) (k:=(jVp (by simp [wj, h7, w1, w2, w3, w4]; try rfl) (jVo (p:=fun X hX => (jh hX (by simp [wj, h7, w1, w2, w3, w4]; try rfl))) (k:=.tail))))))) (jVo (p:=fun X hX => (jc [0] (c:=(by apply ct_spec_l01Src_word <;> first | omega | assumption | decide | exact nS_ok (by assumption) _ | exact nS_ok (nS_ok (by assumption) _) _ | ((repeat apply nS_ok); assumption))) (a:=cb_spec_l01Src_word) (k:=jf))) (k:=(jVp (by simp [wj, h7, w1, w2, w3, w4]; try rfl) (jVt (jVo (p:=fun X hX => (jh hX (by simp [wj, h7, w1, w2, w3, w4]; try rfl))) (k:=(jVo (p:=fun X hX => (jh hX (by simp [wj, h7, w1, w2, w3, w4]; try rfl))) (k:=.tail)))) (jVo (p:=fun X hX => (jh hX (by simp [wj, h7, w1, w2, w3, w4]; try rfl))) (k:=(jVo (p:=fun X hX => (jh hX (by simp [wj, h7, w1, w2, w3, w4]; try rfl))) (k:=.tail))))))))))))))))))))))) (jh hX (by simp [wj, h7, w1, w2, w3, w4]; rfl)) ?_
                    refine cut_endT ((wordS (nS (nS (nS (nS (nS s 20) 6) 3) 3) 9), ⟨mn, md, mst, mab, mfi, mk, ml, mc, mh ++ [⟨nV (nS (nS s 20) 6) 3, nV (nS (nS (nS s 20) 6) 3) 3, nV (nS (nS (nS (nS s 20) 6) 3) 3) 9, wordV (nS (nS (nS (nS (nS s 20) 6) 3) 3) 9)⟩]⟩)) [2, 3] 7 (by simp [hX]) (by simp) (by simp) ?_
                    exact ⟨by (first | assumption | ((repeat (first | apply nS_ok | apply wordS_ok | apply ltyS_ok)) <;> assumption)), ⟨hm.n, hm.d, hm.c, by rw [List.length_append]; simp; omega, hm.ci, all_app hm.hi (Nat.le_trans (word_le _) (by decide))⟩⟩
                  · try simp at h24
                    refine W_rseqK [0, 2, 3, 82, 118] (jh hX (by simp [wj, h7, w1, w2, w3, w4]; rfl)) ?_
                    refine jd (fun h26 => ?_) (fun h26 => ?_)
                    · try simp at h26
                      refine W_block (W_loopU (α := Src × List Ins) [0, 2, 3] (fun p => []) (fun p => [(0, oSrc p.1), (4, some (9, [.agg [.str mn, .str md, .bool mst, .bool mab, .bool mfi, .int .i64 mk, .int .i64 ml, .arr 5 0 p.2.length, .arr 6 0 mh.length]])), (5, some (5, p.2.map eI))]) (fun p => okS p.1 ∧ p.2.length ≤ 70 ∧ ∀ x ∈ p.2, smI x) (fun p => 70 - p.2.length) ((nS (nS s 20) 6, mc)) (fun p => by simp; rfl) (by simp) ?_ ?_)
                      · exact ⟨by (first | assumption | ((repeat (first | apply nS_ok | apply wordS_ok | apply ltyS_ok)) <;> assumption)), hm.c, hm.ci⟩
                      rintro ⟨s, c⟩ ⟨hs, hcl, hci⟩
                      simp only at hs hcl hci
                      have w1 : (c.length + 1) * 64 ≤ 140737488355328 := by omega
                      have w2 : c.length ≤ 1099511627775 := by omega
                      have h9 := nV_r s (m := 3) (by decide)
                      have h8 := h9.2.1 (by decide)
                      have w3 : IntKind.i64.wrap (59 + nV s 3) = 59 + nV s 3 := wrap_i64 (by omega) (by omega)
                      refine W_seq (jL 6 [0, 1, 2, 3] [4, 5] [0, 2, 3, 126] ([4]) hX (by simp [wj, h7, w1, w2, w3, w4, w1, w2, w3]; rfl) (jH (p:=fun X hX => (jc [0] (c:=(by apply ct_spec_l01Src_n <;> first | omega | assumption | decide | exact nS_ok (by assumption) _ | exact nS_ok (nS_ok (by assumption) _) _ | ((repeat apply nS_ok); assumption))) (a:=cb_spec_l01Src_n) (k:=jf))) (k:=(jH (p:=fun X hX => (jh hX (by simp [wj, h7, w1, w2, w3, w4, w1, w2, w3]; (try (simp (disch := omega) only [wrap_i64]; (try simp [wj, h7, w1, w2, w3, w4, w1, w2, w3]))); rfl))) (k:=.nil)))) (jh hX (by simp [wj, h7, w1, w2, w3, w4, w1, w2, w3]; rfl)) ?_)
                      refine jd (fun h27 => ?_) (fun h27 => ?_)
                      · try simp at h27
                        refine W_skip (W_block (W_reg (jh hX (by simp [wj, h7, w1, w2, w3, w4, w1, w2, w3, h27]; rfl)) ?_))
                        refine round_endT ((nS s 3, c ++ [⟨5, 0, [], [], []⟩])) [0, 2, 3] 7 (by simp [hX]) (by simp) (by simp) ?_ ?_
                        · exact ⟨nS_ok hs _, by simp; omega, all_app hci smI_nil⟩
                        · simp; omega
                      · try simp at h27
                        refine W_exit (cut_endT ((⟨_, _, _, _⟩, ⟨_, _, _, _, _, _, _, c, _⟩)) [2, 3] 7 (by simp [hX]) (by simp) (Eq.trans (by simp; rfl) (by rfl)) ?_)
                        exact ⟨by (first | assumption | ((repeat (first | apply nS_ok | apply wordS_ok | apply ltyS_ok)) <;> assumption)), ⟨hm.n, hm.d, by simp only; omega, hm.h, hci, hm.hi⟩⟩
                    · try simp at h26
                      refine W_rseqK [0, 2, 3, 133] (jh hX (by simp [wj, h7, w1, w2, w3, w4]; rfl)) ?_
                      refine jd (fun h29 => ?_) (fun h29 => ?_)
                      · try simp at h29
                        refine W_reg (jh hX (by simp [wj, h7, w1, w2, w3, w4]; rfl)) ?_
                        refine cut_endT ((⟨_, _, _, _⟩, ⟨_, _, _, _, _, _, _, _, _⟩)) [2, 3] 7 (by simp [hX]) (by simp) (Eq.trans (by simp; rfl) (by rfl)) ?_
                        exact ⟨by (first | assumption | ((repeat (first | apply nS_ok | apply wordS_ok | apply ltyS_ok)) <;> assumption)), ⟨by first | exact hm.n | exact Nat.le_trans (word_le _) (by decide), by exact hm.d, by exact hm.c, by exact hm.h, by exact hm.ci, by exact hm.hi⟩⟩
                      · try simp at h29
                        refine W_reg (js hX 1 (by simp [wj, h7, w1, w2, w3, w4]; rfl) (jc [0] (c:=(by apply ct_spec_l01Src_word <;> first | omega | assumption | decide | exact nS_ok (by assumption) _ | exact nS_ok (nS_ok (by assumption) _) _ | ((repeat apply nS_ok); assumption))) (a:=cb_spec_l01Src_word) (k:=(jh hX (by simp [wj, h7, w1, w2, w3, w4]; rfl))))) ?_
                        refine cut_endT ((⟨_, _, _, _⟩, ⟨_, _, _, _, _, _, _, _, _⟩)) [2, 3] 7 (by simp [hX]) (by simp) (Eq.trans (by simp; rfl) (by rfl)) ?_
                        exact ⟨by (first | assumption | ((repeat (first | apply nS_ok | apply wordS_ok | apply ltyS_ok)) <;> assumption)), ⟨by first | exact hm.n | exact Nat.le_trans (word_le _) (by decide), by exact hm.d, by exact hm.c, by exact hm.h, by exact hm.ci, by exact hm.hi⟩⟩
            · try simp at h17
              refine W_skip (cut_endT ((⟨_, _, _, _⟩, ⟨_, _, _, _, _, _, _, _, _⟩)) [2, 3] 7 (by simp [hX]) (by simp) (Eq.trans (by simp; rfl) (by rfl)) ?_)
              exact ⟨by (first | assumption | ((repeat (first | apply nS_ok | apply wordS_ok | apply ltyS_ok)) <;> assumption)), ⟨by first | exact hm.n | exact Nat.le_trans (word_le _) (by decide), by exact hm.d, by exact hm.c, by exact hm.h, by exact hm.ci, by exact hm.hi⟩⟩
          · rintro ⟨s, ⟨mn, md, mst, mab, mfi, mk, ml, mc, mh⟩⟩ ⟨hs, hm⟩
            simp only at hs hm
            have hmc := hm.c
            have hmh := hm.h
            simp only at hmc hmh
            have w1 : (mc.length + 1) * 64 ≤ 140737488355328 := by omega
            have w2 : mc.length ≤ 1099511627775 := by omega
            have w3 : (mh.length + 1) * 40 ≤ 140737488355328 := by omega
            have w4 : mh.length ≤ 1099511627775 := by omega
            refine W_rseqK [2] (jh hX (by simp [wj, h7, w1, w2, w3, w4]; rfl)) ?_
            refine W_ret (DoneE.ret (Eq.trans (by simp [wj, h7, w1, w2, w3, w4]; rfl) (by rfl)) ?_)
            exact ⟨s, ⟨mn, md, mst, mab, mfi, mk, ml, mc, mh⟩, rfl, rfl, hs, hm⟩
end Go.Proofs
namespace Go.Proofs
open Go Go.Ev


theorem cb_spec_l01NameByte : Callable Tryz.prog 223 := ⟨_, Tryz.func223, by kernel_rfl, by kernel_rfl⟩
theorem ct_spec_l01NameByte {c : UInt8} {f : Bool} : Ct Tryz.prog 223 [.int .u8 c.toNat, .bool f] [] (.bool (nameByte c f)) [] := by
  refine Ct_bodyS tok Tryz.func223 rfl 33 (by kernel_rfl) (by kernel_rfl) fun X hX => ?_
  refine jq [0, 1] ?_
  refine W_seq (W_rseqK [0, 1, 22] (jt 3 (k:=(jm 3 7 [0, 1, 10] (p:=fun b1_3 => by (try simp at b1_3); exact (jh hX (by simp [-atD_lt, -atL_lt]; rfl))) (q:=fun b1_3 => by (try simp at b1_3); exact (jh hX (by simp [-atD_lt, -atL_lt]; rfl))) (k:=(jt 1 (k:=(jm 7 11 [0, 1, 18] (p:=fun b1_7 => by (try simp at b1_7); exact (jh hX (by simp [-atD_lt, -atL_lt]; rfl))) (q:=fun b1_7 => by (try simp at b1_7); exact (js hX 3 (by simp [-atD_lt, -atL_lt]; rfl) (jm 3 14 [0, 1, 11, 17] (p:=fun b1_10 => by (try simp at b1_10); exact (jh hX (by simp [-atD_lt, -atL_lt]; rfl))) (q:=fun b1_10 => by (try simp at b1_10); exact (jh hX (by simp [-atD_lt, -atL_lt]; rfl))) (k:=(jh hX (by simp [-atD_lt, -atL_lt]; rfl)))))) (k:=(jt 1 (k:=(jm 3 19 [0, 1, 22] (p:=fun b1_15 => by (try simp at b1_15); exact (jh hX (by simp [-atD_lt, -atL_lt]; rfl))) (q:=fun b1_15 => by (try simp at b1_15); exact (jh hX (by simp [-atD_lt, -atL_lt]; rfl))) (k:=jf)))))))))))) ?_)
  refine jd (fun h1 => ?_) (fun h1 => ?_)
  · try simp at h1
    refine jq [4] ?_
    refine W_ret (je (by simp [h1]; rfl) ?_)
    (try simp_all [nameByte]) <;> grind [nameByte]
  · try simp at h1
    refine W_skip (W_rseqK [4] (jt 3 (k:=(jm 3 25 [0, 28] (p:=fun b3_3 => by (try simp at b3_3); exact (jh hX (by simp [-atD_lt, -atL_lt]; rfl))) (q:=fun b3_3 => by (try simp at b3_3); exact (jh hX (by simp [-atD_lt, -atL_lt]; rfl))) (k:=(jt 1 (k:=(jm 3 29 [32] (p:=fun b3_7 => by (try simp at b3_7); exact (jh hX (by simp [-atD_lt, -atL_lt]; rfl))) (q:=fun b3_7 => by (try simp at b3_7); exact (jh hX (by simp [-atD_lt, -atL_lt]; rfl))) (k:=jr)))))))) ?_)
    refine W_ret (je (by simp [h1]; rfl) ?_)
    (try simp_all [nameByte]) <;> grind [nameByte]
end Go.Proofs
namespace Go.Proofs
open Go Go.Ev


theorem cb_spec_NameRight : Callable Tryz.prog 163 := ⟨_, Tryz.func163, by kernel_rfl, by kernel_rfl⟩
theorem ct_spec_NameRight {t : Str} (ht : t.length ≤ 1099511627776) : Ct Tryz.prog 163 [.str t] [] (.bool (nameRight t)) [] := by
  refine Ct_bodyS tok Tryz.func163 rfl 25 (by kernel_rfl) (by kernel_rfl) fun X hX => ?_
  refine jq [0] ?_
  refine W_seq (W_rseqK [0, 11] (jt 4 (k:=(jm 4 7 [0, 11] (p:=fun b1_4 => by (try simp at b1_4); exact (jh hX (by simp [-atD_lt, -atL_lt]; rfl))) (q:=fun b1_4 => by (try simp at b1_4); exact (jh hX (by simp [-atD_lt, -atL_lt, b1_4]; rfl))) (k:=jf)))) ?_)
  refine jd (fun h1 => ?_) (fun h1 => ?_)
  · try simp at h1
    refine jq [2] ?_
    refine W_ret (je (by simp [h1]; rfl) ?_)
    grind [nameRight]
  · try simp at h1
    refine W_skip (W_seq (jq [0, 3] ?_))
    refine W_block (W_loopU (α := Nat) [0, 3] (fun i => [(3, .int .i64 i)]) (fun i => []) (fun i => i ≤ t.length ∧ nameFrom (decide (i = 0)) (t.drop i) = nameFrom true t) (fun i => t.length - i) (0) (fun i => by simp; rfl) (by simp) ?_ ?_)
    · simp
    rintro i ⟨hi, hI⟩
    refine W_seq (W_rseqK [0, 3, 15] (jh hX (by simp [h1]; rfl)) ?_)
    refine jd (fun h4 => ?_) (fun h4 => ?_)
    · try simp at h4
      rw [List.drop_eq_getElem_cons h4] at hI
      simp only [nameFrom] at hI
      refine W_skip (W_seq (W_block (W_rseqK [0, 3, 24] (js hX 5 (by simp [h1, h4]; rfl) (jc [] (c:=(by apply ct_spec_l01NameByte <;> first | assumption | omega | (simp at *; omega) | simp_all)) (a:=cb_spec_l01NameByte) (k:=jr))) ?_)))
      refine jd (fun h6 => ?_) (fun h6 => ?_)
      · try simp at h6
        refine jq [2] ?_
        refine W_ret (je (by simp [h1, h4]; rfl) ?_)
        grind [nameRight]
      · try simp at h6
        refine W_skip (W_reg (jh hX (by simp; (try (simp (disch := omega) only [wrap_i64]; (try simp))); rfl)) ?_)
        refine round_end (i + 1) [0, 3] (by simp [h1, h4]; try (simp (disch := omega) only [wrap_i64])) ?_ ?_
        · exact ⟨by omega, by simp_all⟩
        · omega
    · try simp at h4
      rw [List.drop_eq_nil_of_le h4] at hI
      simp only [nameFrom] at hI
      refine W_exit (jq [2] ?_)
      refine W_ret (je (by simp [h1, h4]; rfl) ?_)
      grind [nameRight]
end Go.Proofs
namespace Go.Proofs
open Go Go.Ev


theorem cb_spec_l02Type : Callable Tryz.prog 224 := ⟨_, Tryz.func224, by kernel_rfl, by kernel_rfl⟩
theorem ct_spec_l02Type_t {t : Str} {p : Nat} (ht : t.length ≤ 1099511627776) (hp : p ≤ t.length) : Ct Tryz.prog 224 [.str t, .int .i64 p, .bool true] [] (.tup [.int .i64 (tyP1 t p).1, .bool (tyP1 t p).2]) [] := by
  refine Ct_bodyS tok Tryz.func224 rfl 85 (by kernel_rfl) (by kernel_rfl) fun X hX => ?_
  refine jq [0, 1, 2] ?_
  refine W_seq (jq [0, 1, 2, 13] ?_)
  refine jd (fun h1 => ?_) (fun h1 => ?_)
  · try simp at h1
    refine jq [6, 7] ?_
    refine W_ret (je (by simp [h1]; rfl) ?_)
    simp_all [tyP, tyP1, nmP, isAt_lt, isAt_ge]
  · try simp at h1
    refine W_skip (W_seq (W_block (W_rseqK [0, 1, 2, 15] (jh hX (by simp [h1]; rfl)) ?_)))
    refine jd (fun h3 => ?_) (fun h3 => ?_)
    · try simp at h3
      refine W_rseqK [6, 7] (jh hX (by simp; (try (simp (disch := omega) only [wrap_i64]; (try simp))); rfl)) ?_
      refine W_ret (je (by simp [h1]; rfl) ?_)
      simp_all [tyP, tyP1, nmP, isAt_lt, isAt_ge]
    · try simp at h3
      refine W_rseqK [0, 1, 22] (js hX 5 (by simp [h1]; rfl) (jm 3 27 [0, 1, 30] (p:=fun b5_5 => by (try simp at b5_5); exact (jh hX (by simp [-atD_lt, -atL_lt]; rfl))) (q:=fun b5_5 => by (try simp at b5_5); exact (jh hX (by simp [-atD_lt, -atL_lt]; rfl))) (k:=jr))) ?_
      refine jd (fun h5 => ?_) (fun h5 => ?_)
      · try simp at h5
        --done
      · try simp at h5
        refine W_rseqK [0, 1, 37] (jh hX (by simp [h1]; rfl)) ?_
        refine jd (fun h7 => ?_) (fun h7 => ?_)
        · try simp at h7
          refine W_rseqK [0, 8] (jh hX (by simp; (try (simp (disch := omega) only [wrap_i64]; (try simp))); rfl)) ?_
          refine jq [0, 8, 9] ?_
          refine W_seq (W_block (W_loopU (α := Nat) [0, 8, 9] (fun i => [(9, .int .i64 i)]) (fun i => []) (fun i => p + 1 ≤ i ∧ i ≤ t.length ∧ i - (p + 1) ≤ 20 ∧ i + nameRun (20 - (i - (p + 1))) (decide (i = p + 1)) (t.drop i) = p + 1 + nameRun 20 true (t.drop (p + 1))) (fun i => t.length - i) (p + 1) (fun i => by simp; rfl) (by simp) ?_ ?_))
          · simp; omega
          rintro i ⟨h0i, hi, hn, hI⟩
          refine W_seq (W_rseqK [0, 8, 9, 63] (js hX 5 (by simp [h1]; rfl) (jm 5 49 [0, 8, 9, 54] (p:=fun b10_5 => by (try simp at b10_5); exact (jh hX (by simp [-atD_lt, -atL_lt]; (try (simp (disch := omega) only [wrap_i64]; (try simp [-atD_lt, -atL_lt]))); rfl))) (q:=fun b10_5 => by (try simp at b10_5); exact (jh hX (by simp [-atD_lt, -atL_lt]; rfl))) (k:=(jt 1 (k:=(jm 8 55 [0, 8, 9, 63] (p:=fun b10_11 => by (try simp at b10_11); exact (js hX 6 (by simp [-atD_lt, -atL_lt, h1, b10_11]; rfl) (Runs.call [] rfl (by simp) rfl (by simp [-atD_lt, -atL_lt]; rfl) (by simp; rfl) (by apply ct_spec_l01NameByte <;> first | assumption | omega | (simp at *; omega) | simp_all) cb_spec_l01NameByte (by simp) (by simp) (by simp [-atD_lt, -atL_lt]; rfl) (jh hX (by simp [-atD_lt, -atL_lt]; rfl))))) (q:=fun b10_11 => by (try simp at b10_11); exact (jh hX (by simp [-atD_lt, -atL_lt]; rfl))) (k:=jf))))))) ?_)
          have hge : t.length ≤ i → nameRun (20 - (i - (p + 1))) (decide (i = p + 1)) (t.drop i) = 0 := fun h => by rw [List.drop_eq_nil_of_le h]; simp [nameRun]
          have hg2 : i - (p + 1) = 20 → nameRun (20 - (i - (p + 1))) (decide (i = p + 1)) (t.drop i) = 0 := fun h => by rw [h]; simp [nameRun]
          have hg3 := fun h1 h2 => @drop_nameRun t i (p + 1) h1 h2 h0i
          refine jd (fun h10 => ?_) (fun h10 => ?_)
          · try simp at h10
            have ⟨⟨h10a, h10b⟩, h10c⟩ := h10
            rw [atD_lt h10a] at h10c
            rw [hg3 h10a (by omega), if_pos h10c] at hI
            refine W_skip (W_block (W_reg (jh hX (by simp; (try (simp (disch := omega) only [wrap_i64]; (try simp))); rfl)) ?_))
            refine round_end (i + 1) [0, 8, 9] (by simp [h1, h10]; try (simp (disch := omega) only [wrap_i64])) ?_ ?_
            · exact ⟨by omega, by omega, by omega, by omega⟩
            · omega
          · try simp at h10
            have hI2 : i = p + 1 + nameRun 20 true (t.drop (p + 1)) := by
              rcases Nat.lt_or_ge i t.length with hl | hl
              · by_cases hk : i - (p + 1) = 20
                · have := hg2 hk; omega
                · rw [hg3 hl (by omega)] at hI
                  have : nameByte t[i] (decide (i = p + 1)) = false := by
                    rw [← atD_lt hl]; exact h10 hl (by omega)
                  rw [this] at hI; simpa using hI
              · have := hge hl; omega
            have hnm : nmP t (p + 1) = if (isAt t i 59 && !decide (i = p + 1)) then (i + 1, true) else (i, false) := by simp only [nmP, ← hI2]
            have hty : tyP1 t p = nmP t (p + 1) := by simp [tyP1, isAt_lt h1, h3, h7]
            clear hI hI2 hg2 hg3 hge
            refine W_exit (W_seq (W_rseqK [9, 80] (js hX 5 (by simp [h1, h10]; rfl) (jm 5 70 [8, 9, 75] (p:=fun b12_5 => by (try simp at b12_5); exact (jh hX (by simp [-atD_lt, -atL_lt]; rfl))) (q:=fun b12_5 => by (try simp at b12_5); (have hlt : i < t.length := by omega); exact (jh hX (by simp [-atD_lt, -atL_lt, h1, h10, hlt]; rfl))) (k:=(jt 1 (k:=(jm 4 76 [9, 80] (p:=fun b12_11 => by (try simp at b12_11); exact (jh hX (by simp [-atD_lt, -atL_lt]; rfl))) (q:=fun b12_11 => by (try simp at b12_11); exact (jh hX (by simp [-atD_lt, -atL_lt]; rfl))) (k:=jf))))))) ?_))
            refine jd (fun h12 => ?_) (fun h12 => ?_)
            · try simp at h12
              refine jq [6, 7] ?_
              refine W_ret (je (by simp [h1, h10]; rfl) ?_)
              rw [hty, hnm]
              have : (isAt t i 59 && !decide (i = p + 1)) = false := by grind [isAt_lt, isAt_ge, atD_lt]
              simp [this]
            · try simp at h12
              refine W_skip (W_rseqK [6, 7] (jh hX (by simp; (try (simp (disch := omega) only [wrap_i64]; (try simp))); rfl)) ?_)
              refine W_ret (je (by simp [h1, h10]; rfl) ?_)
              rw [hty, hnm]
              have : (isAt t i 59 && !decide (i = p + 1)) = true := by grind [isAt_lt, isAt_ge, atD_lt]
              simp [this]
        · try simp at h7
          refine W_skip (jq [6, 7] ?_)
          refine W_ret (je (by simp [h1]; rfl) ?_)
          simp_all [tyP, tyP1, nmP, isAt_lt, isAt_ge]
theorem ct_spec_l02Type {t : Str} {p : Nat} (ht : t.length ≤ 1099511627776) (hp : p ≤ t.length) : Ct Tryz.prog 224 [.str t, .int .i64 p, .bool false] [] (.tup [.int .i64 (tyP t p).1, .bool (tyP t p).2]) [] := by
  refine Ct_bodyS tok Tryz.func224 rfl 85 (by kernel_rfl) (by kernel_rfl) fun X hX => ?_
  refine jq [0, 1, 2] ?_
  refine W_seq (jq [0, 1, 2, 13] ?_)
  refine jd (fun h1 => ?_) (fun h1 => ?_)
  · try simp at h1
    refine jq [6, 7] ?_
    refine W_ret (je (by simp [h1]; rfl) ?_)
    simp_all [tyP, tyP1, nmP, isAt_lt, isAt_ge]
  · try simp at h1
    refine W_skip (W_seq (W_block (W_rseqK [0, 1, 2, 15] (jh hX (by simp [h1]; rfl)) ?_)))
    refine jd (fun h3 => ?_) (fun h3 => ?_)
    · try simp at h3
      refine W_rseqK [6, 7] (jh hX (by simp; (try (simp (disch := omega) only [wrap_i64]; (try simp))); rfl)) ?_
      refine W_ret (je (by simp [h1]; rfl) ?_)
      simp_all [tyP, tyP1, nmP, isAt_lt, isAt_ge]
    · try simp at h3
      refine W_rseqK [0, 1, 22] (js hX 5 (by simp [h1]; rfl) (jm 3 27 [0, 1, 30] (p:=fun b5_5 => by (try simp at b5_5); exact (jh hX (by simp [-atD_lt, -atL_lt]; rfl))) (q:=fun b5_5 => by (try simp at b5_5); exact (jh hX (by simp [-atD_lt, -atL_lt]; rfl))) (k:=jr))) ?_
      refine jd (fun h5 => ?_) (fun h5 => ?_)
      · try simp at h5
        refine W_rseqK [6, 7] (js hX 3 (by simp; (try (simp (disch := omega) only [wrap_i64]; (try simp))); rfl) (jc [] (c:=(by apply ct_spec_l02Type_t <;> first | assumption | omega | (simp at *; omega) | simp_all)) (a:=cb_spec_l02Type) (k:=jr))) ?_
        refine W_ret (je (by simp [h1]; rfl) ?_)
        simp_all [tyP, tyP1, nmP, isAt_lt, isAt_ge]
      · try simp at h5
        refine W_rseqK [0, 1, 37] (jh hX (by simp [h1]; rfl)) ?_
        refine jd (fun h7 => ?_) (fun h7 => ?_)
        · try simp at h7
          refine W_rseqK [0, 8] (jh hX (by simp; (try (simp (disch := omega) only [wrap_i64]; (try simp))); rfl)) ?_
          refine jq [0, 8, 9] ?_
          refine W_seq (W_block (W_loopU (α := Nat) [0, 8, 9] (fun i => [(9, .int .i64 i)]) (fun i => []) (fun i => p + 1 ≤ i ∧ i ≤ t.length ∧ i - (p + 1) ≤ 20 ∧ i + nameRun (20 - (i - (p + 1))) (decide (i = p + 1)) (t.drop i) = p + 1 + nameRun 20 true (t.drop (p + 1))) (fun i => t.length - i) (p + 1) (fun i => by simp; rfl) (by simp) ?_ ?_))
          · simp; omega
          rintro i ⟨h0i, hi, hn, hI⟩
          refine W_seq (W_rseqK [0, 8, 9, 63] (js hX 5 (by simp [h1]; rfl) (jm 5 49 [0, 8, 9, 54] (p:=fun b10_5 => by (try simp at b10_5); exact (jh hX (by simp [-atD_lt, -atL_lt]; (try (simp (disch := omega) only [wrap_i64]; (try simp [-atD_lt, -atL_lt]))); rfl))) (q:=fun b10_5 => by (try simp at b10_5); exact (jh hX (by simp [-atD_lt, -atL_lt]; rfl))) (k:=(jt 1 (k:=(jm 8 55 [0, 8, 9, 63] (p:=fun b10_11 => by (try simp at b10_11); exact (js hX 6 (by simp [-atD_lt, -atL_lt, h1, b10_11]; rfl) (Runs.call [] rfl (by simp) rfl (by simp [-atD_lt, -atL_lt]; rfl) (by simp; rfl) (by apply ct_spec_l01NameByte <;> first | assumption | omega | (simp at *; omega) | simp_all) cb_spec_l01NameByte (by simp) (by simp) (by simp [-atD_lt, -atL_lt]; rfl) (jh hX (by simp [-atD_lt, -atL_lt]; rfl))))) (q:=fun b10_11 => by (try simp at b10_11); exact (jh hX (by simp [-atD_lt, -atL_lt]; rfl))) (k:=jf))))))) ?_)
          have hge : t.length ≤ i → nameRun (20 - (i - (p + 1))) (decide (i = p + 1)) (t.drop i) = 0 := fun h => by rw [List.drop_eq_nil_of_le h]; simp [nameRun]
          have hg2 : i - (p + 1) = 20 → nameRun (20 - (i - (p + 1))) (decide (i = p + 1)) (t.drop i) = 0 := fun h => by rw [h]; simp [nameRun]
          have hg3 := fun h1 h2 => @drop_nameRun t i (p + 1) h1 h2 h0i
          refine jd (fun h10 => ?_) (fun h10 => ?_)
          · try simp at h10
            have ⟨⟨h10a, h10b⟩, h10c⟩ := h10
            rw [atD_lt h10a] at h10c
            rw [hg3 h10a (by omega), if_pos h10c] at hI
            refine W_skip (W_block (W_reg (jh hX (by simp; (try (simp (disch := omega) only [wrap_i64]; (try simp))); rfl)) ?_))
            refine round_end (i + 1) [0, 8, 9] (by simp [h1, h10]; try (simp (disch := omega) only [wrap_i64])) ?_ ?_
            · exact ⟨by omega, by omega, by omega, by omega⟩
            · omega
          · try simp at h10
            have hI2 : i = p + 1 + nameRun 20 true (t.drop (p + 1)) := by
              rcases Nat.lt_or_ge i t.length with hl | hl
              · by_cases hk : i - (p + 1) = 20
                · have := hg2 hk; omega
                · rw [hg3 hl (by omega)] at hI
                  have : nameByte t[i] (decide (i = p + 1)) = false := by
                    rw [← atD_lt hl]; exact h10 hl (by omega)
                  rw [this] at hI; simpa using hI
              · have := hge hl; omega
            have hnm : nmP t (p + 1) = if (isAt t i 59 && !decide (i = p + 1)) then (i + 1, true) else (i, false) := by simp only [nmP, ← hI2]
            have hty : tyP t p = nmP t (p + 1) := by simp_all [tyP, tyP1, isAt_lt h1]
            clear hI hI2 hg2 hg3 hge
            refine W_exit (W_seq (W_rseqK [9, 80] (js hX 5 (by simp [h1, h10]; rfl) (jm 5 70 [8, 9, 75] (p:=fun b12_5 => by (try simp at b12_5); exact (jh hX (by simp [-atD_lt, -atL_lt]; rfl))) (q:=fun b12_5 => by (try simp at b12_5); (have hlt : i < t.length := by omega); exact (jh hX (by simp [-atD_lt, -atL_lt, h1, h10, hlt]; rfl))) (k:=(jt 1 (k:=(jm 4 76 [9, 80] (p:=fun b12_11 => by (try simp at b12_11); exact (jh hX (by simp [-atD_lt, -atL_lt]; rfl))) (q:=fun b12_11 => by (try simp at b12_11); exact (jh hX (by simp [-atD_lt, -atL_lt]; rfl))) (k:=jf))))))) ?_))
            refine jd (fun h12 => ?_) (fun h12 => ?_)
            · try simp at h12
              refine jq [6, 7] ?_
              refine W_ret (je (by simp [h1, h10]; rfl) ?_)
              rw [hty, hnm]
              have : (isAt t i 59 && !decide (i = p + 1)) = false := by grind [isAt_lt, isAt_ge, atD_lt]
              simp [this]
            · try simp at h12
              refine W_skip (W_rseqK [6, 7] (jh hX (by simp; (try (simp (disch := omega) only [wrap_i64]; (try simp))); rfl)) ?_)
              refine W_ret (je (by simp [h1, h10]; rfl) ?_)
              rw [hty, hnm]
              have : (isAt t i 59 && !decide (i = p + 1)) = true := by grind [isAt_lt, isAt_ge, atD_lt]
              simp [this]
        · try simp at h7
          refine W_skip (jq [6, 7] ?_)
          refine W_ret (je (by simp [h1]; rfl) ?_)
          simp_all [tyP, tyP1, nmP, isAt_lt, isAt_ge]
end Go.Proofs
namespace Go.Proofs
open Go Go.Ev


theorem cb_spec_l02Wrong : Callable Tryz.prog 251 := ⟨_, Tryz.func251, by kernel_rfl, by kernel_rfl⟩
theorem ct_spec_l02Wrong {n : Int} : Ct Tryz.prog 251 [.int .i64 n] [] (.agg [.raw (.slice none 0 0), .str [], .int .i64 n, .int .i64 3]) [] := by
  refine Ct_bodyS tok Tryz.func251 rfl 5 (by kernel_rfl) (by kernel_rfl) fun X hX => ?_
  refine jq [0, 2] ?_
  refine jq [2] ?_
  refine W_ret (je0 ?_)
  rfl
end Go.Proofs
namespace Go.Proofs
open Go Go.Ev


theorem cb_spec_DescRead : Callable Tryz.prog 206 := ⟨_, Tryz.func206, by kernel_rfl, by kernel_rfl⟩
theorem ct_spec_DescRead {t : Str} (ht : t.length ≤ 1099511627776) : Ct Tryz.prog 206 [.str t] [] (eDO (descRead t)) [] := by
  refine Ct_bodyS tok Tryz.func206 rfl 104 (by kernel_rfl) (by kernel_rfl) fun X hX => ?_
  refine jq [0, 2] ?_
  refine W_seq (jq [0, 2, 11] ?_)
  refine jd (fun h1 => ?_) (fun h1 => ?_)
  · try simp at h1
    refine W_rseqK [2] (jh hX (by simp [h1]; rfl)) ?_
    refine W_ret (W_retR (by simp [h1]; rfl) ?_ rfl)
    rw [show descRead t = ⟨[], [], 0, 2⟩ from by unfold descRead; rw [if_pos (by omega)]]
    exact wk_err _ _ _
  · try simp at h1
    have h1c : descRead t = dRead t := by unfold descRead; rw [if_neg (by omega)]
    rw [h1c]
    refine W_skip (W_seq (W_rseqK [0, 2, 20] (js hX 4 (by simp [h1]; rfl) (jm 4 16 [0, 2, 20] (p:=fun b3_4 => by (try simp at b3_4); exact (jh hX (by simp [-atD_lt, -atL_lt]; rfl))) (q:=fun b3_4 => by (try simp at b3_4); (have hlt : 0 < t.length := List.length_pos_iff.2 b3_4); exact (jh hX (by simp [-atD_lt, -atL_lt, h1, hlt]; rfl))) (k:=jf))) ?_))
    refine jd (fun h3 => ?_) (fun h3 => ?_)
    · try simp at h3
      refine W_rseqK [2] (jc [] (c:=(by apply ct_spec_l02Wrong <;> first | assumption | omega)) (a:=cb_spec_l02Wrong) (k:=(jh hX (by simp [h1]; rfl)))) ?_
      refine W_ret (W_retR (by simp [h1]; rfl) ?_ rfl)
      rw [show dRead t = dErr 0 from by unfold dRead; rw [if_neg]; rcases h3 with rfl | h3; simp [isAt]; simp only [isAt]; split <;> simp_all [atD]]
      exact wk_err _ _ _
    · try simp at h3
      have h3c : 0 < t.length := List.length_pos_iff.2 h3.1
      have h3b : isAt t 0 40 = true := by rw [isAt_lt h3c, ← atD_lt h3c]; simpa using h3.2
      refine W_skip (W_rseqK [0, 2, 3] (jh hX (by simp [h1]; rfl)) ?_)
      refine jq [0, 2, 3, 4] ?_
      refine W_seq (W_block (W_le (Le.nilC 1 0 0 1 (by simp; rfl)) ?_))
      refine W_loopU (α := List Str × Nat) [0, 2, 3, 4] (fun a => [(4, .int .i64 a.2)]) (fun a => [(1, some (2, [.agg [.arr 2 0 a.1.length, .str []]])), (2, some (1, a.1.map V.str))]) (fun a => a.2 ≤ t.length ∧ a.1.length ≤ 8 ∧ dParams t (8 - a.1.length) a.2 a.1 = dParams t 8 1 []) (fun a => 8 - a.1.length) (([], 1)) (fun a => by simp; rfl) (by simp) ?_ ?_
      · exact ⟨by simp; omega, by simp, rfl⟩
      rintro ⟨ps, p⟩ ⟨hp, hn, hI⟩
      simp only at hp hn hI
      refine W_seq (W_rseqK [0, 2, 3, 4, 32] (js hX 5 (by simp [h1]; rfl) (jm 5 27 [0, 2, 3, 4, 32] (p:=fun b7_5 => by (try simp at b7_5); exact (jh hX (by simp [-atD_lt, -atL_lt, h1, b7_5]; rfl))) (q:=fun b7_5 => by (try simp at b7_5); exact (jh hX (by simp [-atD_lt, -atL_lt]; rfl))) (k:=jf))) ?_)
      refine jd (fun h7 => ?_) (fun h7 => ?_)
      · try simp at h7
        have h7a := h7.1
        have h7b : isAt t p 41 = false := by rw [isAt_lt h7a, ← atD_lt h7a]; simpa using h7.2
        refine W_skip (W_block (W_seq (W_rseqK [0, 2, 3, 4, 36] (jh hX (by simp [h1, h7]; rfl)) ?_)))
        refine jd (fun h8 => ?_) (fun h8 => ?_)
        · try simp at h8
          have h8b : 8 - ps.length = 0 := by omega
          rw [h8b, dParams, if_neg (by simp [h7b])] at hI
          refine W_rseqK [2] (jt 1 (k:=(jc [] (c:=(by apply ct_spec_l02Wrong <;> first | assumption | omega)) (a:=cb_spec_l02Wrong) (k:=(jh hX (by simp [h1, h7]; rfl)))))) ?_
          refine W_ret (W_retR (by simp [h1, h7]; rfl) ?_ rfl)
          rw [dRead_err h3b hI.symm]
          exact wk_err _ _ _
        · try simp at h8
          have h8b : 8 - ps.length = (8 - (ps.length + 1)) + 1 := by omega
          rw [h8b, dParams, if_neg (by simp [h7b])] at hI
          obtain ⟨hge, hle, hgt, _⟩ := tyP_le hp
          have w1 : (ps.length + 1) * 16 ≤ 140737488355328 := by omega
          have w2 : ps.length ≤ 1099511627775 := by omega
          refine W_skip (W_rseqK [0, 2, 3, 4, 5, 6] (jt 2 (k:=(jc [] (c:=(by apply ct_spec_l02Type <;> first | assumption | omega)) (a:=cb_spec_l02Type) (k:=jr)))) ?_)
          refine W_seq (jq [0, 2, 3, 4, 5, 46] ?_)
          refine jd (fun h11 => ?_) (fun h11 => ?_)
          · try simp at h11
            rw [if_neg (by simp [h11])] at hI
            refine W_rseqK [2] (jt 1 (k:=(jc [] (c:=(by apply ct_spec_l02Wrong <;> first | assumption | omega)) (a:=cb_spec_l02Wrong) (k:=(jh hX (by simp [h1, h7, w1, w2]; rfl)))))) ?_
            refine W_ret (W_retR (by simp [h1, h7, w1, w2]; rfl) ?_ rfl)
            rw [dRead_err h3b hI.symm]
            exact wk_err _ _ _
          · try simp at h11
            rw [if_pos h11] at hI
            have hI3 : dParams t (8 - (ps ++ [seg t p (tyP t p).1]).length) (tyP t p).1 (ps ++ [seg t p (tyP t p).1]) = dParams t 8 1 [] := by simpa using hI
            refine W_skip (jL 7 [0, 1, 2, 3, 4, 5] [6] [0, 2, 3, 5] ([1]) hX (by simp [h1, h7, w1, w2, hge, hle]; rfl) (jH (p:=fun X hX => jr) (k:=.nil)) (jh hX (by simp [h1, h7, w1, w2, hge, hle]; rfl)) ?_)
            refine W_reg jr ?_
            refine round_endT ((ps ++ [seg t p (tyP t p).1], (tyP t p).1)) [0, 2, 3, 4] 3 (by simp [hX]) (by simp) (by simp [seg, h11]; try (simp (disch := omega) only [wrap_i64])) ?_ ?_
            · exact ⟨hle, by simp; omega, hI3⟩
            · simp; omega
      · try simp at h7
        have h7b : p < t.length → isAt t p 41 = true := fun h => by rw [isAt_lt h, ← atD_lt h]; simpa using h7 h
        refine W_exit (W_seq (W_rseqK [0, 2, 3, 4, 62] (jh hX (by simp [h1, h7]; rfl)) ?_))
        refine jd (fun h15 => ?_) (fun h15 => ?_)
        · try simp at h15
          refine W_rseqK [2] (jt 1 (k:=(jc [] (c:=(by apply ct_spec_l02Wrong <;> first | assumption | omega)) (a:=cb_spec_l02Wrong) (k:=(jh hX (by simp [h1, h7]; rfl)))))) ?_
          refine W_ret (W_retR (by simp [h1, h7]; rfl) ?_ rfl)
          have hpl : p = t.length := h15
          rw [show dRead t = dErr p from dRead_err h3b (by rw [← hI]; cases 8 - ps.length <;> simp [dParams, isAt_ge (show t.length ≤ p from by omega), tyP, tyP1]), hpl]
          exact wk_err _ _ _
        · try simp at h15
          have h7d := h7b (by omega)
          have hd : dRead t = dTail t ps p := dRead_ok h3b (by rw [← hI]; cases 8 - ps.length <;> simp [dParams, h7d])
          rw [hd]
          have w0 : p + 1 ≤ t.length := by omega
          have wp : ps.length ≤ ps.length := Nat.le_refl _
          refine W_skip (W_rseqK [0, 2, 3, 4] (jh hX (by simp; (try (simp (disch := omega) only [wrap_i64]; (try simp))); rfl)) ?_)
          refine W_seq (W_rseqK [0, 2, 3, 4, 76] (js hX 5 (by simp [h1, h7, w0]; rfl) (jm 5 71 [0, 2, 3, 4, 76] (p:=fun b18_5 => by (try simp at b18_5); exact (jh hX (by simp [-atD_lt, -atL_lt, h1, h7, w0, b18_5]; rfl))) (q:=fun b18_5 => by (try simp at b18_5); exact (jh hX (by simp [-atD_lt, -atL_lt]; rfl))) (k:=jf))) ?_)
          refine jd (fun h18 => ?_) (fun h18 => ?_)
          · try simp at h18
            have h18b : isAt t (p + 1) 86 = true := by rw [isAt_lt h18.1, ← atD_lt h18.1]; simpa using h18.2
            refine W_rseqK [0, 2, 3, 4] (jh hX (by simp [h1, h7, w0, h18]; rfl)) ?_
            refine W_reg (jh hX (by simp; (try (simp (disch := omega) only [wrap_i64]; (try simp))); rfl)) ?_
            refine W_seq (W_rseqK [2, 3, 4, 99] (jh hX (by simp [h1, h7, w0, h18]; rfl)) ?_)
            refine jd (fun h26 => ?_) (fun h26 => ?_)
            · try simp at h26
              refine W_rseqK [2] (jt 1 (k:=(jc [] (c:=(by apply ct_spec_l02Wrong <;> first | assumption | omega)) (a:=cb_spec_l02Wrong) (k:=(jh hX (by simp [h1, h7, w0, h18, h26]; rfl)))))) ?_
              refine W_ret (W_retR (by simp [h1, h7, w0, h18, h26]; rfl) ?_ rfl)
              first
                | (rw [show dTail t ps p = dErr (p + 2) from by simp only [dTail, h18b, if_true]; rw [if_pos (by omega)], show ((p : Int) + 1 + 1) = ((p + 2 : Nat) : Int) from by omega]; exact wk_err _ _ _)
                | (rw [show dTail t ps p = dErr (tyP t (p + 1)).1 from by simp only [dTail, h18b, h22, if_true]; simp; omega]; exact wk_err _ _ _)
            · try simp at h26
              refine W_skip (W_rseqK [2] (jh hX (by simp [h1, h7, w0, h18, h26]; rfl)) ?_)
              refine W_ret (W_retR (by simp [h1, h7, w0, h18, h26]; rfl) ?_ rfl)
              first
                | (rw [show dTail t ps p = ⟨ps, [86], 0, 0⟩ from by simp only [dTail, h18b, if_true]; rw [if_neg (by omega)]]; exact Wk.refl _)
                | (rw [show dTail t ps p = ⟨ps, seg t (p + 1) (tyP t (p + 1)).1, 0, 0⟩ from by simp only [dTail, h18b, h22]; simp; omega]; exact Wk.refl _)
          · try simp at h18
            have h18b : isAt t (p + 1) 86 = false := by
              rcases Nat.lt_or_ge (p + 1) t.length with h | h
              · rw [isAt_lt h, ← atD_lt h]; simpa using h18 h
              · exact isAt_ge h
            obtain ⟨hge, hle, hgt, _⟩ := tyP_le w0
            refine W_rseqK [0, 2, 3, 4, 7, 8] (jt 2 (k:=(jc [] (c:=(by apply ct_spec_l02Type <;> first | assumption | omega)) (a:=cb_spec_l02Type) (k:=jr)))) ?_
            refine W_seq (jq [0, 2, 3, 4, 7, 87] ?_)
            refine jd (fun h22 => ?_) (fun h22 => ?_)
            · try simp at h22
              refine W_rseqK [2] (jt 1 (k:=(jc [] (c:=(by apply ct_spec_l02Wrong <;> first | assumption | omega)) (a:=cb_spec_l02Wrong) (k:=(jh hX (by simp [h1, h7, w0, h18, hge, hle]; rfl)))))) ?_
              refine W_ret (W_retR (by simp [h1, h7, w0, h18, hge, hle]; rfl) ?_ rfl)
              rw [show dTail t ps p = dErr (tyP t (p + 1)).1 from by simp [dTail, h18b, h22]]
              exact wk_err _ _ _
            · try simp at h22
              refine W_skip (W_rseqK [0, 2, 3, 7] (jh hX (by simp [h1, h7, w0, h18, hge, hle]; rfl)) ?_)
              refine W_reg jr ?_
              refine W_seq (W_rseqK [2, 3, 4, 99] (jh hX (by simp [h1, h7, w0, h18, hge, hle]; rfl)) ?_)
              refine jd (fun h26 => ?_) (fun h26 => ?_)
              · try simp at h26
                refine W_rseqK [2] (jt 1 (k:=(jc [] (c:=(by apply ct_spec_l02Wrong <;> first | assumption | omega)) (a:=cb_spec_l02Wrong) (k:=(jh hX (by simp [h1, h7, w0, h18, hge, hle, h26]; rfl)))))) ?_
                refine W_ret (W_retR (by simp [h1, h7, w0, h18, hge, hle, h26]; rfl) ?_ rfl)
                first
                  | (rw [show dTail t ps p = dErr (p + 2) from by simp only [dTail, h18b, if_true]; rw [if_pos (by omega)], show ((p : Int) + 1 + 1) = ((p + 2 : Nat) : Int) from by omega]; exact wk_err _ _ _)
                  | (rw [show dTail t ps p = dErr (tyP t (p + 1)).1 from by simp only [dTail, h18b, h22, if_true]; simp; omega]; exact wk_err _ _ _)
              · try simp at h26
                refine W_skip (W_rseqK [2] (jh hX (by simp [h1, h7, w0, h18, hge, hle, h26]; rfl)) ?_)
                refine W_ret (W_retR (by simp [h1, h7, w0, h18, hge, hle, h26]; rfl) ?_ rfl)
                first
                  | (rw [show dTail t ps p = ⟨ps, [86], 0, 0⟩ from by simp only [dTail, h18b, if_true]; rw [if_neg (by omega)]]; exact Wk.refl _)
                  | (rw [show dTail t ps p = ⟨ps, seg t (p + 1) (tyP t (p + 1)).1, 0, 0⟩ from by simp only [dTail, h18b, h22]; simp; omega]; exact Wk.refl _)
end Go.Proofs
namespace Go.Proofs
open Go Go.Ev


theorem cb_spec_TypeRight : Callable Tryz.prog 164 := ⟨_, Tryz.func164, by kernel_rfl, by kernel_rfl⟩
theorem ct_spec_TypeRight {t : Str} (ht : t.length ≤ 1099511627776) : Ct Tryz.prog 164 [.str t] [] (.bool (typeRight t)) [] := by
  refine Ct_bodyS tok Tryz.func164 rfl 20 (by kernel_rfl) (by kernel_rfl) fun X hX => ?_
  refine jq [0] ?_
  refine W_seq (jq [0, 7] ?_)
  refine jd (fun h1 => ?_) (fun h1 => ?_)
  · try simp at h1
    refine jq [2] ?_
    refine W_ret (je (by simp [h1]; rfl) ?_)
    (try simp_all [typeRight]) <;> grind
  · try simp at h1
    refine W_skip (W_rseqK [0, 3, 4] (jt 1 (k:=(jc [] (c:=(by apply ct_spec_l02Type <;> first | assumption | omega | (simp at *; omega) | simp_all)) (a:=cb_spec_l02Type) (k:=jr)))) ?_)
    refine W_rseqK [2] (jt 2 (k:=(jm 5 14 [19] (p:=fun b4_2 => by (try simp at b4_2); exact (jh hX (by simp [-atD_lt, -atL_lt, h1]; rfl))) (q:=fun b4_2 => by (try simp at b4_2); exact (jh hX (by simp [-atD_lt, -atL_lt]; rfl))) (k:=jr)))) ?_
    refine W_ret (je (by simp [h1]; rfl) ?_)
    (try simp_all [typeRight]) <;> grind
end Go.Proofs
namespace Go.Proofs
open Go Go.Ev


theorem cb_spec_l01Int : Callable Tryz.prog 240 := ⟨_, Tryz.func240, by kernel_rfl, by kernel_rfl⟩
theorem ct_spec_l01Int {n : Int} : Ct Tryz.prog 240 [.int .i64 n] [] (.bool (decide (-2147483648 ≤ n ∧ n ≤ 2147483647))) [] := by
  refine Ct_bodyS tok Tryz.func240 rfl 9 (by kernel_rfl) (by kernel_rfl) fun X hX => ?_
  refine jq [0] ?_
  refine W_rseqK [2] (jt 3 (k:=(jm 3 5 [8] (p:=fun b1_3 => by (try simp at b1_3); exact (jh hX (by simp [-atD_lt, -atL_lt]; rfl))) (q:=fun b1_3 => by (try simp at b1_3); exact (jh hX (by simp [-atD_lt, -atL_lt]; rfl))) (k:=jr)))) ?_
  refine W_ret (je0 ?_)
  (try simp_all) <;> grind
end Go.Proofs
namespace Go.Proofs
open Go Go.Ev


theorem cb_spec_l03Empty : Callable Tryz.prog 252 := ⟨_, Tryz.func252, by kernel_rfl, by kernel_rfl⟩
theorem ct_spec_l03Empty {x : Ins} : Ct Tryz.prog 252 [eI x] [] (.bool (decide (x.cls = [] ∧ x.name = [] ∧ x.desc = []))) [] := by
  refine Ct_bodyS tok Tryz.func252 rfl 16 (by kernel_rfl) (by kernel_rfl) fun X hX => ?_
  refine jq [1] ?_
  refine W_rseqK [2] (jt 4 (k:=(jm 4 6 [1, 10] (p:=fun b1_4 => by (try simp at b1_4); exact (jh hX (by simp [-atD_lt, -atL_lt]; rfl))) (q:=fun b1_4 => by (try simp at b1_4); exact (jh hX (by simp [-atD_lt, -atL_lt]; rfl))) (k:=(jt 1 (k:=(jm 4 11 [15] (p:=fun b1_9 => by (try simp at b1_9); exact (jh hX (by simp [-atD_lt, -atL_lt]; rfl))) (q:=fun b1_9 => by (try simp at b1_9); exact (jh hX (by simp [-atD_lt, -atL_lt]; rfl))) (k:=jr)))))))) ?_
  refine W_ret (je0 ?_)
  (try simp_all) <;> grind
end Go.Proofs
namespace Go.Proofs
open Go Go.Ev


theorem cb_spec_InsRight : Callable Tryz.prog 207 := ⟨_, Tryz.func207, by kernel_rfl, by kernel_rfl⟩
theorem ct_spec_InsRight {x : Ins} (h : sizeI x ≤ 1099511627776) : Ct Tryz.prog 207 [eI x] [] (.bool (insRight x)) [] := by
  simp only [sizeI] at h
  refine Ct_bodyS tok Tryz.func207 rfl 145 (by kernel_rfl) (by kernel_rfl) fun X hX => ?_
  refine jq [1] ?_
  refine W_seq (W_rseqK [1, 5] (jt 2 (k:=(jc [] (c:=(by apply ct_spec_OpForm <;> first | assumption | omega | (simp at *; omega) | simp_all)) (a:=cb_spec_OpForm) (k:=jf)))) ?_)
  refine W_block (jq [1, 5, 6] ?_)
  refine jd (fun h2 => ?_) (fun h2 => ?_)
  · try simp at h2
    refine W_rseqK [2] (jt 4 (k:=(jm 3 11 [14] (p:=fun b3_4 => by (try simp at b3_4); exact (js hX 1 (by simp [-atD_lt, -atL_lt]; rfl) (Runs.call [] rfl (by simp) rfl (by simp [-atD_lt, -atL_lt]; rfl) (by simp; rfl) (by apply ct_spec_l03Empty <;> first | assumption | omega | (simp at *; omega) | simp_all) cb_spec_l03Empty (by simp) (by simp) (by simp [-atD_lt, -atL_lt]; rfl) (jh hX (by simp [-atD_lt, -atL_lt]; rfl))))) (q:=fun b3_4 => by (try simp at b3_4); exact (jh hX (by simp [-atD_lt, -atL_lt]; rfl))) (k:=jr)))) ?_
    refine W_ret (je0 ?_)
    (try simp_all [insRight, insEmpty, isInt, init]) <;> grind
  · try simp at h2
    refine jq [1, 5, 15] ?_
    refine jd (fun h4 => ?_) (fun h4 => ?_)
    · try simp at h4
      refine W_rseqK [2] (jt 2 (k:=(jc [] (c:=(by apply ct_spec_l01Int <;> first | assumption | omega | (simp at *; omega) | simp_all)) (a:=cb_spec_l01Int) (k:=(jt 1 (k:=(jm 3 20 [23] (p:=fun b5_4 => by (try simp at b5_4); exact (js hX 1 (by simp [-atD_lt, -atL_lt]; rfl) (Runs.call [] rfl (by simp) rfl (by simp [-atD_lt, -atL_lt]; rfl) (by simp; rfl) (by apply ct_spec_l03Empty <;> first | assumption | omega | (simp at *; omega) | simp_all) cb_spec_l03Empty (by simp) (by simp) (by simp [-atD_lt, -atL_lt]; rfl) (jh hX (by simp [-atD_lt, -atL_lt]; rfl))))) (q:=fun b5_4 => by (try simp at b5_4); exact (jh hX (by simp [-atD_lt, -atL_lt]; rfl))) (k:=jr)))))))) ?_
      refine W_ret (je0 ?_)
      (try simp_all [insRight, insEmpty, isInt, init]) <;> grind
    · try simp at h4
      refine jq [1, 5, 24] ?_
      refine jd (fun h6 => ?_) (fun h6 => ?_)
      · try simp at h6
        refine W_rseqK [2] (jt 4 (k:=(jm 4 29 [1, 33] (p:=fun b7_4 => by (try simp at b7_4); exact (jh hX (by simp [-atD_lt, -atL_lt, b7_4]; rfl))) (q:=fun b7_4 => by (try simp at b7_4); exact (jh hX (by simp [-atD_lt, -atL_lt]; rfl))) (k:=(jt 1 (k:=(jm 3 34 [37] (p:=fun b7_9 => by (try simp at b7_9); exact (js hX 1 (by simp [-atD_lt, -atL_lt, b7_9]; rfl) (Runs.call [] rfl (by simp) rfl (by simp [-atD_lt, -atL_lt]; rfl) (by simp; rfl) (by apply ct_spec_l03Empty <;> first | assumption | omega | (simp at *; omega) | simp_all) cb_spec_l03Empty (by simp) (by simp) (by simp [-atD_lt, -atL_lt]; rfl) (jh hX (by simp [-atD_lt, -atL_lt]; rfl))))) (q:=fun b7_9 => by (try simp at b7_9); exact (jh hX (by simp [-atD_lt, -atL_lt]; rfl))) (k:=jr)))))))) ?_
        refine W_ret (je0 ?_)
        (try simp_all [insRight, insEmpty, isInt, init]) <;> grind
      · try simp at h6
        refine jq [1, 5, 38] ?_
        refine jd (fun h8 => ?_) (fun h8 => ?_)
        · try simp at h8
          refine W_rseqK [2] (jt 4 (k:=(jm 4 43 [1, 47] (p:=fun b9_4 => by (try simp at b9_4); exact (jh hX (by simp [-atD_lt, -atL_lt, b9_4]; rfl))) (q:=fun b9_4 => by (try simp at b9_4); exact (jh hX (by simp [-atD_lt, -atL_lt]; rfl))) (k:=(jt 1 (k:=(jm 3 48 [51] (p:=fun b9_9 => by (try simp at b9_9); exact (js hX 1 (by simp [-atD_lt, -atL_lt, b9_9]; rfl) (Runs.call [] rfl (by simp) rfl (by simp [-atD_lt, -atL_lt]; rfl) (by simp; rfl) (by apply ct_spec_l03Empty <;> first | assumption | omega | (simp at *; omega) | simp_all) cb_spec_l03Empty (by simp) (by simp) (by simp [-atD_lt, -atL_lt]; rfl) (jh hX (by simp [-atD_lt, -atL_lt]; rfl))))) (q:=fun b9_9 => by (try simp at b9_9); exact (jh hX (by simp [-atD_lt, -atL_lt]; rfl))) (k:=jr)))))))) ?_
          refine W_ret (je0 ?_)
          (try simp_all [insRight, insEmpty, isInt, init]) <;> grind
        · try simp at h8
          refine jq [1, 5, 52] ?_
          refine jd (fun h10 => ?_) (fun h10 => ?_)
          · try simp at h10
            refine W_rseqK [2] (jt 4 (k:=(jm 4 57 [1, 61] (p:=fun b11_4 => by (try simp at b11_4); exact (js hX 2 (by simp [-atD_lt, -atL_lt]; rfl) (Runs.call [] rfl (by simp) rfl (by simp [-atD_lt, -atL_lt]; rfl) (by simp; rfl) (by apply ct_spec_NameRight <;> first | assumption | omega | (simp at *; omega) | simp_all) cb_spec_NameRight (by simp) (by simp) (by simp [-atD_lt, -atL_lt]; rfl) (jh hX (by simp [-atD_lt, -atL_lt]; rfl))))) (q:=fun b11_4 => by (try simp at b11_4); exact (jh hX (by simp [-atD_lt, -atL_lt]; rfl))) (k:=(jt 1 (k:=(jm 4 62 [1, 66] (p:=fun b11_9 => by (try simp at b11_9); exact (jh hX (by simp [-atD_lt, -atL_lt]; rfl))) (q:=fun b11_9 => by (try simp at b11_9); exact (jh hX (by simp [-atD_lt, -atL_lt]; rfl))) (k:=(jt 1 (k:=(jm 4 67 [71] (p:=fun b11_14 => by (try simp at b11_14); exact (jh hX (by simp [-atD_lt, -atL_lt]; rfl))) (q:=fun b11_14 => by (try simp at b11_14); exact (jh hX (by simp [-atD_lt, -atL_lt]; rfl))) (k:=jr)))))))))))) ?_
            refine W_ret (je0 ?_)
            (try simp_all [insRight, insEmpty, isInt, init]) <;> grind
          · try simp at h10
            refine jq [1, 5, 72] ?_
            refine jd (fun h12 => ?_) (fun h12 => ?_)
            · try simp at h12
              refine W_rseqK [2] (jt 4 (k:=(jm 4 77 [1, 81] (p:=fun b13_4 => by (try simp at b13_4); exact (jh hX (by simp [-atD_lt, -atL_lt]; rfl))) (q:=fun b13_4 => by (try simp at b13_4); exact (jh hX (by simp [-atD_lt, -atL_lt]; rfl))) (k:=(jt 1 (k:=(jm 4 82 [1, 86] (p:=fun b13_9 => by (try simp at b13_9); exact (jh hX (by simp [-atD_lt, -atL_lt]; rfl))) (q:=fun b13_9 => by (try simp at b13_9); exact (jh hX (by simp [-atD_lt, -atL_lt]; rfl))) (k:=(jt 1 (k:=(jm 4 87 [1, 91] (p:=fun b13_14 => by (try simp at b13_14); exact (js hX 2 (by simp [-atD_lt, -atL_lt]; rfl) (Runs.call [] rfl (by simp) rfl (by simp [-atD_lt, -atL_lt]; rfl) (by simp; rfl) (by apply ct_spec_TypeRight <;> first | assumption | omega | (simp at *; omega) | simp_all) cb_spec_TypeRight (by simp) (by simp) (by simp [-atD_lt, -atL_lt]; rfl) (jh hX (by simp [-atD_lt, -atL_lt]; rfl))))) (q:=fun b13_14 => by (try simp at b13_14); exact (jh hX (by simp [-atD_lt, -atL_lt]; rfl))) (k:=(jt 1 (k:=(jm 5 92 [97] (p:=fun b13_19 => by (try simp at b13_19); (have hlt := (len_of_typeRight b13_19.2).1; have hat := isAt_lt (n := 91) hlt); exact (jh hX (by simp [-atD_lt, -atL_lt, hlt]; rfl))) (q:=fun b13_19 => by (try simp at b13_19); exact (jh hX (by simp [-atD_lt, -atL_lt]; rfl))) (k:=jr)))))))))))))))) ?_
              refine W_ret (je0 ?_)
              by_cases hd : typeRight x.desc = true
              · have hlt := (len_of_typeRight hd).1
                have hat := isAt_lt (n := 91) hlt
                have had := atD_lt hlt
                (try simp_all [insRight, insEmpty]) <;> grind
              · (try simp_all [insRight, insEmpty]) <;> grind
            · try simp at h12
              refine jq [1, 5, 98] ?_
              refine jd (fun h14 => ?_) (fun h14 => ?_)
              · try simp at h14
                refine W_rseqK [2] (jt 4 (k:=(jm 4 103 [1, 107] (p:=fun b15_4 => by (try simp at b15_4); exact (js hX 2 (by simp [-atD_lt, -atL_lt]; rfl) (Runs.call [] rfl (by simp) rfl (by simp [-atD_lt, -atL_lt]; rfl) (by simp; rfl) (by apply ct_spec_NameRight <;> first | assumption | omega | (simp at *; omega) | simp_all) cb_spec_NameRight (by simp) (by simp) (by simp [-atD_lt, -atL_lt]; rfl) (jh hX (by simp [-atD_lt, -atL_lt]; rfl))))) (q:=fun b15_4 => by (try simp at b15_4); exact (jh hX (by simp [-atD_lt, -atL_lt]; rfl))) (k:=(jt 1 (k:=(jm 4 108 [1, 112] (p:=fun b15_9 => by (try simp at b15_9); exact (js hX 2 (by simp [-atD_lt, -atL_lt]; rfl) (Runs.call [] rfl (by simp) rfl (by simp [-atD_lt, -atL_lt]; rfl) (by simp; rfl) (by apply ct_spec_NameRight <;> first | assumption | omega | (simp at *; omega) | simp_all) cb_spec_NameRight (by simp) (by simp) (by simp [-atD_lt, -atL_lt]; rfl) (jh hX (by simp [-atD_lt, -atL_lt]; rfl))))) (q:=fun b15_9 => by (try simp at b15_9); exact (jh hX (by simp [-atD_lt, -atL_lt]; rfl))) (k:=(jt 1 (k:=(jm 4 113 [117] (p:=fun b15_14 => by (try simp at b15_14); exact (js hX 2 (by simp [-atD_lt, -atL_lt]; rfl) (Runs.call [] rfl (by simp) rfl (by simp [-atD_lt, -atL_lt]; rfl) (by simp; rfl) (by apply ct_spec_TypeRight <;> first | assumption | omega | (simp at *; omega) | simp_all) cb_spec_TypeRight (by simp) (by simp) (by simp [-atD_lt, -atL_lt]; rfl) (jh hX (by simp [-atD_lt, -atL_lt]; rfl))))) (q:=fun b15_14 => by (try simp at b15_14); exact (jh hX (by simp [-atD_lt, -atL_lt]; rfl))) (k:=jr)))))))))))) ?_
                refine W_ret (je0 ?_)
                (try simp_all [insRight, insEmpty, isInt, init]) <;> grind
              · try simp at h14
                refine jq [1, 118] ?_
                refine jd (fun h16 => ?_) (fun h16 => ?_)
                · try simp at h16
                  refine W_rseqK [2] (jt 4 (k:=(jm 4 123 [1, 127] (p:=fun b17_4 => by (try simp at b17_4); exact (js hX 2 (by simp [-atD_lt, -atL_lt]; rfl) (Runs.call [] rfl (by simp) rfl (by simp [-atD_lt, -atL_lt]; rfl) (by simp; rfl) (by apply ct_spec_NameRight <;> first | assumption | omega | (simp at *; omega) | simp_all) cb_spec_NameRight (by simp) (by simp) (by simp [-atD_lt, -atL_lt]; rfl) (jh hX (by simp [-atD_lt, -atL_lt]; rfl))))) (q:=fun b17_4 => by (try simp at b17_4); exact (jh hX (by simp [-atD_lt, -atL_lt]; rfl))) (k:=(jt 1 (k:=(jm 9 128 [1, 137] (p:=fun b17_9 => by (try simp at b17_9); exact (js hX 2 (by simp [-atD_lt, -atL_lt]; rfl) (Runs.call [] rfl (by simp) rfl (by simp [-atD_lt, -atL_lt]; rfl) (by simp; rfl) (by apply ct_spec_NameRight <;> first | assumption | omega | (simp at *; omega) | simp_all) cb_spec_NameRight (by simp) (by simp) (by simp [-atD_lt, -atL_lt]; rfl) (js hX 1 (by simp [-atD_lt, -atL_lt]; rfl) (jm 4 132 [1, 128, 136] (p:=fun b17_13 => by (try simp at b17_13); exact (jh hX (by simp [-atD_lt, -atL_lt]; rfl))) (q:=fun b17_13 => by (try simp at b17_13); exact (jh hX (by simp [-atD_lt, -atL_lt]; rfl))) (k:=(jh hX (by simp [-atD_lt, -atL_lt]; rfl)))))))) (q:=fun b17_9 => by (try simp at b17_9); exact (jh hX (by simp [-atD_lt, -atL_lt]; rfl))) (k:=(jt 1 (k:=(jm 6 138 [144] (p:=fun b17_19 => by (try simp at b17_19); exact (js hX 2 (by simp [-atD_lt, -atL_lt]; rfl) (Runs.callF rfl (by simp) rfl (by simp [-atD_lt, -atL_lt]; rfl) (by apply ct_spec_DescRead <;> first | assumption | omega | (simp at *; omega) | simp_all) cb_spec_DescRead (by simp [-atD_lt, -atL_lt]; rfl) (jh hX (by simp [-atD_lt, -atL_lt]; rfl))))) (q:=fun b17_19 => by (try simp at b17_19); exact (jh hX (by simp [-atD_lt, -atL_lt]; rfl))) (k:=jr)))))))))))) ?_
                  refine W_ret (je0 ?_)
                  (try simp_all [insRight, insEmpty, isInt, init]) <;> grind
                · try simp at h16
                  refine W_skip (jq [2] ?_)
                  refine W_ret (je0 ?_)
                  (try simp_all [insRight, insEmpty, isInt, init]) <;> grind
end Go.Proofs
namespace Go.Proofs
open Go Go.Ev


theorem cb_spec_l03Handler : Callable Tryz.prog 208 := ⟨_, Tryz.func208, by kernel_rfl, by kernel_rfl⟩
theorem ct_spec_l03Handler {x : Hdl} {n : Int} (h : x.cls.length ≤ 1099511627776) : Ct Tryz.prog 208 [eH x, .int .i64 n] [] (.bool (hdlRight n x)) [] := by
  refine Ct_bodyS tok Tryz.func208 rfl 37 (by kernel_rfl) (by kernel_rfl) fun X hX => ?_
  refine jq [1, 2] ?_
  refine W_rseqK [4] (jt 4 (k:=(jm 6 8 [1, 2, 14] (p:=fun b1_4 => by (try simp at b1_4); exact (jh hX (by simp [-atD_lt, -atL_lt, b1_4]; rfl))) (q:=fun b1_4 => by (try simp at b1_4); exact (jh hX (by simp [-atD_lt, -atL_lt]; rfl))) (k:=(jt 1 (k:=(jm 5 15 [1, 2, 20] (p:=fun b1_11 => by (try simp at b1_11); exact (jh hX (by simp [-atD_lt, -atL_lt, b1_11]; rfl))) (q:=fun b1_11 => by (try simp at b1_11); exact (jh hX (by simp [-atD_lt, -atL_lt]; rfl))) (k:=(jt 1 (k:=(jm 4 21 [1, 2, 25] (p:=fun b1_17 => by (try simp at b1_17); exact (jh hX (by simp [-atD_lt, -atL_lt, b1_17]; rfl))) (q:=fun b1_17 => by (try simp at b1_17); exact (jh hX (by simp [-atD_lt, -atL_lt]; rfl))) (k:=(jt 1 (k:=(jm 5 26 [2, 31] (p:=fun b1_22 => by (try simp at b1_22); exact (jh hX (by simp [-atD_lt, -atL_lt, b1_22]; rfl))) (q:=fun b1_22 => by (try simp at b1_22); exact (jh hX (by simp [-atD_lt, -atL_lt]; rfl))) (k:=(jt 1 (k:=(jm 4 32 [36] (p:=fun b1_28 => by (try simp at b1_28); exact (js hX 2 (by simp [-atD_lt, -atL_lt, b1_28]; rfl) (Runs.call [] rfl (by simp) rfl (by simp [-atD_lt, -atL_lt]; rfl) (by simp; rfl) (by apply ct_spec_NameRight <;> first | assumption | omega | (simp at *; omega) | simp_all) cb_spec_NameRight (by simp) (by simp) (by simp [-atD_lt, -atL_lt]; rfl) (jh hX (by simp [-atD_lt, -atL_lt]; rfl))))) (q:=fun b1_28 => by (try simp at b1_28); exact (jh hX (by simp [-atD_lt, -atL_lt]; rfl))) (k:=jr)))))))))))))))))))) ?_
  refine W_ret (je0 ?_)
  (try simp_all [hdlRight]) <;> grind
end Go.Proofs
namespace Go.Proofs
open Go Go.Ev


theorem cb_spec_MethodRight : Callable Tryz.prog 142 := ⟨_, Tryz.func142, by kernel_rfl, by kernel_rfl⟩
theorem ct_spec_MethodRight {x : Mth} (h : sizeM x ≤ 1099511627776) : Ct Tryz.prog 142 [eM x] [] (.bool (mthRight x)) [] := by
  simp only [sizeM] at h
  refine Ct_bodyS tok Tryz.func142 rfl 180 (by kernel_rfl) (by kernel_rfl) fun X hX => ?_
  refine jq [1] ?_
  refine W_rseqK [1, 3] (jt 2 (k:=(jF (c:=(by apply ct_spec_DescRead <;> first | assumption | omega | (have := mem_sum (f := sizeI) (List.getElem_mem (l := x.code) (n := i) (by omega)); simp only [sizeI] at *; omega) | (have := mem_sum (f := sizeH) (List.getElem_mem (l := x.hdls) (n := i) (by omega)); simp only [sizeH] at *; omega))) (a:=cb_spec_DescRead) (k:=jr)))) ?_
  refine W_seq (W_rseqK [1, 3, 44] (jt 2 (k:=(jc [] (c:=(by apply ct_spec_NameRight <;> first | assumption | omega | (have := mem_sum (f := sizeI) (List.getElem_mem (l := x.code) (n := i) (by omega)); simp only [sizeI] at *; omega) | (have := mem_sum (f := sizeH) (List.getElem_mem (l := x.hdls) (n := i) (by omega)); simp only [sizeH] at *; omega))) (a:=cb_spec_NameRight) (k:=(jt 2 (k:=(jm 4 15 [1, 3, 19] (p:=fun b2_5 => by (try simp at b2_5); exact (jh hX (by simp [-atD_lt, -atL_lt]; rfl))) (q:=fun b2_5 => by (try simp at b2_5); exact (jh hX (by simp [-atD_lt, -atL_lt]; rfl))) (k:=(jt 1 (k:=(jm 4 20 [1, 3, 24] (p:=fun b2_10 => by (try simp at b2_10); exact (jh hX (by simp [-atD_lt, -atL_lt]; rfl))) (q:=fun b2_10 => by (try simp at b2_10); exact (jh hX (by simp [-atD_lt, -atL_lt]; rfl))) (k:=(jt 1 (k:=(jm 4 25 [1, 3, 29] (p:=fun b2_15 => by (try simp at b2_15); exact (jh hX (by simp [-atD_lt, -atL_lt]; rfl))) (q:=fun b2_15 => by (try simp at b2_15); exact (jh hX (by simp [-atD_lt, -atL_lt]; rfl))) (k:=(jt 1 (k:=(jm 4 30 [1, 3, 34] (p:=fun b2_20 => by (try simp at b2_20); exact (jh hX (by simp [-atD_lt, -atL_lt]; rfl))) (q:=fun b2_20 => by (try simp at b2_20); exact (jh hX (by simp [-atD_lt, -atL_lt, b2_20]; rfl))) (k:=(jt 1 (k:=(jm 4 35 [1, 3, 39] (p:=fun b2_25 => by (try simp at b2_25); exact (jh hX (by simp [-atD_lt, -atL_lt]; rfl))) (q:=fun b2_25 => by (try simp at b2_25); exact (jh hX (by simp [-atD_lt, -atL_lt, b2_25]; rfl))) (k:=(jt 1 (k:=(jm 4 40 [1, 3, 44] (p:=fun b2_30 => by (try simp at b2_30); exact (jh hX (by simp [-atD_lt, -atL_lt]; rfl))) (q:=fun b2_30 => by (try simp at b2_30); exact (jh hX (by simp [-atD_lt, -atL_lt, b2_30]; rfl))) (k:=jf)))))))))))))))))))))))))))) ?_)
  refine jd (fun h2 => ?_) (fun h2 => ?_)
  · try simp at h2
    have hh : mthHead x = false := by unfold mthHead init; grind
    refine jq [2] ?_
    refine W_ret (je (by simp [h2]; rfl) ?_)
    rw [mthRight_no hh]
  · try simp at h2
    have hh : mthHead x = true := by unfold mthHead init; grind
    refine W_skip (W_seq (W_rseqK [1, 3, 46] (jh hX (by simp [h2]; rfl)) ?_))
    refine jd (fun h4 => ?_) (fun h4 => ?_)
    · try simp at h4
      refine W_rseqK [2] (js hX 4 (by simp [h2]; rfl) (jm 4 50 [1, 54] (p:=fun b5_4 => by (try simp at b5_4); exact (jh hX (by simp [-atD_lt, -atL_lt, h2]; rfl))) (q:=fun b5_4 => by (try simp at b5_4); exact (jh hX (by simp [-atD_lt, -atL_lt]; rfl))) (k:=(jt 1 (k:=(jm 5 55 [1, 60] (p:=fun b5_9 => by (try simp at b5_9); exact (jh hX (by simp [-atD_lt, -atL_lt, h2]; rfl))) (q:=fun b5_9 => by (try simp at b5_9); exact (jh hX (by simp [-atD_lt, -atL_lt]; rfl))) (k:=(jt 1 (k:=(jm 5 61 [1, 66] (p:=fun b5_15 => by (try simp at b5_15); exact (jh hX (by simp [-atD_lt, -atL_lt, h2]; rfl))) (q:=fun b5_15 => by (try simp at b5_15); exact (jh hX (by simp [-atD_lt, -atL_lt]; rfl))) (k:=(jt 1 (k:=(jm 4 67 [1, 71] (p:=fun b5_21 => by (try simp at b5_21); exact (jh hX (by simp [-atD_lt, -atL_lt, h2]; rfl))) (q:=fun b5_21 => by (try simp at b5_21); exact (jh hX (by simp [-atD_lt, -atL_lt]; rfl))) (k:=(jt 1 (k:=(jm 4 72 [1, 76] (p:=fun b5_26 => by (try simp at b5_26); exact (jh hX (by simp [-atD_lt, -atL_lt, h2]; rfl))) (q:=fun b5_26 => by (try simp at b5_26); exact (jh hX (by simp [-atD_lt, -atL_lt]; rfl))) (k:=(jt 1 (k:=(jm 4 77 [81] (p:=fun b5_31 => by (try simp at b5_31); exact (jh hX (by simp [-atD_lt, -atL_lt, h2]; rfl))) (q:=fun b5_31 => by (try simp at b5_31); exact (jh hX (by simp [-atD_lt, -atL_lt]; rfl))) (k:=jr))))))))))))))))))))))) ?_
      refine W_ret (je (by simp [h2]; rfl) ?_)
      rw [mthRight_abs hh h4]
      simp [init]; grind
    · try simp at h4
      refine W_skip (W_rseqK [1, 3, 4] (jh hX (by simp [h2]; rfl)) ?_)
      refine W_rseqK [1, 3, 4, 5] (jh hX (by simp [h2]; rfl)) ?_
      refine W_seq (W_rseqK [1, 3, 4, 5, 91] (jh hX (by simp [h2]; rfl)) ?_)
      refine' W_condS3 [1, 3, 4, 5] (by simp; rfl) (by rfl) (fun h8 => ?a1_1) (fun h8 => ?a0_1) ?ak_1
      case a1_1 =>
        try simp at h8
        refine W_reg (jh hX (by simp; (try (simp (disch := omega) only [wrap_i64]; (try simp))); rfl)) ?_
        exact ⟨rfl, Eq.trans (by (try simp); rfl) (by rfl)⟩
      case a0_1 =>
        try simp at h8
        refine W_skip ?_
        exact ⟨rfl, Eq.trans (by (try simp); rfl) (by rfl)⟩
      case ak_1 =>
        refine W_le (Le.of_eq (by simp; rfl)) ?_
        have hpl := descRead_le x.desc
        have hw : IntKind.i64.wrap (((descRead x.desc).params.length : Int) + 1) = (descRead x.desc).params.length + 1 := wrap_i64 (by omega) (by omega)
        simp only [hw]
        refine W_seq (W_rseqK [1, 3, 4, 111] (jt 3 (k:=(jm 3 96 [1, 3, 4, 5, 99] (p:=fun b10_3 => by (try simp at b10_3); exact (jh hX (by simp [-atD_lt, -atL_lt]; rfl))) (q:=fun b10_3 => by (try simp at b10_3); exact (jh hX (by simp [-atD_lt, -atL_lt]; rfl))) (k:=(jt 1 (k:=(jm 5 100 [1, 3, 4, 105] (p:=fun b10_7 => by (try simp at b10_7); exact (jh hX (by simp [-atD_lt, -atL_lt]; rfl))) (q:=fun b10_7 => by (try simp at b10_7); exact (jh hX (by simp [-atD_lt, -atL_lt, h2, b10_7]; rfl))) (k:=(jt 1 (k:=(jm 5 106 [1, 3, 4, 111] (p:=fun b10_13 => by (try simp at b10_13); exact (jh hX (by simp [-atD_lt, -atL_lt]; rfl))) (q:=fun b10_13 => by (try simp at b10_13); exact (jh hX (by simp [-atD_lt, -atL_lt, h2, b10_13]; rfl))) (k:=jf)))))))))))) ?_)
        refine jd (fun h10 => ?_) (fun h10 => ?_)
        · try simp at h10
          rw [mthRight_out h4 (by unfold needs; grind)]
          refine jq [2] ?_
          refine W_ret (je (by simp [h2, h10]; rfl) ?_)
          rfl
        · try simp at h10
          rw [mthRight_in hh h4 (by unfold needs; grind)]
          refine W_skip (W_seq (jq [1, 3, 4, 6] ?_))
          refine W_block (W_loopU (α := Nat) [1, 3, 4, 6] (fun i => [(6, .int .i64 i)]) (fun i => []) (fun i => i ≤ x.code.length ∧ (x.code.drop i).all (codeOK x.code.length) = x.code.all (codeOK x.code.length)) (fun i => x.code.length - i) (0) (fun i => by simp; rfl) (by simp) ?_ ?_)
          · simp
          rintro i ⟨hi, hI⟩
          refine W_seq (W_rseqK [1, 3, 4, 6, 116] (jh hX (by simp [h2, h10]; rfl)) ?_)
          refine jd (fun h13 => ?_) (fun h13 => ?_)
          · try simp at h13
            rw [all_drop h13] at hI
            refine W_skip (W_seq (W_block (W_rseqK [1, 3, 4, 6, 145] (js hX 5 (by simp [h2, h10, h13]; rfl) (jc [] (c:=(by apply ct_spec_InsRight <;> first | assumption | omega | (have := mem_sum (f := sizeI) (List.getElem_mem (l := x.code) (n := i) (by omega)); simp only [sizeI] at *; omega) | (have := mem_sum (f := sizeH) (List.getElem_mem (l := x.hdls) (n := i) (by omega)); simp only [sizeH] at *; omega))) (a:=cb_spec_InsRight) (k:=(jt 2 (k:=(jm 19 126 [1, 3, 4, 6, 145] (p:=fun b15_8 => by (try simp at b15_8); exact (jh hX (by simp [-atD_lt, -atL_lt]; rfl))) (q:=fun b15_8 => by (try simp at b15_8); exact (js hX 6 (by simp [-atD_lt, -atL_lt, h2, h10, h13]; rfl) (Runs.call [] rfl (by simp) rfl (by simp [-atD_lt, -atL_lt]; rfl) (by simp; rfl) (by apply ct_spec_OpForm <;> first | assumption | omega | (have := mem_sum (f := sizeI) (List.getElem_mem (l := x.code) (n := i) (by omega)); simp only [sizeI] at *; omega) | (have := mem_sum (f := sizeH) (List.getElem_mem (l := x.hdls) (n := i) (by omega)); simp only [sizeH] at *; omega)) cb_spec_OpForm (by simp) (by simp) (by simp [-atD_lt, -atL_lt]; rfl) (js hX 2 (by simp [-atD_lt, -atL_lt]; rfl) (jm 9 135 [1, 3, 4, 6, 126, 144] (p:=fun b15_17 => by (try simp at b15_17); exact (jh hX (by simp [-atD_lt, -atL_lt, h2, h10, h13]; rfl))) (q:=fun b15_17 => by (try simp at b15_17); exact (jh hX (by simp [-atD_lt, -atL_lt]; rfl))) (k:=(jh hX (by simp [-atD_lt, -atL_lt]; rfl)))))))) (k:=jf))))))) ?_)))
            refine jd (fun h15 => ?_) (fun h15 => ?_)
            · try simp at h15
              refine jq [2] ?_
              refine W_ret (je (by simp [h2, h10, h13, h15]; rfl) ?_)
              simp only [atL_lt h13] at h15
              have : codeOK x.code.length x.code[i] = false := by unfold codeOK; grind
              simp [← hI, this]
            · try simp at h15
              simp only [atL_lt h13] at h15
              have h15b : codeOK x.code.length x.code[i] = true := by unfold codeOK; grind
              rw [h15b, Bool.true_and] at hI
              refine W_skip (W_reg (jh hX (by simp; (try (simp (disch := omega) only [wrap_i64]; (try simp))); rfl)) ?_)
              refine round_end (i + 1) [1, 3, 4, 6] (by simp [h2, h10, h13, h15]; try (simp (disch := omega) only [wrap_i64])) ?_ ?_
              · exact ⟨by omega, hI⟩
              · omega
          · try simp at h13
            rw [List.drop_eq_nil_of_le h13] at hI
            refine W_exit (W_seq (jq [1, 3, 4, 7] ?_))
            refine W_block (W_loopU (α := Nat) [1, 3, 4, 7] (fun i => [(7, .int .i64 i)]) (fun i => []) (fun i => i ≤ x.hdls.length ∧ (x.hdls.drop i).all (hdlRight x.code.length) = x.hdls.all (hdlRight x.code.length)) (fun i => x.hdls.length - i) (0) (fun i => by simp; rfl) (by simp) ?_ ?_)
            · simp
            rintro i ⟨hi2, hI2⟩
            refine W_seq (W_rseqK [1, 3, 4, 7, 150] (jh hX (by simp [h2, h10, h13]; rfl)) ?_)
            refine jd (fun h18 => ?_) (fun h18 => ?_)
            · try simp at h18
              rw [all_drop h18] at hI2
              refine W_skip (W_seq (W_block (W_rseqK [1, 3, 4, 7, 160] (js hX 6 (by simp [h2, h10, h13, h18]; rfl) (jc [] (c:=(by apply ct_spec_l03Handler <;> first | assumption | omega | (have := mem_sum (f := sizeI) (List.getElem_mem (l := x.code) (n := i) (by omega)); simp only [sizeI] at *; omega) | (have := mem_sum (f := sizeH) (List.getElem_mem (l := x.hdls) (n := i) (by omega)); simp only [sizeH] at *; omega))) (a:=cb_spec_l03Handler) (k:=jr))) ?_)))
              refine jd (fun h20 => ?_) (fun h20 => ?_)
              · try simp at h20
                refine jq [2] ?_
                refine W_ret (je (by simp [h2, h10, h13, h18]; rfl) ?_)
                simp [← hI2, h20]
              · try simp at h20
                rw [h20, Bool.true_and] at hI2
                refine W_skip (W_reg (jh hX (by simp; (try (simp (disch := omega) only [wrap_i64]; (try simp))); rfl)) ?_)
                refine round_end (i + 1) [1, 3, 4, 7] (by simp [h2, h10, h13, h18]; try (simp (disch := omega) only [wrap_i64])) ?_ ?_
                · exact ⟨by omega, hI2⟩
                · omega
            · try simp at h18
              rw [List.drop_eq_nil_of_le h18] at hI2
              refine W_exit (W_rseqK [2] (js hX 4 (by simp [h2, h10, h13, h18]; rfl) (jm 15 164 [179] (p:=fun b22_4 => by (try simp at b22_4); exact (jh hX (by simp [-atD_lt, -atL_lt]; rfl))) (q:=fun b22_4 => by (try simp at b22_4); exact (js hX 4 (by simp [-atD_lt, -atL_lt, h2, h10, h13, h18]; rfl) (jm 4 168 [3, 164, 172] (p:=fun b22_8 => by (try simp at b22_8); exact (jh hX (by simp [-atD_lt, -atL_lt, h2, h10, h13, h18]; rfl))) (q:=fun b22_8 => by (try simp at b22_8); exact (jh hX (by simp [-atD_lt, -atL_lt]; rfl))) (k:=(js hX 1 (by simp [-atD_lt, -atL_lt]; rfl) (jm 5 173 [164, 178] (p:=fun b22_13 => by (try simp at b22_13); exact (jh hX (by simp [-atD_lt, -atL_lt, h2, h10, h13, h18]; rfl))) (q:=fun b22_13 => by (try simp at b22_13); exact (jh hX (by simp [-atD_lt, -atL_lt]; rfl))) (k:=(jh hX (by simp [-atD_lt, -atL_lt]; rfl))))))))) (k:=jr))) ?_)
              refine W_ret (je (by simp [h2, h10, h13, h18]; rfl) ?_)
              simp [← hI, ← hI2, init]; grind
end Go.Proofs
namespace Go.Proofs
open Go Go.Ev

attribute [local irreducible] nS nV wordS wordV ltyS ltyV pickV l06T
theorem cb_spec_l01Src_l03Class : Callable Tryz.prog 84 := ⟨_, Tryz.func84, by kernel_rfl, by kernel_rfl⟩
theorem ct_spec_l01Src_l03Class {s : Src} (hs : okS s) {n u : Str} (hn : n.length ≤ 40) (hu : u.length ≤ 40) : CtE Tryz.prog 84 [.ptr 0 0 0, .str n, .str u] [oSrc s] (fun r ob' => ∃ (s' : Src) (c : Cls), r = oC c ∧ ob' = [oSrc s'] ∧ okS s' ∧ smC c) := by
  refine Ct_bodyE tok Tryz.func84 rfl 96 (by kernel_rfl) (by kernel_rfl) fun X hX => ?_
  refine jq [0, 1, 2, 6] ?_
  refine W_rseqK [0, 6, 7] (jt 3 (k:=(jc [0] (c:=(by (try simp only [mapL_T, mapL_F, mapL_I, mapL_H, mapL_M, mapL_C]); apply ct_spec_l01Src_one <;> first | omega | assumption | decide | exact nS_ok (by assumption) _ | exact nS_ok (nS_ok (by assumption) _) _ | ((repeat apply nS_ok); assumption))) (a:=cb_spec_l01Src_one) (k:=jr)))) ?_
  obtain ⟨ca, hca⟩ : ∃ b : Bool, b = decide (nV s 4 = 0) := ⟨_, rfl⟩
  refine W_le (Le.trans (Le.nilC 2 0 4 3 (by simp; rfl)) (Le.trans (Le.nilC 2 0 5 9 (by simp; rfl)) (Le.of_eq (by simp [← hca]; rfl)))) ?_
  refine W_seq (W_rseqK [0, 6, 7, 8] (jt 1 (k:=(jc [0] (c:=(by (try simp only [mapL_T, mapL_F, mapL_I, mapL_H, mapL_M, mapL_C]); apply ct_spec_l01Src_n <;> first | omega | assumption | decide | exact nS_ok (by assumption) _ | exact nS_ok (nS_ok (by assumption) _) _ | ((repeat apply nS_ok); assumption))) (a:=cb_spec_l01Src_n) (k:=jr)))) ?_)
  refine W_block (W_loopU (α := Int × Src × List Fld) [0, 6, 7, 8] (fun p => [(8, .int .i64 p.1)]) (fun p => [(0, oSrc p.2.1), (2, some (6, [.agg [.str n, .str u, .bool false, .bool ca, .arr 3 0 p.2.2.length, .arr 4 0 0]])), (3, some (3, p.2.2.map eF))]) (fun p => (p.2.2.length : Int) + p.1 ≤ 2 ∧ 0 ≤ p.1 ∧ okS p.2.1 ∧ ∀ x ∈ p.2.2, smF x) (fun p => p.1.toNat) ((nV (nS s 4) 3, nS (nS s 4) 3, [])) (fun p => by simp; rfl) (by simp) ?_ ?_)
  · have h9 := (nV_r (nS s 4) (m := 3) (by decide)); have h8 := h9.2.1 (by decide); exact ⟨by simp; omega, by simp only; omega, by (first | assumption | ((repeat (first | apply nS_ok | apply wordS_ok | apply ltyS_ok)) <;> assumption)), by simp⟩
  rintro ⟨j, s, fs⟩ ⟨hjc, hj0, hs, hfi⟩
  simp only at hjc hj0 hs hfi
  have w1 : (fs.length + 1) * 40 ≤ 140737488355328 := by omega
  have w2 : fs.length ≤ 1099511627775 := by omega
  have wj : IntKind.i64.wrap (j - 1) = j - 1 := wrap_i64 (by omega) (by omega)
  refine W_seq (W_rseqK [0, 6, 7, 8, 20] (jh hX (by simp [w1, w2, wj]; rfl)) ?_)
  refine jd (fun h3 => ?_) (fun h3 => ?_)
  · try simp at h3
    have hf3 : fs.length < 3 := by omega
    have hE := sat3A hf3
    refine W_skip (W_seq (W_block (jT 13 (purs [1, 2, 3, 6, 9] (.alt 0 (purs [4, 5] (.alt 7 (.alt 8 (.alt 10 (purs [11] (.alt 12 .tail .stop)) (.alt 12 (.alt 10 (purs [11] .tail) .stop) .stop)) (.alt 12 (.alt 8 (.alt 10 (purs [11] .tail) .stop) .stop) .stop)) (.alt 12 (.alt 7 (.alt 8 (.alt 10 (purs [11] .tail) .stop) .stop) .stop) .stop))) (.alt 7 (.alt 0 (purs [4, 5] (.alt 8 (.alt 10 (purs [11] (.alt 12 .tail .stop)) (.alt 12 (.alt 10 (purs [11] .tail) .stop) .stop)) (.alt 12 (.alt 8 (.alt 10 (purs [11] .tail) .stop) .stop) .stop))) (.alt 8 (.alt 0 (purs [4, 5] (.alt 10 (purs [11] (.alt 12 .tail .stop)) (.alt 12 (.alt 10 (purs [11] .tail) .stop) .stop))) (.alt 10 (.alt 0 (purs [4, 5, 11] (.alt 12 .tail .stop)) (.alt 12 (.alt 0 (purs [4, 5, 11] .tail) .stop) .stop)) (.alt 12 (.alt 0 (purs [4, 5] (.alt 10 (purs [11] .tail) .stop)) (.alt 10 (.alt 0 (purs [4, 5, 11] .tail) .stop) .stop)) .stop))) (.alt 12 (.alt 0 (purs [4, 5] (.alt 8 (.alt 10 (purs [11] .tail) .stop) .stop)) (.alt 8 (.alt 0 (purs [4, 5] (.alt 10 (purs [11] .tail) .stop)) (.alt 10 (.alt 0 (purs [4, 5, 11] .tail) .stop) .stop)) .stop)) .stop))) (.alt 12 (.alt 0 (purs [4, 5] (.alt 7 (.alt 8 (.alt 10 (purs [11] .tail) .stop) .stop) .stop)) (.alt 7 (.alt 0 (purs [4, 5] (.alt 8 (.alt 10 (purs [11] .tail) .stop) .stop)) (.alt 8 (.alt 0 (purs [4, 5] (.alt 10 (purs [11] .tail) .stop)) (.alt 10 (.alt 0 (purs [4, 5, 11] .tail) .stop) .stop)) .stop)) .stop)) .stop)))) [0, 6, 7, 8, 9] [2] hX (jTp [1, 2, 3, 6, 9] _ (by simp [w1, w2, wj, h3, hf3, hE]; try rfl) (jTa 0 (p:=fun X hX => (jFz (k:=jf))) (k:=(jTp [4, 5] _ (by simp [w1, w2, wj, h3, hf3, hE]; try rfl) (jTa 7 (p:=fun X hX => (jFz (k:=jf))) (k:=(jTa 8 (p:=fun X hX => (jc [0] (c:=(by (try simp only [mapL_T, mapL_F, mapL_I, mapL_H, mapL_M, mapL_C]); apply (ct_spec_l01Src_pick_f (l := [[73], [76, 65, 59], [91, 73]])) <;> first | omega | assumption | decide | exact nS_ok (by assumption) _ | exact nS_ok (nS_ok (by assumption) _) _ | ((repeat apply nS_ok); assumption))) (a:=cb_spec_l01Src_pick) (k:=jf))) (k:=(jTa 10 (p:=fun X hX => (jc [0] (c:=(by (try simp only [mapL_T, mapL_F, mapL_I, mapL_H, mapL_M, mapL_C]); apply ct_spec_l01Src_one <;> first | omega | assumption | decide | exact nS_ok (by assumption) _ | exact nS_ok (nS_ok (by assumption) _) _ | ((repeat apply nS_ok); assumption))) (a:=cb_spec_l01Src_one) (k:=jf))) (k:=(jTp [11] _ (by simp [w1, w2, wj, h3, hf3, hE]; try rfl) (jTa 12 (p:=fun X hX => (jh hX (by simp [w1, w2, wj, h3, hf3, hE]; rfl))) (k:=.tail) (kr:=.stop)))) (kr:=(jTa 12 (p:=fun X hX => (jh hX (by simp [w1, w2, wj, h3, hf3, hE]; rfl))) (k:=(jTa 10 (p:=fun X hX => (jc [0] (c:=(by (try simp only [mapL_T, mapL_F, mapL_I, mapL_H, mapL_M, mapL_C]); apply ct_spec_l01Src_one <;> first | omega | assumption | decide | exact nS_ok (by assumption) _ | exact nS_ok (nS_ok (by assumption) _) _ | ((repeat apply nS_ok); assumption))) (a:=cb_spec_l01Src_one) (k:=jf))) (k:=(jTp [11] _ (by simp [w1, w2, wj, h3, hf3, hE]; try rfl) .tail)) (kr:=.stop))) (kr:=.stop))))) (kr:=(jTa 12 (p:=fun X hX => (jh hX (by simp [w1, w2, wj, h3, hf3, hE]; rfl))) (k:=(jTa 8 (p:=fun X hX => (jc [0] (c:=(by (try simp only [mapL_T, mapL_F, mapL_I, mapL_H, mapL_M, mapL_C]); apply (ct_spec_l01Src_pick_f (l := [[73], [76, 65, 59], [91, 73]])) <;> first | omega | assumption | decide | exact nS_ok (by assumption) _ | exact nS_ok (nS_ok (by assumption) _) _ | ((repeat apply nS_ok); assumption))) (a:=cb_spec_l01Src_pick) (k:=jf))) (k:=(jTa 10 (p:=fun X hX => (jc [0] (c:=(by (try simp only [mapL_T, mapL_F, mapL_I, mapL_H, mapL_M, mapL_C]); apply ct_spec_l01Src_one <;> first | omega | assumption | decide | exact nS_ok (by assumption) _ | exact nS_ok (nS_ok (by assumption) _) _ | ((repeat apply nS_ok); assumption))) (a:=cb_spec_l01Src_one) (k:=jf))) (k:=(jTp [11] _ (by simp [w1, w2, wj, h3, hf3, hE]; try rfl) .tail)) (kr:=.stop))) (kr:=.stop))) (kr:=.stop))))) (kr:=(jTa 12 (p:=fun X hX => (jh hX (by simp [w1, w2, wj, h3, hf3, hE]; rfl))) (k:=(jTa 7 (p:=fun X hX => (jFz (k:=jf))) (k:=(jTa 8 (p:=fun X hX => (jc [0] (c:=(by (try simp only [mapL_T, mapL_F, mapL_I, mapL_H, mapL_M, mapL_C]); apply (ct_spec_l01Src_pick_f (l := [[73], [76, 65, 59], [91, 73]])) <;> first | omega | assumption | decide | exact nS_ok (by assumption) _ | exact nS_ok (nS_ok (by assumption) _) _ | ((repeat apply nS_ok); assumption))) (a:=cb_spec_l01Src_pick) (k:=jf))) (k:=(jTa 10 (p:=fun X hX => (jc [0] (c:=(by (try simp only [mapL_T, mapL_F, mapL_I, mapL_H, mapL_M, mapL_C]); apply ct_spec_l01Src_one <;> first | omega | assumption | decide | exact nS_ok (by assumption) _ | exact nS_ok (nS_ok (by assumption) _) _ | ((repeat apply nS_ok); assumption))) (a:=cb_spec_l01Src_one) (k:=jf))) (k:=(jTp [11] _ (by simp [w1, w2, wj, h3, hf3, hE]; try rfl) .tail)) (kr:=.stop))) (kr:=.stop))) (kr:=.stop))) (kr:=.stop)))))) (kr:=(jTa 7 (p:=fun X hX => (jFz (k:=jf))) (k:=(jTa 0 (p:=fun X hX => (jFz (k:=jf))) (k:=(jTp [4, 5] _ (by simp [w1, w2, wj, h3, hf3, hE]; try rfl) (jTa 8 (p:=fun X hX => (jc [0] (c:=(by (try simp only [mapL_T, mapL_F, mapL_I, mapL_H, mapL_M, mapL_C]); apply (ct_spec_l01Src_pick_f (l := [[73], [76, 65, 59], [91, 73]])) <;> first | omega | assumption | decide | exact nS_ok (by assumption) _ | exact nS_ok (nS_ok (by assumption) _) _ | ((repeat apply nS_ok); assumption))) (a:=cb_spec_l01Src_pick) (k:=jf))) (k:=(jTa 10 (p:=fun X hX => (jc [0] (c:=(by (try simp only [mapL_T, mapL_F, mapL_I, mapL_H, mapL_M, mapL_C]); apply ct_spec_l01Src_one <;> first | omega | assumption | decide | exact nS_ok (by assumption) _ | exact nS_ok (nS_ok (by assumption) _) _ | ((repeat apply nS_ok); assumption))) (a:=cb_spec_l01Src_one) (k:=jf))) (k:=(jTp [11] _ (by simp [w1, w2, wj, h3, hf3, hE]; try rfl) (jTa 12 (p:=fun X hX => (jh hX (by simp [w1, w2, wj, h3, hf3, hE]; rfl))) (k:=.tail) (kr:=.stop)))) (kr:=(jTa 12 (p:=fun X hX => (jh hX (by simp [w1, w2, wj, h3, hf3, hE]; rfl))) (k:=(jTa 10 (p:=fun X hX => (jc [0] (c:=(by (try simp only [mapL_T, mapL_F, mapL_I, mapL_H, mapL_M, mapL_C]); apply ct_spec_l01Src_one <;> first | omega | assumption | decide | exact nS_ok (by assumption) _ | exact nS_ok (nS_ok (by assumption) _) _ | ((repeat apply nS_ok); assumption))) (a:=cb_spec_l01Src_one) (k:=jf))) (k:=(jTp [11] _ (by simp [w1, w2, wj, h3, hf3, hE]; try rfl) .tail)) (kr:=.stop))) (kr:=.stop))))) (kr:=(jTa 12 (p:=fun X hX => (jh hX (by simp [w1, w2, wj, h3, hf3, hE]; rfl))) (k:=(jTa 8 (p:=fun X hX => (jc [0] (c:=(by (try simp only [mapL_T, mapL_F, mapL_I, mapL_H, mapL_M, mapL_C]); apply (ct_spec_l01Src_pick_f (l := [[73], [76, 65, 59], [91, 73]])) <;> first | omega | assumption | decide | exact nS_ok (by assumption) _ | exact nS_ok (nS_ok (by assumption) _) _ | ((repeat apply nS_ok); assumption))) (a:=cb_spec_l01Src_pick) (k:=jf))) (k:=(jTa 10 (p:=fun X hX => (jc [0] (c:=(by (try simp only [mapL_T, mapL_F, mapL_I, mapL_H, mapL_M, mapL_C]); apply ct_spec_l01Src_one <;> first | omega | assumption | decide | exact nS_ok (by assumption) _ | exact nS_ok (nS_ok (by assumption) _) _ | ((repeat apply nS_ok); assumption))) (a:=cb_spec_l01Src_one) (k:=jf))) (k:=(jTp [11] _ (by simp [w1, w2, wj, h3, hf3, hE]; try rfl) .tail)) (kr:=.stop))) (kr:=.stop))) (kr:=.stop)))))) (kr:=(jTa 8 (p:=fun X hX => (jc [0] (c:=(by (try simp only [mapL_T, mapL_F, mapL_I, mapL_H, mapL_M, mapL_C]); apply (ct_spec_l01Src_pick_f (l := [[73], [76, 65, 59], [91, 73]])) <;> first | omega | assumption | decide | exact nS_ok (by assumption) _ | exact nS_ok (nS_ok (by assumption) _) _ | ((repeat apply nS_ok); assumption))) (a:=cb_spec_l01Src_pick) (k:=jf))) (k:=(jTa 0 (p:=fun X hX => (jFz (k:=jf))) (k:=(jTp [4, 5] _ (by simp [w1, w2, wj, h3, hf3, hE]; try rfl) (jTa 10 (p:=fun X hX => (jc [0] (c:=(by (try simp only [mapL_T, mapL_F, mapL_I, mapL_H, mapL_M, mapL_C]); apply ct_spec_l01Src_one <;> first | omega | assumption | decide | exact nS_ok (by assumption) _ | exact nS_ok (nS_ok (by assumption) _) _ | ((repeat apply nS_ok); assumption))) (a:=cb_spec_l01Src_one) (k:=jf))) (k:=(jTp [11] _ (by simp [w1, w2, wj, h3, hf3, hE]; try rfl) (jTa 12 (p:=fun X hX => (jh hX (by simp [w1, w2, wj, h3, hf3, hE]; rfl))) (k:=.tail) (kr:=.stop)))) (kr:=(jTa 12 (p:=fun X hX => (jh hX (by simp [w1, w2, wj, h3, hf3, hE]; rfl))) (k:=(jTa 10 (p:=fun X hX => (jc [0] (c:=(by (try simp only [mapL_T, mapL_F, mapL_I, mapL_H, mapL_M, mapL_C]); apply ct_spec_l01Src_one <;> first | omega | assumption | decide | exact nS_ok (by assumption) _ | exact nS_ok (nS_ok (by assumption) _) _ | ((repeat apply nS_ok); assumption))) (a:=cb_spec_l01Src_one) (k:=jf))) (k:=(jTp [11] _ (by simp [w1, w2, wj, h3, hf3, hE]; try rfl) .tail)) (kr:=.stop))) (kr:=.stop)))))) (kr:=(jTa 10 (p:=fun X hX => (jc [0] (c:=(by (try simp only [mapL_T, mapL_F, mapL_I, mapL_H, mapL_M, mapL_C]); apply ct_spec_l01Src_one <;> first | omega | assumption | decide | exact nS_ok (by assumption) _ | exact nS_ok (nS_ok (by assumption) _) _ | ((repeat apply nS_ok); assumption))) (a:=cb_spec_l01Src_one) (k:=jf))) (k:=(jTa 0 (p:=fun X hX => (jFz (k:=jf))) (k:=(jTp [4, 5, 11] _ (by simp [w1, w2, wj, h3, hf3, hE]; try rfl) (jTa 12 (p:=fun X hX => (jh hX (by simp [w1, w2, wj, h3, hf3, hE]; rfl))) (k:=.tail) (kr:=.stop)))) (kr:=(jTa 12 (p:=fun X hX => (jh hX (by simp [w1, w2, wj, h3, hf3, hE]; rfl))) (k:=(jTa 0 (p:=fun X hX => (jFz (k:=jf))) (k:=(jTp [4, 5, 11] _ (by simp [w1, w2, wj, h3, hf3, hE]; try rfl) .tail)) (kr:=.stop))) (kr:=.stop))))) (kr:=(jTa 12 (p:=fun X hX => (jh hX (by simp [w1, w2, wj, h3, hf3, hE]; rfl))) (k:=(jTa 0 (p:=fun X hX => (jFz (k:=jf))) (k:=(jTp [4, 5] _ (by simp [w1, w2, wj, h3, hf3, hE]; try rfl) (jTa 10 (p:=fun X hX => (jc [0] (c:=(by (try simp only [mapL_T, mapL_F, mapL_I, mapL_H, mapL_M, mapL_C]); apply ct_spec_l01Src_one <;> first | omega | assumption | decide | exact nS_ok (by assumption) _ | exact nS_ok (nS_ok (by assumption) _) _ | ((repeat apply nS_ok); assumption))) (a:=cb_spec_l01Src_one) (k:=jf))) (k:=(jTp [11] _ (by simp [w1, w2, wj, h3, hf3, hE]; try rfl) .tail)) (kr:=.stop)))) (kr:=(jTa 10 (p:=fun X hX => (jc [0] (c:=(by (try simp only [mapL_T, mapL_F, mapL_I, mapL_H, mapL_M, mapL_C]); apply ct_spec_l01Src_one <;> first | omega | assumption | decide | exact nS_ok (by assumption) _ | exact nS_ok (nS_ok (by assumption) _) _ | ((repeat apply nS_ok); assumption))) (a:=cb_spec_l01Src_one) (k:=jf))) (k:=(jTa 0 (p:=fun X hX => (jFz (k:=jf))) (k:=(jTp [4, 5, 11] _ (by simp [w1, w2, wj, h3, hf3, hE]; try rfl) .tail)) (kr:=.stop))) (kr:=.stop))))) (kr:=.stop))))))) (kr:=(jTa 12 (p:=fun X hX => (jh hX (by simp [w1, w2, wj, h3, hf3, hE]; rfl))) (k:=(jTa 0 (p:=fun X hX => (jFz (k:=jf))) (k:=(jTp [4, 5] _ (by simp [w1, w2, wj, h3, hf3, hE]; try rfl) (jTa 8 (p:=fun X hX => (jc [0] (c:=(by (try simp only [mapL_T, mapL_F, mapL_I, mapL_H, mapL_M, mapL_C]); apply (ct_spec_l01Src_pick_f (l := [[73], [76, 65, 59], [91, 73]])) <;> first | omega | assumption | decide | exact nS_ok (by assumption) _ | exact nS_ok (nS_ok (by assumption) _) _ | ((repeat apply nS_ok); assumption))) (a:=cb_spec_l01Src_pick) (k:=jf))) (k:=(jTa 10 (p:=fun X hX => (jc [0] (c:=(by (try simp only [mapL_T, mapL_F, mapL_I, mapL_H, mapL_M, mapL_C]); apply ct_spec_l01Src_one <;> first | omega | assumption | decide | exact nS_ok (by assumption) _ | exact nS_ok (nS_ok (by assumption) _) _ | ((repeat apply nS_ok); assumption))) (a:=cb_spec_l01Src_one) (k:=jf))) (k:=(jTp [11] _ (by simp [w1, w2, wj, h3, hf3, hE]; try rfl) .tail)) (kr:=.stop))) (kr:=.stop)))) (kr:=(jTa 8 (p:=fun X hX => (jc [0] (c:=(by (try simp only [mapL_T, mapL_F, mapL_I, mapL_H, mapL_M, mapL_C]); apply (ct_spec_l01Src_pick_f (l := [[73], [76, 65, 59], [91, 73]])) <;> first | omega | assumption | decide | exact nS_ok (by assumption) _ | exact nS_ok (nS_ok (by assumption) _) _ | ((repeat apply nS_ok); assumption))) (a:=cb_spec_l01Src_pick) (k:=jf))) (k:=(jTa 0 (p:=fun X hX => (jFz (k:=jf))) (k:=(jTp [4, 5] _ (by simp [w1, w2, wj, h3, hf3, hE]; try rfl) (jTa 10 (p:=fun X hX => (jc [0] (c:=(by (try simp only [mapL_T, mapL_F, mapL_I, mapL_H, mapL_M, mapL_C]); apply ct_spec_l01Src_one <;> first | omega | assumption | decide | exact nS_ok (by assumption) _ | exact nS_ok (nS_ok (by assumption) _) _ | ((repeat apply nS_ok); assumption))) (a:=cb_spec_l01Src_one) (k:=jf))) (k:=(jTp [11] _ (by simp [w1, w2, wj, h3, hf3, hE]; try rfl) .tail)) (kr:=.stop)))) (kr:=(jTa 10 (p:=fun X hX => (jc [0] (c:=(by (try simp only [mapL_T, mapL_F, mapL_I, mapL_H, mapL_M, mapL_C]); apply ct_spec_l01Src_one <;> first | omega | assumption | decide | exact nS_ok (by assumption) _ | exact nS_ok (nS_ok (by assumption) _) _ | ((repeat apply nS_ok); assumption))) (a:=cb_spec_l01Src_one) (k:=jf))) (k:=(jTa 0 (p:=fun X hX => (jFz (k:=jf))) (k:=(jTp [4, 5, 11] _ (by simp [w1, w2, wj, h3, hf3, hE]; try rfl) .tail)) (kr:=.stop))) (kr:=.stop))))) (kr:=.stop))))) (kr:=.stop))))))) (kr:=(jTa 12 (p:=fun X hX => (jh hX (by simp [w1, w2, wj, h3, hf3, hE]; rfl))) (k:=(jTa 0 (p:=fun X hX => (jFz (k:=jf))) (k:=(jTp [4, 5] _ (by simp [w1, w2, wj, h3, hf3, hE]; try rfl) (jTa 7 (p:=fun X hX => (jFz (k:=jf))) (k:=(jTa 8 (p:=fun X hX => (jc [0] (c:=(by (try simp only [mapL_T, mapL_F, mapL_I, mapL_H, mapL_M, mapL_C]); apply (ct_spec_l01Src_pick_f (l := [[73], [76, 65, 59], [91, 73]])) <;> first | omega | assumption | decide | exact nS_ok (by assumption) _ | exact nS_ok (nS_ok (by assumption) _) _ | ((repeat apply nS_ok); assumption))) (a:=cb_spec_l01Src_pick) (k:=jf))) (k:=(jTa 10 (p:=fun X hX => (jc [0] (c:=(by (try simp only [mapL_T, mapL_F, mapL_I, mapL_H, mapL_M, mapL_C]); apply ct_spec_l01Src_one <;> first | omega | assumption | decide | exact nS_ok (by assumption) _ | exact nS_ok (nS_ok (by assumption) _) _ | ((repeat apply nS_ok); assumption))) (a:=cb_spec_l01Src_one) (k:=jf))) (k:=(jTp [11] _ (by simp [w1, w2, wj, h3, hf3, hE]; try rfl) .tail)) (kr:=.stop))) (kr:=.stop))) (kr:=.stop)))) (kr:=(jTa 7 (p:=fun X hX => (jFz (k:=jf))) (k:=(jTa 0 (p:=fun X hX => (jFz (k:=jf))) (k:=(jTp [4, 5] _ (by simp [w1, w2, wj, h3, hf3, hE]; try rfl) (jTa 8 (p:=fun X hX => (jc [0] (c:=(by (try simp only [mapL_T, mapL_F, mapL_I, mapL_H, mapL_M, mapL_C]); apply (ct_spec_l01Src_pick_f (l := [[73], [76, 65, 59], [91, 73]])) <;> first | omega | assumption | decide | exact nS_ok (by assumption) _ | exact nS_ok (nS_ok (by assumption) _) _ | ((repeat apply nS_ok); assumption))) (a:=cb_spec_l01Src_pick) (k:=jf))) (k:=(jTa 10 (p:=fun X hX => (jc [0] (c:=(by (try simp only [mapL_T, mapL_F, mapL_I, mapL_H, mapL_M, mapL_C]); apply ct_spec_l01Src_one <;> first | omega | assumption | decide | exact nS_ok (by assumption) _ | exact nS_ok (nS_ok (by assumption) _) _ | ((repeat apply nS_ok); assumption))) (a:=cb_spec_l01Src_one) (k:=jf))) (k:=(jTp [11] _ (by simp [w1, w2, wj, h3, hf3, hE]; try rfl) .tail)) (kr:=.stop))) (kr:=.stop)))) (kr:=(jTa 8 (p:=fun X hX => (jc [0] (c:=(by (try simp only [mapL_T, mapL_F, mapL_I, mapL_H, mapL_M, mapL_C]); apply (ct_spec_l01Src_pick_f (l := [[73], [76, 65, 59], [91, 73]])) <;> first | omega | assumption | decide | exact nS_ok (by assumption) _ | exact nS_ok (nS_ok (by assumption) _) _ | ((repeat apply nS_ok); assumption))) (a:=cb_spec_l01Src_pick) (k:=jf))) (k:=(jTa 0 (p:=fun X hX => (jFz (k:=jf))) (k:=(jTp [4, 5] _ (by simp [w1, w2, wj, h3, hf3, hE]; try rfl) (jTa 10 (p:=fun X hX => (jc [0] (c:=(by (try simp only [mapL_T, mapL_F, mapL_I, mapL_H, mapL_M, mapL_C]); apply ct_spec_l01Src_one <;> first | omega | assumption | decide | exact nS_ok (by assumption) _ | exact nS_ok (nS_ok (by assumption) _) _ | ((repeat apply nS_ok); assumption))) (a:=cb_spec_l01Src_one) (k:=jf))) (k:=(jTp [11] _ (by simp [w1, w2, wj, h3, hf3, hE]; try rfl) .tail)) (kr:=.stop)))) (kr:=(jTa 10 (p:=fun X hX => (jc [0] (c:=(by (try simp only [mapL_T, mapL_F, mapL_I, mapL_H, mapL_M, mapL_C]); apply ct_spec_l01Src_one <;> first | omega | assumption | decide | exact nS_ok (by assumption) _ | exact nS_ok (nS_ok (by assumption) _) _ | ((repeat apply nS_ok); assumption))) (a:=cb_spec_l01Src_one) (k:=jf))) (k:=(jTa 0 (p:=fun X hX => (jFz (k:=jf))) (k:=(jTp [4, 5, 11] _ (by simp [w1, w2, wj, h3, hf3, hE]; try rfl) .tail)) (kr:=.stop))) (kr:=.stop))))) (kr:=.stop))))) (kr:=.stop))))) (kr:=.stop))))))) (jh hX (by simp [w1, w2, wj, h3, hf3, hE]; rfl)) ?_)))
    refine W_reg (jh hX (by simp [w1, w2, wj, h3, hf3, hE]; rfl)) ?_
    refine W_reg (jh hX (by simp [w1, w2, wj, h3, hf3, hE]; (try (simp (disch := omega) only [wrap_i64]; (try simp [w1, w2, wj, h3, hf3, hE]))); rfl)) ?_
    refine round_endT ((j - 1, nS (nS s 3) 3, fs ++ [⟨atL [[120], [121], [122]] fs.length, pickV [[73], [76, 65, 59], [91, 73]] s, decide (nV (nS s 3) 3 = 0)⟩])) [0, 6, 7, 8] 5 (by simp [hX]) (by simp) (by simp [wj, hf3]) ?_ ?_
    · exact ⟨by simp; omega, by simp only; omega, by (first | assumption | ((repeat (first | apply nS_ok | apply wordS_ok | apply ltyS_ok)) <;> assumption)), all_app hfi ⟨by simp only; rw [atL_lt hf3]; exact Nat.le_trans (sat3L _ hf3) (by decide), pick_le _ (by decide) (by decide) (by decide)⟩⟩
    · simp only; omega
  · try simp at h3
    have hfl : fs.length ≤ 2 := by omega
    have wf1 : (fs.length + 1) * 40 ≤ 140737488355328 := by omega
    have wf2 : fs.length ≤ 1099511627775 := by omega
    refine W_exit (W_seq (W_rseqK [0, 6, 7, 10] (js hX 1 (by simp [w1, w2, wj, h3, wf1, wf2]; rfl) (jc [0] (c:=(by (try simp only [mapL_T, mapL_F, mapL_I, mapL_H, mapL_M, mapL_C]); apply ct_spec_l01Src_n <;> first | omega | assumption | decide | exact nS_ok (by assumption) _ | exact nS_ok (nS_ok (by assumption) _) _ | ((repeat apply nS_ok); assumption))) (a:=cb_spec_l01Src_n) (k:=(jh hX (by simp [w1, w2, wj, h3, wf1, wf2]; rfl))))) ?_))
    refine W_block (W_loopU (α := Int × Src × List Mth) [0, 6, 7, 10] (fun p => [(10, .int .i64 p.1)]) (fun p => [(0, oSrc p.2.1), (2, some (6, [.agg [.str n, .str u, .bool false, .bool ca, .arr 3 0 fs.length, .arr 4 0 p.2.2.length]])), (4, some (9, p.2.2.map oM))]) (fun p => (p.2.2.length : Int) + p.1 ≤ 2 ∧ 0 ≤ p.1 ∧ okS p.2.1 ∧ ∀ x ∈ p.2.2, smM x) (fun p => p.1.toNat) ((nV s 3, nS s 3, [])) (fun p => by simp; rfl) (by simp) ?_ ?_)
    · have h9 := (nV_r s (m := 3) (by decide)); have h8 := h9.2.1 (by decide); exact ⟨by simp; omega, by simp only; omega, by (first | assumption | ((repeat (first | apply nS_ok | apply wordS_ok | apply ltyS_ok)) <;> assumption)), by simp⟩
    rintro ⟨j, s, ms⟩ ⟨hjc, hj0, hs, hmi⟩
    simp only at hjc hj0 hs hmi
    have w1 : (ms.length + 1) * 104 ≤ 140737488355328 := by omega
    have w2 : ms.length ≤ 1099511627775 := by omega
    have wj : IntKind.i64.wrap (j - 1) = j - 1 := wrap_i64 (by omega) (by omega)
    refine W_seq (W_rseqK [0, 6, 7, 10, 44] (jh hX (by simp [w1, w2, wj, h3, wf1, wf2, w1, w2, wj]; rfl)) ?_)
    refine jd (fun h8 => ?_) (fun h8 => ?_)
    · try simp at h8
      refine W_skip (W_seq (W_block (W_rseqL [0, 6, 7, 10, 11] ?_)))
      refine WL_go 1 ((jh hX (by simp [w1, w2, wj, h3, wf1, wf2, w1, w2, wj, h8]; rfl))) ?_
      refine WL_cE [0] rfl (by simp) rfl (by simp; rfl) (by simp; rfl) (by apply ct_spec_l01Src_l03Method <;> first | omega | assumption | decide | exact nS_ok (by assumption) _ | exact nS_ok (nS_ok (by assumption) _) _ | ((repeat apply nS_ok); assumption)) cb_spec_l01Src_l03Method (by simp) (by simp) ?_
      rintro _ _ ⟨s1, m, rfl, rfl, hs1, hm⟩
      refine WL_le' (Le.of_eq (by simp; rfl)) ?_
      obtain ⟨mn, md, mst, mab, mfi, mk, ml, mc, mh⟩ := m
      refine WL_fin ((jh hX (by simp [w1, w2, wj, h3, wf1, wf2, w1, w2, wj, h8]; rfl))) ?_
      cases hb1 : mthRight ⟨mn, md, mst, mab, mfi, mk, ml, mc, mh⟩ <;> cases ca <;> cases mab
      all_goals
        first | (refine W_rseqK [0, 6, 7, 10, 11, 63] (js hX 1 (by simp [w1, w2, wj, h3, wf1, wf2, w1, w2, wj, h8, hb1]; rfl) (jB (c:=(by apply (ct_spec_MethodRight (x := ⟨mn, md, mst, _, mfi, mk, ml, mc, mh⟩)) <;> first | (have := smM_size hm; omega))) (a:=cb_spec_MethodRight) (k:=(js hX 11 (by simp [w1, w2, wj, h3, wf1, wf2, w1, w2, wj, h8, hb1]; rfl) (jc [0] (c:=(by (try simp only [mapL_T, mapL_F, mapL_I, mapL_H, mapL_M, mapL_C]); apply ct_spec_l01Src_one <;> first | omega | assumption | decide | exact nS_ok (by assumption) _ | exact nS_ok (nS_ok (by assumption) _) _ | ((repeat apply nS_ok); assumption))) (a:=cb_spec_l01Src_one) (k:=(jh hX (by simp [w1, w2, wj, h3, wf1, wf2, w1, w2, wj, h8, hb1]; rfl)))))))) ?_) | (refine W_rseqK [0, 6, 7, 10, 11, 63] (js hX 1 (by simp [w1, w2, wj, h3, wf1, wf2, w1, w2, wj, h8, hb1]; rfl) (jB (c:=(by apply (ct_spec_MethodRight (x := ⟨mn, md, mst, _, mfi, mk, ml, mc, mh⟩)) <;> first | (have := smM_size hm; omega))) (a:=cb_spec_MethodRight) (k:=(jh hX (by simp [w1, w2, wj, h3, wf1, wf2, w1, w2, wj, h8, hb1]; rfl))))) ?_) | (refine W_rseqK [0, 6, 7, 10, 11, 63] (js hX 1 (by simp [w1, w2, wj, h3, wf1, wf2, w1, w2, wj, h8, hb1]; rfl) (jB (c:=(by apply (ct_spec_MethodRight (x := ⟨mn, md, mst, _, mfi, mk, ml, mc, mh⟩)) <;> first | (have := smM_size hm; omega))) (a:=cb_spec_MethodRight) (k:=(jh hX (by simp [w1, w2, wj, h3, wf1, wf2, w1, w2, wj, h8, hb1]; rfl))))) ?_) | (refine W_rseqK [0, 6, 7, 10, 11, 63] (js hX 1 (by simp [w1, w2, wj, h3, wf1, wf2, w1, w2, wj, h8, hb1]; rfl) (jB (c:=(by apply (ct_spec_MethodRight (x := ⟨mn, md, mst, _, mfi, mk, ml, mc, mh⟩)) <;> first | (have := smM_size hm; omega))) (a:=cb_spec_MethodRight) (k:=(js hX 11 (by simp [w1, w2, wj, h3, wf1, wf2, w1, w2, wj, h8, hb1]; rfl) (jc [0] (c:=(by (try simp only [mapL_T, mapL_F, mapL_I, mapL_H, mapL_M, mapL_C]); apply ct_spec_l01Src_one <;> first | omega | assumption | decide | exact nS_ok (by assumption) _ | exact nS_ok (nS_ok (by assumption) _) _ | ((repeat apply nS_ok); assumption))) (a:=cb_spec_l01Src_one) (k:=(jh hX (by simp [w1, w2, wj, h3, wf1, wf2, w1, w2, wj, h8, hb1]; rfl)))))))) ?_)
        refine jd (fun h11 => ?_) (fun h11 => ?_)
        · try simp at h11
          all_goals
            refine W_reg (jh hX (by simp [w1, w2, wj, h3, wf1, wf2, w1, w2, wj, h8, hb1]; rfl)) ?_
            refine W_reg (jh hX (by simp [w1, w2, wj, h3, wf1, wf2, w1, w2, wj, h8, hb1]; (try (simp (disch := omega) only [wrap_i64]; (try simp [w1, w2, wj, h3, wf1, wf2, w1, w2, wj, h8, hb1]))); rfl)) ?_
            first
              | (refine ⟨(j - 1, s1, ms ++ [⟨mn, md, mst, true, mfi, mk, ml, mc, mh⟩]), Le.trans (Le.keep [0, 6, 7, 10] _) (Le.trans (Le.absorb 4 ms.length 7 (by simp; rfl)) (Le.trans (Le.absorb 4 ms.length 8 (by simp; rfl)) (Le.trans (Le.trim 5 (by simp [hX]) _ (by simp)) (Le.of_eq ?_)))), ?_, ?_⟩; (solve | simp [wj]); exact ⟨by simp; omega, by simp only; omega, by (first | assumption | ((repeat (first | apply nS_ok | apply wordS_ok | apply ltyS_ok)) <;> assumption)), all_app hmi hm⟩; (simp only; omega))
              | (refine ⟨(j - 1, s1, ms ++ [⟨mn, md, mst, false, mfi, mk, ml, mc, mh⟩]), Le.trans (Le.keep [0, 6, 7, 10] _) (Le.trans (Le.absorb 4 ms.length 7 (by simp; rfl)) (Le.trans (Le.absorb 4 ms.length 8 (by simp; rfl)) (Le.trans (Le.trim 5 (by simp [hX]) _ (by simp)) (Le.of_eq ?_)))), ?_, ?_⟩; (solve | simp [wj]); exact ⟨by simp; omega, by simp only; omega, by (first | assumption | ((repeat (first | apply nS_ok | apply wordS_ok | apply ltyS_ok)) <;> assumption)), all_app hmi hm⟩; (simp only; omega))
              | (refine ⟨(j - 1, nS s1 30, ms ++ [⟨mn, md, mst, true, mfi, mk, ml, mc, mh⟩]), Le.trans (Le.keep [0, 6, 7, 10] _) (Le.trans (Le.absorb 4 ms.length 7 (by simp; rfl)) (Le.trans (Le.absorb 4 ms.length 8 (by simp; rfl)) (Le.trans (Le.trim 5 (by simp [hX]) _ (by simp)) (Le.of_eq ?_)))), ?_, ?_⟩; (solve | simp [wj]); exact ⟨by simp; omega, by simp only; omega, by (first | assumption | ((repeat (first | apply nS_ok | apply wordS_ok | apply ltyS_ok)) <;> assumption)), all_app hmi hm⟩; (simp only; omega))
              | (refine ⟨(j - 1, nS s1 30, ms ++ [⟨mn, md, mst, false, mfi, mk, ml, mc, mh⟩]), Le.trans (Le.keep [0, 6, 7, 10] _) (Le.trans (Le.absorb 4 ms.length 7 (by simp; rfl)) (Le.trans (Le.absorb 4 ms.length 8 (by simp; rfl)) (Le.trans (Le.trim 5 (by simp [hX]) _ (by simp)) (Le.of_eq ?_)))), ?_, ?_⟩; (solve | simp [wj]); exact ⟨by simp; omega, by simp only; omega, by (first | assumption | ((repeat (first | apply nS_ok | apply wordS_ok | apply ltyS_ok)) <;> assumption)), all_app hmi hm⟩; (simp only; omega))
              | (refine round_endT (j - 1, s1, ms) [0, 6, 7, 10] 5 (by simp [hX]) (by simp) ?_ ?_ ?_; (solve | simp [wj]); exact ⟨by simp only; omega, by simp only; omega, by (first | assumption | ((repeat (first | apply nS_ok | apply wordS_ok | apply ltyS_ok)) <;> assumption)), hmi⟩; (simp only; omega))
              | (refine round_endT (j - 1, nS s1 30, ms) [0, 6, 7, 10] 5 (by simp [hX]) (by simp) ?_ ?_ ?_; (solve | simp [wj]); exact ⟨by simp only; omega, by simp only; omega, by (first | assumption | ((repeat (first | apply nS_ok | apply wordS_ok | apply ltyS_ok)) <;> assumption)), hmi⟩; (simp only; omega))
        · try simp at h11
          all_goals
            refine W_skip (W_reg (jh hX (by simp [w1, w2, wj, h3, wf1, wf2, w1, w2, wj, h8, hb1]; (try (simp (disch := omega) only [wrap_i64]; (try simp [w1, w2, wj, h3, wf1, wf2, w1, w2, wj, h8, hb1]))); rfl)) ?_)
            first
              | (refine ⟨(j - 1, s1, ms ++ [⟨mn, md, mst, true, mfi, mk, ml, mc, mh⟩]), Le.trans (Le.keep [0, 6, 7, 10] _) (Le.trans (Le.absorb 4 ms.length 7 (by simp; rfl)) (Le.trans (Le.absorb 4 ms.length 8 (by simp; rfl)) (Le.trans (Le.trim 5 (by simp [hX]) _ (by simp)) (Le.of_eq ?_)))), ?_, ?_⟩; (solve | simp [wj]); exact ⟨by simp; omega, by simp only; omega, by (first | assumption | ((repeat (first | apply nS_ok | apply wordS_ok | apply ltyS_ok)) <;> assumption)), all_app hmi hm⟩; (simp only; omega))
              | (refine ⟨(j - 1, s1, ms ++ [⟨mn, md, mst, false, mfi, mk, ml, mc, mh⟩]), Le.trans (Le.keep [0, 6, 7, 10] _) (Le.trans (Le.absorb 4 ms.length 7 (by simp; rfl)) (Le.trans (Le.absorb 4 ms.length 8 (by simp; rfl)) (Le.trans (Le.trim 5 (by simp [hX]) _ (by simp)) (Le.of_eq ?_)))), ?_, ?_⟩; (solve | simp [wj]); exact ⟨by simp; omega, by simp only; omega, by (first | assumption | ((repeat (first | apply nS_ok | apply wordS_ok | apply ltyS_ok)) <;> assumption)), all_app hmi hm⟩; (simp only; omega))
              | (refine ⟨(j - 1, nS s1 30, ms ++ [⟨mn, md, mst, true, mfi, mk, ml, mc, mh⟩]), Le.trans (Le.keep [0, 6, 7, 10] _) (Le.trans (Le.absorb 4 ms.length 7 (by simp; rfl)) (Le.trans (Le.absorb 4 ms.length 8 (by simp; rfl)) (Le.trans (Le.trim 5 (by simp [hX]) _ (by simp)) (Le.of_eq ?_)))), ?_, ?_⟩; (solve | simp [wj]); exact ⟨by simp; omega, by simp only; omega, by (first | assumption | ((repeat (first | apply nS_ok | apply wordS_ok | apply ltyS_ok)) <;> assumption)), all_app hmi hm⟩; (simp only; omega))
              | (refine ⟨(j - 1, nS s1 30, ms ++ [⟨mn, md, mst, false, mfi, mk, ml, mc, mh⟩]), Le.trans (Le.keep [0, 6, 7, 10] _) (Le.trans (Le.absorb 4 ms.length 7 (by simp; rfl)) (Le.trans (Le.absorb 4 ms.length 8 (by simp; rfl)) (Le.trans (Le.trim 5 (by simp [hX]) _ (by simp)) (Le.of_eq ?_)))), ?_, ?_⟩; (solve | simp [wj]); exact ⟨by simp; omega, by simp only; omega, by (first | assumption | ((repeat (first | apply nS_ok | apply wordS_ok | apply ltyS_ok)) <;> assumption)), all_app hmi hm⟩; (simp only; omega))
              | (refine round_endT (j - 1, s1, ms) [0, 6, 7, 10] 5 (by simp [hX]) (by simp) ?_ ?_ ?_; (solve | simp [wj]); exact ⟨by simp only; omega, by simp only; omega, by (first | assumption | ((repeat (first | apply nS_ok | apply wordS_ok | apply ltyS_ok)) <;> assumption)), hmi⟩; (simp only; omega))
              | (refine round_endT (j - 1, nS s1 30, ms) [0, 6, 7, 10] 5 (by simp [hX]) (by simp) ?_ ?_ ?_; (solve | simp [wj]); exact ⟨by simp only; omega, by simp only; omega, by (first | assumption | ((repeat (first | apply nS_ok | apply wordS_ok | apply ltyS_ok)) <;> assumption)), hmi⟩; (simp only; omega))
    · try simp at h8
      refine W_exit (W_seq (W_rseqK [0, 6, 7, 71] (js hX 1 (by simp [w1, w2, wj, h3, wf1, wf2, w1, w2, wj, h8]; rfl) (jc [0] (c:=(by (try simp only [mapL_T, mapL_F, mapL_I, mapL_H, mapL_M, mapL_C]); apply ct_spec_l01Src_one <;> first | omega | assumption | decide | exact nS_ok (by assumption) _ | exact nS_ok (nS_ok (by assumption) _) _ | ((repeat apply nS_ok); assumption))) (a:=cb_spec_l01Src_one) (k:=jf))) ?_))
      refine W_cutT (α := Src × Cls) [6, 7] (fun p => []) (fun p => [(0, oSrc p.1), (2, some (6, [.agg [.str p.2.name, .str p.2.super, .bool p.2.final, .bool p.2.abstr, .arr 3 0 p.2.fields.length, .arr 4 0 p.2.methods.length]])), (3, some (3, p.2.fields.map eF)), (4, some (9, p.2.methods.map oM))]) (fun p => okS p.1 ∧ smC p.2) (fun p => by simp; rfl) ?_ ?_
      · skip
        refine jd (fun h13 => ?_) (fun h13 => ?_)
        · try simp at h13
          refine W_rseqK [0, 6, 7, 73] (js hX 1 (by simp [w1, w2, wj, h3, wf1, wf2, w1, w2, wj, h8]; rfl) (jc [0] (c:=(by (try simp only [mapL_T, mapL_F, mapL_I, mapL_H, mapL_M, mapL_C]); apply ct_spec_l01Src_n <;> first | omega | assumption | decide | exact nS_ok (by assumption) _ | exact nS_ok (nS_ok (by assumption) _) _ | ((repeat apply nS_ok); assumption))) (a:=cb_spec_l01Src_n) (k:=jf))) ?_
          refine W_block (W_rseqK [0, 6, 7, 73, 77] (jh hX (by simp [w1, w2, wj, h3, wf1, wf2, w1, w2, wj, h8]; rfl)) ?_)
          refine jd (fun h16 => ?_) (fun h16 => ?_)
          · try simp at h16
            refine W_reg (js hX 1 (by simp [w1, w2, wj, h3, wf1, wf2, w1, w2, wj, h8]; rfl) (jc [0] (c:=(by (try simp only [mapL_T, mapL_F, mapL_I, mapL_H, mapL_M, mapL_C]); apply ct_spec_l01Src_word <;> first | omega | assumption | decide | exact nS_ok (by assumption) _ | exact nS_ok (nS_ok (by assumption) _) _ | ((repeat apply nS_ok); assumption))) (a:=cb_spec_l01Src_word) (k:=(jh hX (by simp [w1, w2, wj, h3, wf1, wf2, w1, w2, wj, h8]; rfl))))) ?_
            refine cut_endT ((⟨_, _, _, _⟩, ⟨_, _, _, _, fs, ms⟩)) [6, 7] 5 (by simp [hX]) (by simp) (Eq.trans (by simp; rfl) (by rfl)) ?_
            exact ⟨by (first | assumption | ((repeat (first | apply nS_ok | apply wordS_ok | apply ltyS_ok)) <;> assumption)), ⟨by first | exact hn | exact Nat.le_trans (word_le _) (by decide), by first | exact hu | exact hn, by simp only; omega, by simp only; omega, hfi, hmi⟩⟩
          · try simp at h16
            refine W_rseqK [0, 6, 7, 73, 82] (jh hX (by simp [w1, w2, wj, h3, wf1, wf2, w1, w2, wj, h8]; rfl)) ?_
            refine jd (fun h18 => ?_) (fun h18 => ?_)
            · try simp at h18
              refine W_reg (jh hX (by simp [w1, w2, wj, h3, wf1, wf2, w1, w2, wj, h8]; rfl)) ?_
              refine cut_endT ((⟨_, _, _, _⟩, ⟨_, _, _, _, fs, ms⟩)) [6, 7] 5 (by simp [hX]) (by simp) (Eq.trans (by simp; rfl) (by rfl)) ?_
              exact ⟨by (first | assumption | ((repeat (first | apply nS_ok | apply wordS_ok | apply ltyS_ok)) <;> assumption)), ⟨by first | exact hn | exact Nat.le_trans (word_le _) (by decide), by first | exact hu | exact hn, by simp only; omega, by simp only; omega, hfi, hmi⟩⟩
            · try simp at h18
              refine W_rseqK [0, 6, 7, 85] (jh hX (by simp [w1, w2, wj, h3, wf1, wf2, w1, w2, wj, h8]; rfl)) ?_
              refine jd (fun h20 => ?_) (fun h20 => ?_)
              · try simp at h20
                refine W_held (n := 6) (A := [0, 1, 2]) (B := [3, 4, 5]) (L := [2]) hmo (by kernel_rfl) tok hX (by simp [w1, w2, wj, h3, wf1, wf2, w1, w2, wj, h8]; rfl) (jH (p:=fun X hX => (jc [0] (c:=(by (try simp only [mapL_T, mapL_F, mapL_I, mapL_H, mapL_M, mapL_C]); apply ct_spec_l01Src_l02Type <;> first | omega | assumption | decide | exact nS_ok (by assumption) _ | exact nS_ok (nS_ok (by assumption) _) _ | ((repeat apply nS_ok); assumption))) (a:=cb_spec_l01Src_l02Type) (k:=jf))) (k:=(jH (p:=fun X hX => (jh hX (by simp [w1, w2, wj, h3, wf1, wf2, w1, w2, wj, h8]; rfl))) (k:=(jH (p:=fun X hX => (jh hX (by simp [w1, w2, wj, h3, wf1, wf2, w1, w2, wj, h8]; rfl))) (k:=.nil)))))) (jh hX (by simp [w1, w2, wj, h3, wf1, wf2, w1, w2, wj, h8]; rfl)) ?_
                refine cut_endT ((ltyS (nS (nS s 15) 4), ⟨n, u, false, ca, fs ++ [⟨[120], ltyV (nS (nS s 15) 4), false⟩], ms⟩)) [6, 7] 5 (by simp [hX]) (by simp) (by simp) ?_
                exact ⟨by (first | assumption | ((repeat (first | apply nS_ok | apply wordS_ok | apply ltyS_ok)) <;> assumption)), ⟨hn, hu, by rw [List.length_append]; simp; omega, by simp only; omega, all_app hfi ⟨by simp, Nat.le_trans (lty_le _) (by decide)⟩, hmi⟩⟩
              · try simp at h20
                refine W_reg (jh hX (by simp [w1, w2, wj, h3, wf1, wf2, w1, w2, wj, h8]; rfl)) ?_
                refine cut_endT ((⟨_, _, _, _⟩, ⟨_, _, _, _, fs, ms⟩)) [6, 7] 5 (by simp [hX]) (by simp) (Eq.trans (by simp; rfl) (by rfl)) ?_
                exact ⟨by (first | assumption | ((repeat (first | apply nS_ok | apply wordS_ok | apply ltyS_ok)) <;> assumption)), ⟨by first | exact hn | exact Nat.le_trans (word_le _) (by decide), by first | exact hu | exact hn, by simp only; omega, by simp only; omega, hfi, hmi⟩⟩
        · try simp at h13
          refine W_skip (cut_endT ((⟨_, _, _, _⟩, ⟨_, _, _, _, fs, ms⟩)) [6, 7] 5 (by simp [hX]) (by simp) (Eq.trans (by simp; rfl) (by rfl)) ?_)
          exact ⟨by (first | assumption | ((repeat (first | apply nS_ok | apply wordS_ok | apply ltyS_ok)) <;> assumption)), ⟨by first | exact hn | exact Nat.le_trans (word_le _) (by decide), by first | exact hu | exact hn, by simp only; omega, by simp only; omega, hfi, hmi⟩⟩
      · rintro ⟨s, ⟨cn, cu, cf, ca, fs, ms⟩⟩ ⟨hs, hc⟩
        simp only at hs hc
        refine W_rseqK [6] (jh hX (by simp [w1, w2, wj, h3, wf1, wf2, w1, w2, wj, h8]; rfl)) ?_
        refine W_ret (DoneE.ret (Eq.trans (by simp [w1, w2, wj, h3, wf1, wf2, w1, w2, wj, h8]; rfl) (by rfl)) ?_)
        exact ⟨s, ⟨cn, cu, cf, ca, fs, ms⟩, rfl, rfl, hs, hc⟩
end Go.Proofs
namespace Go.Proofs
open Go Go.Ev


theorem cb_spec_l01Dec : Callable Tryz.prog 85 := ⟨_, Tryz.func85, by kernel_rfl, by kernel_rfl⟩
theorem ct_spec_l01Dec {n : Int} (h0 : 0 ≤ n) (h1 : n ≤ 30) : CtE Tryz.prog 85 [.int .i64 n] [] (fun r ob' => ∃ t : Str, r = .str t ∧ ob' = [] ∧ t.length ≤ 31) := by
  refine Ct_bodyE tok Tryz.func85 rfl 31 (by kernel_rfl) (by kernel_rfl) fun X hX => ?_
  refine jq [0] ?_
  refine W_seq (jq [0, 7] ?_)
  refine jd (fun h1 => ?_) (fun h1 => ?_)
  · try simp at h1
    refine jq [2] ?_
    refine W_ret (DoneE.ret (Eq.trans (by simp; rfl) (by rfl)) ?_)
    exact ⟨_, rfl, rfl, by decide⟩
  · try simp at h1
    refine W_skip (jq [0, 3] ?_)
    refine jq [0, 3, 4] ?_
    refine W_seq (W_block (W_loopU (α := Int × Str) [0, 3, 4] (fun p => [(0, .int .i64 p.1), (4, .str p.2)]) (fun p => []) (fun p => 0 ≤ p.1 ∧ (p.2.length : Int) + p.1 ≤ 30) (fun p => p.1.toNat) ((n, [])) (fun p => by simp; rfl) (by simp) ?_ ?_))
    · exact ⟨h0, by simp; omega⟩
    rintro ⟨j, o⟩ ⟨hj, hl⟩
    simp only at hj hl
    have hd0 : 0 ≤ j.tmod 10 := Int.tmod_nonneg _ hj
    have hd1 : j.tmod 10 < 10 := Int.tmod_lt_of_pos _ (by decide)
    have hq : j.tdiv 10 = j / 10 := Int.tdiv_eq_ediv_of_nonneg hj
    have wq : IntKind.i64.wrap (j.tdiv 10) = j / 10 := by rw [hq]; exact wrap_i64 (by omega) (by omega)
    have wl : 1 + o.length < 9223372036854775807 := by omega
    refine W_seq (W_rseqK [0, 3, 4, 11] (jh hX (by simp [wq, wl]; rfl)) ?_)
    refine jd (fun h5 => ?_) (fun h5 => ?_)
    · try simp at h5
      refine W_skip (W_block (W_rseqK [0, 3, 4, 5] (jh hX (by simp [wq, wl]; rfl)) ?_))
      refine W_seq (W_rseqK [0, 3, 4, 5, 15] (jh hX (by simp [wq, wl]; rfl)) ?_)
      refine jd (fun h7 => ?_) (fun h7 => ?_)
      · try simp at h7
        omega --done
      · try simp at h7
        refine W_skip (W_rseqK [0, 3, 4] (jh hX (by simp [wq, wl, h7]; (try (simp (disch := omega) only [wrap_i64]; (try simp [wq, wl, h7]))); rfl)) ?_)
        refine W_reg (jh hX (by simp [wq, wl, h7]; rfl)) ?_
        refine round_endT ((j / 10, _ :: o)) [0, 3, 4] 0 (by simp [hX]) (by simp) (Eq.trans (by simp [wq, wl]; rfl) (by rfl)) ?_ ?_
        · exact ⟨by simp only; omega, by simp only [List.length_cons]; omega⟩
        · simp only; omega
    · try simp at h5
      refine W_exit (W_seq (W_rseqK [4, 27] (jh hX (by simp [wq, wl]; rfl)) ?_))
      refine jd (fun h11 => ?_) (fun h11 => ?_)
      · try simp at h11
        exfalso; omega --done
      · try simp at h11
        refine W_skip (W_rseqK [2] (jh hX (by simp [wq, wl, h11]; rfl)) ?_)
        refine W_ret (DoneE.ret (Eq.trans (by simp [wq, wl, h11]; rfl) (by rfl)) ?_)
        exact ⟨_, rfl, rfl, by omega⟩
end Go.Proofs
