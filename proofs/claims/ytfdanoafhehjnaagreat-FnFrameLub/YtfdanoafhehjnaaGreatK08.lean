/- Part 9 of what the proofs lean on: what the functions of the program and of the reference compute. Conditions: none. -/
import Derived.Test.YtfdanoafhehjnaaGreatK07
set_option linter.all false
set_option linter.unusedVariables false
set_option linter.unusedSimpArgs false
set_option maxHeartbeats 2000000
set_option maxRecDepth 100000
namespace Go.Proofs
open Go Go.Ev

attribute [local irreducible] nS nV wordS wordV ltyS ltyV pickV l06T
theorem cb_spec_l01Src_l05World : Callable Tryz.prog 37 := ⟨_, Tryz.func37, by kernel_rfl, by kernel_rfl⟩
theorem ct_spec_l01Src_l05World {s : Src} (hs : okS s) : CtE Tryz.prog 37 [.ptr 0 0 0] [oSrc s] (fun r ob' => ∃ (s' : Src) (l : List Cls), r = .lst true 6 (l.map oC) ∧ ob' = [oSrc s'] ∧ okS s' ∧ l.length ≤ 12 ∧ ∀ x ∈ l, sizeC x ≤ 100000) := by
  refine Ct_bodyE tok Tryz.func37 rfl 108 (by kernel_rfl) (by kernel_rfl) fun X hX => ?_
  refine jq [0] ?_
  refine jq [0, 3] ?_
  refine jq [0, 3, 4] ?_
  refine W_rseqK [0, 3, 4, 5] (jt 1 (k:=(jc [0] (c:=(by (try simp only [mapL_T, mapL_F, mapL_I, mapL_H, mapL_M, mapL_C]); apply ct_spec_l01Src_n <;> first | omega | assumption | decide | exact nS_ok (by assumption) _ | exact nS_ok (nS_ok (by assumption) _) _ | ((repeat apply nS_ok); assumption))) (a:=cb_spec_l01Src_n) (k:=(jh hX (by simp; (try (simp (disch := omega) only [wrap_i64]; (try simp))); rfl)))))) ?_
  have h9 := nV_r s (m := 3) (by decide)
  have h8 := h9.2.1 (by decide)
  obtain ⟨N, hN⟩ : ∃ N : Nat, (N : Int) = IntKind.i64.wrap (1 + nV s 3) := ⟨(1 + nV s 3).toNat, by rw [wrap_i64 (by omega) (by omega)]; omega⟩
  have hN2 : 1 ≤ N ∧ N ≤ 3 := by rw [wrap_i64 (by omega) (by omega)] at hN; omega
  rw [← hN]
  refine W_seq (jq [0, 3, 4, 5, 6] ?_)
  refine W_block (W_loopU (α := Nat × Src × List Cls) [0, 3, 4, 5, 6] (fun p => [(3, .arr 1 0 p.2.2.length), (6, .int .i64 p.1)]) (fun p => [(0, oSrc p.2.1), (1, some (6, p.2.2.map oC))]) (fun p => p.1 ≤ N ∧ p.2.2.length = p.1 ∧ okS p.2.1 ∧ ∀ x ∈ p.2.2, sizeC x ≤ 90000) (fun p => N - p.1) ((0, nS s 3, [])) (fun p => by simp; rfl) (by simp) ?_ ?_)
  · exact ⟨by simp only; omega, rfl, by (first | assumption | ((repeat (first | apply nS_ok | apply wordS_ok | apply ltyS_ok)) <;> assumption)), by simp⟩
  rintro ⟨i, s, cs⟩ ⟨hi, hcl, hs, hci⟩
  simp only at hi hcl hs hci
  subst hcl
  have w1 : (cs.length + 1) * 88 ≤ 140737488355328 := by omega
  have w2 : cs.length ≤ 1099511627775 := by omega
  obtain ⟨i, hil⟩ : ∃ i, i = cs.length := ⟨_, rfl⟩
  rw [← hil] at hi w1 w2 ⊢
  have wi : IntKind.i64.wrap ((i : Int) + 1) = i + 1 := wrap_i64 (by omega) (by omega)
  have hi4 : i < 4 := by omega
  have hile : i ≤ cs.length := by omega
  have hT : (cs.map oC).take i = cs.map oC := by rw [hil]; simp
  have hEi := sat4 hi4
  have hEib := sat4' hi4
  refine W_seq (W_rseqK [0, 3, 4, 5, 6, 16] (jh hX (by simp [w1, w2, wi, hi4, hEi, hEib, hile, hT]; rfl)) ?_)
  refine jd (fun h5 => ?_) (fun h5 => ?_)
  · try simp at h5
    refine W_skip (W_seq (W_block (W_rseqK [0, 3, 4, 5, 6, 7] (js hX 2 (by simp [w1, w2, wi, hi4, hEi, hEib, hile, hT, h5]; rfl) (jc [0, 3] (c:=(by (try simp only [mapL_T, mapL_F, mapL_I, mapL_H, mapL_M, mapL_C]); apply (ct_spec_l01Src_pick (l := [[79, 98, 106, 101, 99, 116], [69, 114, 114, 111, 114]])) <;> first | omega | assumption | decide | exact nS_ok (by assumption) _ | exact nS_ok (nS_ok (by assumption) _) _ | ((repeat apply nS_ok); assumption))) (a:=cb_spec_l01Src_pick) (k:=(jh hX (by simp [w1, w2, wi, hi4, hEi, hEib, hile, hT, h5]; rfl))))) ?_)))
    refine W_seq ?_
    by_cases hb : 0 < i
    all_goals
      first | (refine W_rseqK [0, 3, 4, 5, 6, 7, 27] (js hX 4 (by simp [w1, w2, wi, hi4, hEi, hEib, hile, hT, h5, hb]; rfl) (jc [0] (c:=(by (try simp only [mapL_T, mapL_F, mapL_I, mapL_H, mapL_M, mapL_C]); apply ct_spec_l01Src_one <;> first | omega | assumption | decide | exact nS_ok (by assumption) _ | exact nS_ok (nS_ok (by assumption) _) _ | ((repeat apply nS_ok); assumption))) (a:=cb_spec_l01Src_one) (k:=(jh hX (by simp [w1, w2, wi, hi4, hEi, hEib, hile, hT, h5, hb]; rfl))))) ?_) | (refine W_rseqK [0, 3, 4, 5, 6, 7, 27] (jh hX (by simp [w1, w2, wi, hi4, hEi, hEib, hile, hT, h5, hb]; rfl)) ?_)
      refine W_cutT (α := Src × Str) [0, 3, 4, 5, 6, 7] (fun p => [(7, .str p.2)]) (fun p => [(0, oSrc p.1)]) (fun p => okS p.1 ∧ p.2.length ≤ 40) (fun p => by simp; rfl) ?_ ?_
      · skip
        refine jd (fun h8 => ?_) (fun h8 => ?_)
        · try simp at h8
          all_goals
            have hA := nV_r (nS (nS s 2) 2) (m := (i : Int)) (by omega)
            have hk : (nV (nS (nS s 2) 2) (i : Int)).toNat < 4 := by have := hA.2.1; have := hA.2.2; by_cases h1 : (1 : Int) < i <;> omega
            have hA0 := hA.1
            have hE := sat4 hk
            have hEb := sat4' hk
            refine W_reg (js hX 3 (by simp [w1, w2, wi, hi4, hEi, hEib, hile, hT, h5, hb, h8, hk, hA0, hE, hEb]; rfl) (jc [0] (c:=(by (try simp only [mapL_T, mapL_F, mapL_I, mapL_H, mapL_M, mapL_C]); apply ct_spec_l01Src_n <;> first | omega | assumption | decide | exact nS_ok (by assumption) _ | exact nS_ok (nS_ok (by assumption) _) _ | ((repeat apply nS_ok); assumption))) (a:=cb_spec_l01Src_n) (k:=(jh hX (by simp [w1, w2, wi, hi4, hEi, hEib, hile, hT, h5, hb, h8, hk, hA0, hE, hEb]; rfl))))) ?_
            refine cut_endT ((⟨_, _, _, _⟩, _)) [0, 3, 4, 5, 6, 7] 4 (by simp [hX]) (by simp) (Eq.trans (by simp [w1, w2, wi, hi4, hEi, hEib, hile, hT, h5, hb, h8, hk, hA0, hE, hEb]; rfl) (by rfl)) ?_
            exact ⟨by (first | assumption | ((repeat (first | apply nS_ok | apply wordS_ok | apply ltyS_ok)) <;> assumption)), by first | exact pick_le _ (by decide) (by decide) (by decide) | exact nam_le' hk _⟩
        · try simp at h8
          all_goals
            refine W_skip (cut_endT ((⟨_, _, _, _⟩, _)) [0, 3, 4, 5, 6, 7] 4 (by simp [hX]) (by simp) (Eq.trans (by simp [w1, w2, wi, hi4, hEi, hEib, hile, hT, h5, hb, h8]; rfl) (by rfl)) ?_)
            exact ⟨by (first | assumption | ((repeat (first | apply nS_ok | apply wordS_ok | apply ltyS_ok)) <;> assumption)), by first | exact pick_le _ (by decide) (by decide) (by decide) | exact nam_le' hk _⟩
      · rintro ⟨s, q⟩ ⟨hs, hq⟩
        simp only at hs hq
        refine W_regE ?_
        refine WL_go 7 ((jh hX (by simp [w1, w2, wi, hi4, hEi, hEib, hile, hT, h5, hb]; rfl))) ?_
        refine WL_cE [0] rfl (by simp) rfl (by simp; rfl) (by simp; rfl) (by apply ct_spec_l01Src_l03Class <;> first | omega | assumption | decide | exact nam_le' (by omega) _ | ((repeat apply nS_ok); assumption)) cb_spec_l01Src_l03Class (by simp) (by simp) ?_
        rintro _ _ ⟨s1, c, rfl, rfl, hs1, hc⟩
        refine WL_le' (Le.of_eq (by simp; rfl)) ?_
        obtain ⟨cn, cu, cf, ca, fs, ms⟩ := c
        simp only
        refine WL_fin ((jh hX (by simp [w1, w2, wi, hi4, hEi, hEib, hile, hT, h5, hb]; rfl))) ?_
        refine W_reg (jh hX (by simp [w1, w2, wi, hi4, hEi, hEib, hile, hT, h5, hb]; (try (simp (disch := omega) only [wrap_i64]; (try simp [w1, w2, wi, hi4, hEi, hEib, hile, hT, h5, hb]))); rfl)) ?_
        subst hil
        refine ⟨(cs.length + 1, s1, cs ++ [⟨cn, cu, cf, ca, fs, ms⟩]), Le.trans (Le.keep [0, 3, 4, 5, 6] _) (Le.trans (Le.absorb 1 cs.length 4 (by simp; rfl)) (Le.trans (Le.absorb 1 cs.length 5 (by simp; rfl)) (Le.trans (Le.trim 3 (by simp [hX]) _ (by simp)) (Le.of_eq ?_)))), ?_, ?_⟩
        · simp
        · exact ⟨by simp only; omega, by simp, hs1, all_app hci (smC_size hc)⟩
        · simp only; omega
  · try simp at h5
    have hiN : i = N := by omega
    refine W_exit (W_seq (W_rseqK [0, 3, 4, 5, 45] (js hX 1 (by simp [w1, w2, wi, hi4, hEi, hEib, hile, hT, h5]; rfl) (jc [0] (c:=(by (try simp only [mapL_T, mapL_F, mapL_I, mapL_H, mapL_M, mapL_C]); apply ct_spec_l01Src_one <;> first | omega | assumption | decide | exact nS_ok (by assumption) _ | exact nS_ok (nS_ok (by assumption) _) _ | ((repeat apply nS_ok); assumption))) (a:=cb_spec_l01Src_one) (k:=jf))) ?_))
    subst hil
    refine W_cutT (α := Src × List Cls) [3] (fun p => [(3, .arr 1 0 p.2.length)]) (fun p => [(0, oSrc p.1), (1, some (6, p.2.map oC))]) (fun p => okS p.1 ∧ p.2.length ≤ 12 ∧ ∀ x ∈ p.2, sizeC x ≤ 100000) (fun p => by simp; rfl) ?_ ?_
    · skip
      refine jd (fun h11 => ?_) (fun h11 => ?_)
      · try simp at h11
        refine W_rseqK [0, 3, 4, 5, 8] (js hX 2 (by simp [w1, w2, wi, hi4, hEi, hEib, hile, hT, h5]; rfl) (jc [0] (c:=(by (try simp only [mapL_T, mapL_F, mapL_I, mapL_H, mapL_M, mapL_C]); apply ct_spec_l01Src_n <;> first | omega | assumption | decide | exact nS_ok (by assumption) _ | exact nS_ok (nS_ok (by assumption) _) _ | ((repeat apply nS_ok); assumption))) (a:=cb_spec_l01Src_n) (k:=(jh hX (by simp [w1, w2, wi, hi4, hEi, hEib, hile, hT, h5]; rfl))))) ?_
        have hA := nV_r (nS s 12) (m := (N : Int)) (by omega)
        obtain ⟨k, hk⟩ : ∃ k : Nat, nV (nS s 12) N = k := ⟨(nV (nS s 12) N).toNat, by omega⟩
        have hkl : k < cs.length := by have := hA.2.1; have := hA.2.2; by_cases h1 : (1 : Int) < N <;> omega
        rw [hk]
        have hci2 : ∀ x ∈ cs, sizeC x ≤ 100000 := fun x hx => Nat.le_trans (hci x hx) (by decide)
        obtain ⟨Y, Z, hS, hS2, hYl, hYZ, hYj, hZj⟩ := cls_YZ hkl
        have m1 := fun x => midG hYl x Z
        have m2 := fun x y => midS hYl x y Z
        have m3 := fun p x => mid_jk (p := p) (x := x) (Y := Y) (Z := Z) (hYj p) (hZj p)
        have hz := hci _ (List.getElem_mem hkl)
        simp only [sizeC] at hz
        refine W_rseqK [0, 3, 4, 5, 8, 50] (js hX 1 (by simp [w1, w2, wi, hi4, hEi, hEib, hile, hT, h5]; rfl) (jc [0] (c:=(by (try simp only [mapL_T, mapL_F, mapL_I, mapL_H, mapL_M, mapL_C]); apply ct_spec_l01Src_n <;> first | omega | assumption | decide | exact nS_ok (by assumption) _ | exact nS_ok (nS_ok (by assumption) _) _ | ((repeat apply nS_ok); assumption))) (a:=cb_spec_l01Src_n) (k:=jf))) ?_
        refine W_block (W_rseqK [0, 3, 4, 5, 8, 50, 65] (jh hX (by simp [w1, w2, wi, hi4, hEi, hEib, hile, hT, h5]; rfl)) ?_)
        refine jd (fun h16 => ?_) (fun h16 => ?_)
        · try simp at h16
          have wf1 : (cs[k].fields.length + 1) * 40 ≤ 140737488355328 := by omega
          have wf2 : cs[k].fields.length ≤ 1099511627775 := by omega
          rw [hS]
          refine W_le (Le.expose 1 k 4 (by simp [St.expose, m1, m2, hYl]; rfl)) ?_
          refine W_reg (jh hX (by simp [w1, w2, wi, hi4, hEi, hEib, hile, hT, h5, hkl, m1, m2, hYl, hYZ, wf1, wf2, hYj, hZj]; rfl)) ?_
          refine ⟨(nS (nS (nS s 12) N) 5, cs.set k { cs[k] with fields := cs[k].fields ++ [⟨[113], [76, 90, 59], false⟩] }), Le.trans (Le.keep [3] _) (Le.trans (Le.absorb 1 k 4 (by simp [m1, m2, hYl]; rfl)) (Le.trans (Le.trim 3 (by simp [hX]) _ (by simp)) (Le.of_eq ?_))), ?_⟩
          · simp [hS2, m1, m2, m3, hYl, List.length_set]
          exact ⟨by (first | assumption | ((repeat (first | apply nS_ok | apply wordS_ok | apply ltyS_ok)) <;> assumption)), by simp only [List.length_set]; omega, set_all hci2 (by simp [sizeC, sizeF]; omega)⟩
        · try simp at h16
          refine W_rseqK [0, 3, 4, 5, 8, 50, 79] (jh hX (by simp [w1, w2, wi, hi4, hEi, hEib, hile, hT, h5]; rfl)) ?_
          refine jd (fun h18 => ?_) (fun h18 => ?_)
          · try simp at h18
            rw [hS]
            refine W_reg (js hX 4 (by simp [w1, w2, wi, hi4, hEi, hEib, hile, hT, h5, hkl, m1, m2, hYl, hYZ]; rfl) (jc [0, 3] (c:=(by (try simp only [mapL_T, mapL_F, mapL_I, mapL_H, mapL_M, mapL_C]); apply (ct_spec_l01Src_pick (l := [[65], [79, 98, 106, 101, 99, 116], [69, 114, 114, 111, 114]])) <;> first | omega | assumption | decide | exact nS_ok (by assumption) _ | exact nS_ok (nS_ok (by assumption) _) _ | ((repeat apply nS_ok); assumption))) (a:=cb_spec_l01Src_pick) (k:=(jh hX (by simp [w1, w2, wi, hi4, hEi, hEib, hile, hT, h5, hkl, m1, m2, hYl, hYZ]; rfl))))) ?_
            refine ⟨(nS (nS (nS (nS s 12) N) 5) 3, cs.set k { cs[k] with name := pickV [[65], [79, 98, 106, 101, 99, 116], [69, 114, 114, 111, 114]] (nS (nS (nS s 12) N) 5) }), Le.trans (Le.keep [3] _) ((Le.trans (Le.trim 3 (by simp [hX]) _ (by simp)) (Le.of_eq ?_))), ?_⟩
            · simp [hS2, m1, m2, m3, hYl, List.length_set]
            exact ⟨by (first | assumption | ((repeat (first | apply nS_ok | apply wordS_ok | apply ltyS_ok)) <;> assumption)), by simp only [List.length_set]; omega, set_all hci2 (by have h9 := pick_le (l := [[65], [79, 98, 106, 101, 99, 116], [69, 114, 114, 111, 114]]) (nS (nS (nS s 12) N) 5) (n := 9) (by decide) (by decide) (by decide); simp only [sizeC] at *; omega)⟩
          · try simp at h18
            refine W_rseqK [0, 3, 4, 5, 8, 50, 88] (jh hX (by simp [w1, w2, wi, hi4, hEi, hEib, hile, hT, h5]; rfl)) ?_
            refine jd (fun h20 => ?_) (fun h20 => ?_)
            · try simp at h20
              rw [hS]
              refine W_reg (js hX 4 (by simp [w1, w2, wi, hi4, hEi, hEib, hile, hT, h5, hkl, m1, m2, hYl, hYZ]; rfl) (jc [0, 3] (c:=(by (try simp only [mapL_T, mapL_F, mapL_I, mapL_H, mapL_M, mapL_C]); apply (ct_spec_l01Src_pick (l := [[77, 97, 116, 104, 69, 114, 114, 111, 114], [90], [67], [66]])) <;> first | omega | assumption | decide | exact nS_ok (by assumption) _ | exact nS_ok (nS_ok (by assumption) _) _ | ((repeat apply nS_ok); assumption))) (a:=cb_spec_l01Src_pick) (k:=(jh hX (by simp [w1, w2, wi, hi4, hEi, hEib, hile, hT, h5, hkl, m1, m2, hYl, hYZ]; rfl))))) ?_
              refine ⟨(nS (nS (nS (nS s 12) N) 5) 4, cs.set k { cs[k] with super := pickV [[77, 97, 116, 104, 69, 114, 114, 111, 114], [90], [67], [66]] (nS (nS (nS s 12) N) 5) }), Le.trans (Le.keep [3] _) ((Le.trans (Le.trim 3 (by simp [hX]) _ (by simp)) (Le.of_eq ?_))), ?_⟩
              · simp [hS2, m1, m2, m3, hYl, List.length_set]
              exact ⟨by (first | assumption | ((repeat (first | apply nS_ok | apply wordS_ok | apply ltyS_ok)) <;> assumption)), by simp only [List.length_set]; omega, set_all hci2 (by have h9 := pick_le (l := [[77, 97, 116, 104, 69, 114, 114, 111, 114], [90], [67], [66]]) (nS (nS (nS s 12) N) 5) (n := 9) (by decide) (by decide) (by decide); simp only [sizeC] at *; omega)⟩
            · try simp at h20
              refine W_rseqK [0, 3, 4, 5, 97] (jh hX (by simp [w1, w2, wi, hi4, hEi, hEib, hile, hT, h5]; rfl)) ?_
              refine jd (fun h22 => ?_) (fun h22 => ?_)
              · try simp at h22
                have h0l : 0 < cs.length := by omega
                have hN4 : N - 1 < 4 := by omega
                have wN : IntKind.i64.wrap ((N : Int) - 1) = ((N - 1 : Nat) : Int) := by rw [wrap_i64 (by omega) (by omega)]; omega
                have hEn := sat4 hN4
                have hEnb := sat4' hN4
                obtain ⟨Y, Z, hS, hS2, hYl, hYZ, hYj, hZj⟩ := cls_YZ h0l
                have m1 := fun x => midG hYl x Z
                have m2 := fun x y => midS hYl x y Z
                have m3 := fun p x => mid_jk (p := p) (x := x) (Y := Y) (Z := Z) (hYj p) (hZj p)
                have hz := hci _ (List.getElem_mem h0l)
                simp only [sizeC] at hz
                rw [hS]
                refine W_reg (jh hX (by simp [w1, w2, wi, hi4, hEi, hEib, hile, hT, h5, h0l, hN4, wN, hEn, hEnb, m1, m2, hYl, hYZ]; (try (simp (disch := omega) only [wrap_i64]; (try simp [w1, w2, wi, hi4, hEi, hEib, hile, hT, h5, h0l, hN4, wN, hEn, hEnb, m1, m2, hYl, hYZ]))); rfl)) ?_
                refine ⟨(nS (nS (nS s 12) N) 5, cs.set 0 { cs[0] with super := atL [[65], [66], [67], [68]] (N - 1) }), Le.trans (Le.keep [3] _) ((Le.trans (Le.trim 3 (by simp [hX]) _ (by simp)) (Le.of_eq ?_))), ?_⟩
                · simp [hS2, hN4, m1, m2, m3, hYl, List.length_set]
                exact ⟨by (first | assumption | ((repeat (first | apply nS_ok | apply wordS_ok | apply ltyS_ok)) <;> assumption)), by simp only [List.length_set]; omega, set_all hci2 (by have h9 := nam_le hN4; simp only [sizeC] at *; omega)⟩
              · try simp at h22
                refine W_block (W_loopU (α := Src × List Cls) [0, 3] (fun p => [(3, .arr 1 0 p.2.length)]) (fun p => [(0, oSrc p.1), (1, some (6, p.2.map oC))]) (fun p => okS p.1 ∧ p.2.length ≤ 12 ∧ ∀ x ∈ p.2, sizeC x ≤ 100000) (fun p => 12 - p.2.length) ((nS (nS (nS s 12) N) 5, cs)) (fun p => by simp; rfl) (by simp) ?_ ?_)
                · exact ⟨by (first | assumption | ((repeat (first | apply nS_ok | apply wordS_ok | apply ltyS_ok)) <;> assumption)), by simp only; omega, hci2⟩
                rintro ⟨s, cs⟩ ⟨hs, hcl, hci⟩
                simp only at hs hcl hci
                have h9 := nV_r s (m := 2) (by decide)
                have h8 := h9.2.1 (by decide)
                have w3 : IntKind.i64.wrap (10 + nV s 2) = 10 + nV s 2 := wrap_i64 (by omega) (by omega)
                have w1 : (cs.length + 1) * 88 ≤ 140737488355328 := by omega
                have w2 : cs.length ≤ 1099511627775 := by omega
                refine W_seq (W_rseqK [0, 3, 56] (js hX 3 (by simp [w1, w2, wi, hi4, hEi, hEib, hile, hT, h5, w1, w2, w3]; rfl) (jc [0] (c:=(by (try simp only [mapL_T, mapL_F, mapL_I, mapL_H, mapL_M, mapL_C]); apply ct_spec_l01Src_n <;> first | omega | assumption | decide | exact nS_ok (by assumption) _ | exact nS_ok (nS_ok (by assumption) _) _ | ((repeat apply nS_ok); assumption))) (a:=cb_spec_l01Src_n) (k:=(jh hX (by simp [w1, w2, wi, hi4, hEi, hEib, hile, hT, h5, w1, w2, w3]; (try (simp (disch := omega) only [wrap_i64]; (try simp [w1, w2, wi, hi4, hEi, hEib, hile, hT, h5, w1, w2, w3]))); rfl))))) ?_)
                refine jd (fun h14 => ?_) (fun h14 => ?_)
                · try simp at h14
                  refine W_skip (W_block (W_regE ?_))
                  refine WL_go 3 ((jh hX (by simp [w1, w2, wi, hi4, hEi, hEib, hile, hT, h5, w1, w2, w3, h14]; rfl))) ?_
                  refine WL_cE [] rfl (by simp) rfl (by simp; rfl) (by simp; rfl) (by apply ct_spec_l01Dec <;> first | omega | assumption) cb_spec_l01Dec (by simp) (by simp) ?_
                  rintro _ _ ⟨t, rfl, rfl, ht⟩
                  refine WL_le' (Le.of_eq (by simp; rfl)) ?_
                  have wt : 1 + t.length < 9223372036854775807 := by omega
                  have wt2 : t.length + 1 < 9223372036854775807 := by omega
                  refine WL_fin ((jh hX (by simp [w1, w2, wi, hi4, hEi, hEib, hile, hT, h5, w1, w2, w3, h14, wt, wt2]; (try (simp (disch := omega) only [wrap_i64]; (try simp [w1, w2, wi, hi4, hEi, hEib, hile, hT, h5, w1, w2, w3, h14, wt, wt2]))); rfl))) ?_
                  refine ⟨(nS s 2, cs ++ [⟨75 :: t, [79, 98, 106, 101, 99, 116], false, false, [], []⟩]), Le.trans (Le.keep [0, 3] _) (Le.trans (Le.nilC 1 cs.length 4 3 (by simp; rfl)) (Le.trans (Le.nilC 1 cs.length 5 9 (by simp; rfl)) (Le.trans (Le.absorb 1 cs.length 4 (by simp; rfl)) (Le.trans (Le.absorb 1 cs.length 5 (by simp; rfl)) (Le.trans (Le.trim 3 (by simp [hX]) _ (by simp)) (Le.of_eq ?_)))))), ?_, ?_⟩
                  · simp
                  · exact ⟨nS_ok hs _, by simp; omega, all_app hci (by simp [sizeC]; omega)⟩
                  · simp; omega
                · try simp at h14
                  refine W_exit (cut_endT ((⟨_, _, _, _⟩, cs)) [3] 3 (by simp [hX]) (by simp) (Eq.trans (by simp [w1, w2, wi, hi4, hEi, hEib, hile, hT, h5, w1, w2, w3, h14]; rfl) (by rfl)) ?_)
                  exact ⟨by (first | assumption | ((repeat (first | apply nS_ok | apply wordS_ok | apply ltyS_ok)) <;> assumption)), hcl, hci⟩
      · try simp at h11
        refine W_skip (cut_endT ((⟨_, _, _, _⟩, cs)) [3] 3 (by simp [hX]) (by simp) (Eq.trans (by simp [w1, w2, wi, hi4, hEi, hEib, hile, hT, h5]; rfl) (by rfl)) ?_)
        exact ⟨by (first | assumption | ((repeat (first | apply nS_ok | apply wordS_ok | apply ltyS_ok)) <;> assumption)), by simp only; omega, fun x hx => Nat.le_trans (hci x hx) (by decide)⟩
    · rintro ⟨s, cs⟩ ⟨hs, hcl, hci⟩
      simp only at hs hcl hci
      refine W_rseqK [2] (jh hX (by simp [w1, w2, wi, hi4, hEi, hEib, hile, hT, h5]; rfl)) ?_
      refine W_ret (DoneE.ret (Eq.trans (by simp [w1, w2, wi, hi4, hEi, hEib, hile, hT, h5]; rfl) (by rfl)) ?_)
      exact ⟨s, cs, rfl, rfl, hs, hcl, hci⟩
end Go.Proofs
namespace Go.Proofs
open Go Go.Ev


theorem cb_spec_l01Src_l06Type : Callable Tryz.prog 86 := ⟨_, Tryz.func86, by kernel_rfl, by kernel_rfl⟩
theorem ct_spec_l01Src_l06Type {s : Src} (hs : okS s) : Ct Tryz.prog 86 [.ptr 0 0 0] [oSrc s] (eT (l06T s).1) [oSrc (l06T s).2] := by
  refine Ct_bodyS tok Tryz.func86 rfl 48 (by kernel_rfl) (by kernel_rfl) fun X hX => ?_
  refine jq [0, 2] ?_
  refine W_rseqK [0, 2, 3] (jt 1 (k:=(jc [0] (c:=(by apply ct_spec_l01Src_n <;> first | omega | assumption | decide | exact nS_ok (by assumption) _ | exact nS_ok (nS_ok (by assumption) _) _ | ((repeat apply nS_ok); assumption))) (a:=cb_spec_l01Src_n) (k:=jr)))) ?_
  refine W_seq (jq [0, 2, 3, 8] ?_)
  refine W_block (W_seq (jq [0, 2, 3, 8, 9] ?_))
  refine jd (fun h3 => ?_) (fun h3 => ?_)
  · try simp at h3
    refine W_skip (jd (fun h3_1 => ?_) (fun h3_1 => ?_))
    · try simp at h3_1
      refine W_reg (jt 2 (k:=(jc [0, 3] (c:=(by apply (ct_spec_l01Src_pick (l := [[65], [66], [67], [79, 98, 106, 101, 99, 116], [69, 114, 114, 111, 114], [77, 97, 116, 104, 69, 114, 114, 111, 114]])) <;> first | omega | assumption | decide | exact nS_ok (by assumption) _ | exact nS_ok (nS_ok (by assumption) _) _ | ((repeat apply nS_ok); assumption))) (a:=cb_spec_l01Src_pick) (k:=jr)))) ?_
      refine W_le (Le.trans (Le.trim 3 (by simp [hX]) _ (by simp)) (Le.of_eq (by simp; rfl))) ?_
      refine W_seq (W_rseqK [0, 2, 3, 26] (jt 1 (k:=(jc [0] (c:=(by apply ct_spec_l01Src_one <;> first | omega | assumption | decide | exact nS_ok (by assumption) _ | exact nS_ok (nS_ok (by assumption) _) _ | ((repeat apply nS_ok); assumption))) (a:=cb_spec_l01Src_one) (k:=jf)))) ?_)
      refine jd (fun h9 => ?_) (fun h9 => ?_)
      · try simp at h9
        refine W_rseqK [0, 2, 3, 28] (jt 1 (k:=(jc [0] (c:=(by apply ct_spec_l01Src_n <;> first | omega | assumption | decide | exact nS_ok (by assumption) _ | exact nS_ok (nS_ok (by assumption) _) _ | ((repeat apply nS_ok); assumption))) (a:=cb_spec_l01Src_n) (k:=jf)))) ?_
        refine W_block (jq [0, 2, 3, 28, 35] ?_)
        refine jd (fun h12 => ?_) (fun h12 => ?_)
        · try simp at h12
          refine W_reg (jt 1 (k:=(jc [0] (c:=(by apply ct_spec_l01Src_n <;> first | omega | assumption | decide | exact nS_ok (by assumption) _ | exact nS_ok (nS_ok (by assumption) _) _ | ((repeat apply nS_ok); assumption))) (a:=cb_spec_l01Src_n) (k:=(jh hX (by simp; (try (simp (disch := omega) only [wrap_i64]; (try simp))); rfl)))))) ?_
          refine jq [2] ?_
          refine W_ret (W_retR2 (by simp; rfl) (by rfl) (.of_eq ?_) ?_)
          all_goals clear hX
          · skip
            simp_all [l06T, l06K, l06A, l06B, l06C]
          · skip
            simp_all [l06T, l06K]
        · try simp at h12
          refine jq [0, 2, 3, 41] ?_
          refine jd (fun h14 => ?_) (fun h14 => ?_)
          · try simp at h14
            refine W_reg (jt 2 (k:=(jc [0, 3] (c:=(by apply (ct_spec_l01Src_pick (l := [[], [90], [65]])) <;> first | omega | assumption | decide | exact nS_ok (by assumption) _ | exact nS_ok (nS_ok (by assumption) _) _ | ((repeat apply nS_ok); assumption))) (a:=cb_spec_l01Src_pick) (k:=jr)))) ?_
            refine jq [2] ?_
            refine W_ret (W_retR2 (by simp; rfl) (by rfl) (.of_eq ?_) ?_)
            all_goals clear hX
            · skip
              simp_all [l06T, l06K, l06A, l06B, l06C]
            · skip
              simp_all [l06T, l06K]
          · try simp at h14
            refine W_reg (jt 2 (k:=(jc [0] (c:=(by apply ct_spec_l01Src_n <;> first | omega | assumption | decide | exact nS_ok (by assumption) _ | exact nS_ok (nS_ok (by assumption) _) _ | ((repeat apply nS_ok); assumption))) (a:=cb_spec_l01Src_n) (k:=jr)))) ?_
            refine jq [2] ?_
            refine W_ret (W_retR2 (by simp; rfl) (by rfl) (.of_eq ?_) ?_)
            all_goals clear hX
            · skip
              simp_all [l06T, l06K, l06A, l06B, l06C]
            · skip
              simp_all [l06T, l06K]
      · try simp at h9
        refine W_skip (jq [2] ?_)
        refine W_ret (W_retR2 (by simp; rfl) (by rfl) (.of_eq ?_) ?_)
        all_goals clear hX
        · skip
          simp_all [l06T, l06K, l06A, l06B, l06C]
        · skip
          simp_all [l06T, l06K]
    · try simp at h3_1
      refine jq [0, 2, 3, 16] ?_
      refine jd (fun h6 => ?_) (fun h6 => ?_)
      · try simp at h6
        refine W_rseqK [0, 2, 3] (jt 2 (k:=(jc [0, 3] (c:=(by apply (ct_spec_l01Src_pick (l := [[65], [66]])) <;> first | omega | assumption | decide | exact nS_ok (by assumption) _ | exact nS_ok (nS_ok (by assumption) _) _ | ((repeat apply nS_ok); assumption))) (a:=cb_spec_l01Src_pick) (k:=jr)))) ?_
        refine W_le (Le.trans (Le.trim 3 (by simp [hX]) _ (by simp)) (Le.of_eq (by simp; rfl))) ?_
        refine W_reg (jt 1 (k:=(jc [0] (c:=(by apply ct_spec_l01Src_n <;> first | omega | assumption | decide | exact nS_ok (by assumption) _ | exact nS_ok (nS_ok (by assumption) _) _ | ((repeat apply nS_ok); assumption))) (a:=cb_spec_l01Src_n) (k:=jr)))) ?_
        refine W_seq (W_rseqK [0, 2, 3, 26] (jt 1 (k:=(jc [0] (c:=(by apply ct_spec_l01Src_one <;> first | omega | assumption | decide | exact nS_ok (by assumption) _ | exact nS_ok (nS_ok (by assumption) _) _ | ((repeat apply nS_ok); assumption))) (a:=cb_spec_l01Src_one) (k:=jf)))) ?_)
        refine jd (fun h9 => ?_) (fun h9 => ?_)
        · try simp at h9
          refine W_rseqK [0, 2, 3, 28] (jt 1 (k:=(jc [0] (c:=(by apply ct_spec_l01Src_n <;> first | omega | assumption | decide | exact nS_ok (by assumption) _ | exact nS_ok (nS_ok (by assumption) _) _ | ((repeat apply nS_ok); assumption))) (a:=cb_spec_l01Src_n) (k:=jf)))) ?_
          refine W_block (jq [0, 2, 3, 28, 35] ?_)
          refine jd (fun h12 => ?_) (fun h12 => ?_)
          · try simp at h12
            refine W_reg (jt 1 (k:=(jc [0] (c:=(by apply ct_spec_l01Src_n <;> first | omega | assumption | decide | exact nS_ok (by assumption) _ | exact nS_ok (nS_ok (by assumption) _) _ | ((repeat apply nS_ok); assumption))) (a:=cb_spec_l01Src_n) (k:=(jh hX (by simp; (try (simp (disch := omega) only [wrap_i64]; (try simp))); rfl)))))) ?_
            refine jq [2] ?_
            refine W_ret (W_retR2 (by simp; rfl) (by rfl) (.of_eq ?_) ?_)
            all_goals clear hX
            · skip
              simp_all [l06T, l06K, l06A, l06B, l06C]
            · skip
              simp_all [l06T, l06K]
          · try simp at h12
            refine jq [0, 2, 3, 41] ?_
            refine jd (fun h14 => ?_) (fun h14 => ?_)
            · try simp at h14
              refine W_reg (jt 2 (k:=(jc [0, 3] (c:=(by apply (ct_spec_l01Src_pick (l := [[], [90], [65]])) <;> first | omega | assumption | decide | exact nS_ok (by assumption) _ | exact nS_ok (nS_ok (by assumption) _) _ | ((repeat apply nS_ok); assumption))) (a:=cb_spec_l01Src_pick) (k:=jr)))) ?_
              refine jq [2] ?_
              refine W_ret (W_retR2 (by simp; rfl) (by rfl) (.of_eq ?_) ?_)
              all_goals clear hX
              · skip
                simp_all [l06T, l06K, l06A, l06B, l06C]
              · skip
                simp_all [l06T, l06K]
            · try simp at h14
              refine W_reg (jt 2 (k:=(jc [0] (c:=(by apply ct_spec_l01Src_n <;> first | omega | assumption | decide | exact nS_ok (by assumption) _ | exact nS_ok (nS_ok (by assumption) _) _ | ((repeat apply nS_ok); assumption))) (a:=cb_spec_l01Src_n) (k:=jr)))) ?_
              refine jq [2] ?_
              refine W_ret (W_retR2 (by simp; rfl) (by rfl) (.of_eq ?_) ?_)
              all_goals clear hX
              · skip
                simp_all [l06T, l06K, l06A, l06B, l06C]
              · skip
                simp_all [l06T, l06K]
        · try simp at h9
          refine W_skip (jq [2] ?_)
          refine W_ret (W_retR2 (by simp; rfl) (by rfl) (.of_eq ?_) ?_)
          all_goals clear hX
          · skip
            simp_all [l06T, l06K, l06A, l06B, l06C]
          · skip
            simp_all [l06T, l06K]
      · try simp at h6
        refine W_skip (W_seq (W_rseqK [0, 2, 3, 26] (jt 1 (k:=(jc [0] (c:=(by apply ct_spec_l01Src_one <;> first | omega | assumption | decide | exact nS_ok (by assumption) _ | exact nS_ok (nS_ok (by assumption) _) _ | ((repeat apply nS_ok); assumption))) (a:=cb_spec_l01Src_one) (k:=jf)))) ?_))
        refine jd (fun h9 => ?_) (fun h9 => ?_)
        · try simp at h9
          refine W_rseqK [0, 2, 3, 28] (jt 1 (k:=(jc [0] (c:=(by apply ct_spec_l01Src_n <;> first | omega | assumption | decide | exact nS_ok (by assumption) _ | exact nS_ok (nS_ok (by assumption) _) _ | ((repeat apply nS_ok); assumption))) (a:=cb_spec_l01Src_n) (k:=jf)))) ?_
          refine W_block (jq [0, 2, 3, 28, 35] ?_)
          refine jd (fun h12 => ?_) (fun h12 => ?_)
          · try simp at h12
            refine W_reg (jt 1 (k:=(jc [0] (c:=(by apply ct_spec_l01Src_n <;> first | omega | assumption | decide | exact nS_ok (by assumption) _ | exact nS_ok (nS_ok (by assumption) _) _ | ((repeat apply nS_ok); assumption))) (a:=cb_spec_l01Src_n) (k:=(jh hX (by simp; (try (simp (disch := omega) only [wrap_i64]; (try simp))); rfl)))))) ?_
            refine jq [2] ?_
            refine W_ret (W_retR2 (by simp; rfl) (by rfl) (.of_eq ?_) ?_)
            all_goals clear hX
            · skip
              simp_all [l06T, l06K, l06A, l06B, l06C]
            · skip
              simp_all [l06T, l06K]
          · try simp at h12
            refine jq [0, 2, 3, 41] ?_
            refine jd (fun h14 => ?_) (fun h14 => ?_)
            · try simp at h14
              refine W_reg (jt 2 (k:=(jc [0, 3] (c:=(by apply (ct_spec_l01Src_pick (l := [[], [90], [65]])) <;> first | omega | assumption | decide | exact nS_ok (by assumption) _ | exact nS_ok (nS_ok (by assumption) _) _ | ((repeat apply nS_ok); assumption))) (a:=cb_spec_l01Src_pick) (k:=jr)))) ?_
              refine jq [2] ?_
              refine W_ret (W_retR2 (by simp; rfl) (by rfl) (.of_eq ?_) ?_)
              all_goals clear hX
              · skip
                simp_all [l06T, l06K, l06A, l06B, l06C]
              · skip
                simp_all [l06T, l06K]
            · try simp at h14
              refine W_reg (jt 2 (k:=(jc [0] (c:=(by apply ct_spec_l01Src_n <;> first | omega | assumption | decide | exact nS_ok (by assumption) _ | exact nS_ok (nS_ok (by assumption) _) _ | ((repeat apply nS_ok); assumption))) (a:=cb_spec_l01Src_n) (k:=jr)))) ?_
              refine jq [2] ?_
              refine W_ret (W_retR2 (by simp; rfl) (by rfl) (.of_eq ?_) ?_)
              all_goals clear hX
              · skip
                simp_all [l06T, l06K, l06A, l06B, l06C]
              · skip
                simp_all [l06T, l06K]
        · try simp at h9
          refine W_skip (jq [2] ?_)
          refine W_ret (W_retR2 (by simp; rfl) (by rfl) (.of_eq ?_) ?_)
          all_goals clear hX
          · skip
            simp_all [l06T, l06K, l06A, l06B, l06C]
          · skip
            simp_all [l06T, l06K]
  · try simp at h3
    refine W_reg jr ?_
    refine jd (fun h4 => ?_) (fun h4 => ?_)
    · try simp at h4
      refine W_reg (jt 2 (k:=(jc [0, 3] (c:=(by apply (ct_spec_l01Src_pick (l := [[65], [66], [67], [79, 98, 106, 101, 99, 116], [69, 114, 114, 111, 114], [77, 97, 116, 104, 69, 114, 114, 111, 114]])) <;> first | omega | assumption | decide | exact nS_ok (by assumption) _ | exact nS_ok (nS_ok (by assumption) _) _ | ((repeat apply nS_ok); assumption))) (a:=cb_spec_l01Src_pick) (k:=jr)))) ?_
      refine W_le (Le.trans (Le.trim 3 (by simp [hX]) _ (by simp)) (Le.of_eq (by simp; rfl))) ?_
      refine W_seq (W_rseqK [0, 2, 3, 26] (jt 1 (k:=(jc [0] (c:=(by apply ct_spec_l01Src_one <;> first | omega | assumption | decide | exact nS_ok (by assumption) _ | exact nS_ok (nS_ok (by assumption) _) _ | ((repeat apply nS_ok); assumption))) (a:=cb_spec_l01Src_one) (k:=jf)))) ?_)
      refine jd (fun h9 => ?_) (fun h9 => ?_)
      · try simp at h9
        refine W_rseqK [0, 2, 3, 28] (jt 1 (k:=(jc [0] (c:=(by apply ct_spec_l01Src_n <;> first | omega | assumption | decide | exact nS_ok (by assumption) _ | exact nS_ok (nS_ok (by assumption) _) _ | ((repeat apply nS_ok); assumption))) (a:=cb_spec_l01Src_n) (k:=jf)))) ?_
        refine W_block (jq [0, 2, 3, 28, 35] ?_)
        refine jd (fun h12 => ?_) (fun h12 => ?_)
        · try simp at h12
          refine W_reg (jt 1 (k:=(jc [0] (c:=(by apply ct_spec_l01Src_n <;> first | omega | assumption | decide | exact nS_ok (by assumption) _ | exact nS_ok (nS_ok (by assumption) _) _ | ((repeat apply nS_ok); assumption))) (a:=cb_spec_l01Src_n) (k:=(jh hX (by simp; (try (simp (disch := omega) only [wrap_i64]; (try simp))); rfl)))))) ?_
          refine jq [2] ?_
          refine W_ret (W_retR2 (by simp; rfl) (by rfl) (.of_eq ?_) ?_)
          all_goals clear hX
          · skip
            simp_all [l06T, l06K, l06A, l06B, l06C]
          · skip
            simp_all [l06T, l06K]
        · try simp at h12
          refine jq [0, 2, 3, 41] ?_
          refine jd (fun h14 => ?_) (fun h14 => ?_)
          · try simp at h14
            refine W_reg (jt 2 (k:=(jc [0, 3] (c:=(by apply (ct_spec_l01Src_pick (l := [[], [90], [65]])) <;> first | omega | assumption | decide | exact nS_ok (by assumption) _ | exact nS_ok (nS_ok (by assumption) _) _ | ((repeat apply nS_ok); assumption))) (a:=cb_spec_l01Src_pick) (k:=jr)))) ?_
            refine jq [2] ?_
            refine W_ret (W_retR2 (by simp; rfl) (by rfl) (.of_eq ?_) ?_)
            all_goals clear hX
            · skip
              simp_all [l06T, l06K, l06A, l06B, l06C]
            · skip
              simp_all [l06T, l06K]
          · try simp at h14
            refine W_reg (jt 2 (k:=(jc [0] (c:=(by apply ct_spec_l01Src_n <;> first | omega | assumption | decide | exact nS_ok (by assumption) _ | exact nS_ok (nS_ok (by assumption) _) _ | ((repeat apply nS_ok); assumption))) (a:=cb_spec_l01Src_n) (k:=jr)))) ?_
            refine jq [2] ?_
            refine W_ret (W_retR2 (by simp; rfl) (by rfl) (.of_eq ?_) ?_)
            all_goals clear hX
            · skip
              simp_all [l06T, l06K, l06A, l06B, l06C]
            · skip
              simp_all [l06T, l06K]
      · try simp at h9
        refine W_skip (jq [2] ?_)
        refine W_ret (W_retR2 (by simp; rfl) (by rfl) (.of_eq ?_) ?_)
        all_goals clear hX
        · skip
          simp_all [l06T, l06K, l06A, l06B, l06C]
        · skip
          simp_all [l06T, l06K]
    · try simp at h4
      refine jq [0, 2, 3, 16] ?_
      refine jd (fun h6 => ?_) (fun h6 => ?_)
      · try simp at h6
        refine W_rseqK [0, 2, 3] (jt 2 (k:=(jc [0, 3] (c:=(by apply (ct_spec_l01Src_pick (l := [[65], [66]])) <;> first | omega | assumption | decide | exact nS_ok (by assumption) _ | exact nS_ok (nS_ok (by assumption) _) _ | ((repeat apply nS_ok); assumption))) (a:=cb_spec_l01Src_pick) (k:=jr)))) ?_
        refine W_le (Le.trans (Le.trim 3 (by simp [hX]) _ (by simp)) (Le.of_eq (by simp; rfl))) ?_
        refine W_reg (jt 1 (k:=(jc [0] (c:=(by apply ct_spec_l01Src_n <;> first | omega | assumption | decide | exact nS_ok (by assumption) _ | exact nS_ok (nS_ok (by assumption) _) _ | ((repeat apply nS_ok); assumption))) (a:=cb_spec_l01Src_n) (k:=jr)))) ?_
        refine W_seq (W_rseqK [0, 2, 3, 26] (jt 1 (k:=(jc [0] (c:=(by apply ct_spec_l01Src_one <;> first | omega | assumption | decide | exact nS_ok (by assumption) _ | exact nS_ok (nS_ok (by assumption) _) _ | ((repeat apply nS_ok); assumption))) (a:=cb_spec_l01Src_one) (k:=jf)))) ?_)
        refine jd (fun h9 => ?_) (fun h9 => ?_)
        · try simp at h9
          refine W_rseqK [0, 2, 3, 28] (jt 1 (k:=(jc [0] (c:=(by apply ct_spec_l01Src_n <;> first | omega | assumption | decide | exact nS_ok (by assumption) _ | exact nS_ok (nS_ok (by assumption) _) _ | ((repeat apply nS_ok); assumption))) (a:=cb_spec_l01Src_n) (k:=jf)))) ?_
          refine W_block (jq [0, 2, 3, 28, 35] ?_)
          refine jd (fun h12 => ?_) (fun h12 => ?_)
          · try simp at h12
            refine W_reg (jt 1 (k:=(jc [0] (c:=(by apply ct_spec_l01Src_n <;> first | omega | assumption | decide | exact nS_ok (by assumption) _ | exact nS_ok (nS_ok (by assumption) _) _ | ((repeat apply nS_ok); assumption))) (a:=cb_spec_l01Src_n) (k:=(jh hX (by simp; (try (simp (disch := omega) only [wrap_i64]; (try simp))); rfl)))))) ?_
            refine jq [2] ?_
            refine W_ret (W_retR2 (by simp; rfl) (by rfl) (.of_eq ?_) ?_)
            all_goals clear hX
            · skip
              simp_all [l06T, l06K, l06A, l06B, l06C]
            · skip
              simp_all [l06T, l06K]
          · try simp at h12
            refine jq [0, 2, 3, 41] ?_
            refine jd (fun h14 => ?_) (fun h14 => ?_)
            · try simp at h14
              refine W_reg (jt 2 (k:=(jc [0, 3] (c:=(by apply (ct_spec_l01Src_pick (l := [[], [90], [65]])) <;> first | omega | assumption | decide | exact nS_ok (by assumption) _ | exact nS_ok (nS_ok (by assumption) _) _ | ((repeat apply nS_ok); assumption))) (a:=cb_spec_l01Src_pick) (k:=jr)))) ?_
              refine jq [2] ?_
              refine W_ret (W_retR2 (by simp; rfl) (by rfl) (.of_eq ?_) ?_)
              all_goals clear hX
              · skip
                simp_all [l06T, l06K, l06A, l06B, l06C]
              · skip
                simp_all [l06T, l06K]
            · try simp at h14
              refine W_reg (jt 2 (k:=(jc [0] (c:=(by apply ct_spec_l01Src_n <;> first | omega | assumption | decide | exact nS_ok (by assumption) _ | exact nS_ok (nS_ok (by assumption) _) _ | ((repeat apply nS_ok); assumption))) (a:=cb_spec_l01Src_n) (k:=jr)))) ?_
              refine jq [2] ?_
              refine W_ret (W_retR2 (by simp; rfl) (by rfl) (.of_eq ?_) ?_)
              all_goals clear hX
              · skip
                simp_all [l06T, l06K, l06A, l06B, l06C]
              · skip
                simp_all [l06T, l06K]
        · try simp at h9
          refine W_skip (jq [2] ?_)
          refine W_ret (W_retR2 (by simp; rfl) (by rfl) (.of_eq ?_) ?_)
          all_goals clear hX
          · skip
            simp_all [l06T, l06K, l06A, l06B, l06C]
          · skip
            simp_all [l06T, l06K]
      · try simp at h6
        refine W_skip (W_seq (W_rseqK [0, 2, 3, 26] (jt 1 (k:=(jc [0] (c:=(by apply ct_spec_l01Src_one <;> first | omega | assumption | decide | exact nS_ok (by assumption) _ | exact nS_ok (nS_ok (by assumption) _) _ | ((repeat apply nS_ok); assumption))) (a:=cb_spec_l01Src_one) (k:=jf)))) ?_))
        refine jd (fun h9 => ?_) (fun h9 => ?_)
        · try simp at h9
          refine W_rseqK [0, 2, 3, 28] (jt 1 (k:=(jc [0] (c:=(by apply ct_spec_l01Src_n <;> first | omega | assumption | decide | exact nS_ok (by assumption) _ | exact nS_ok (nS_ok (by assumption) _) _ | ((repeat apply nS_ok); assumption))) (a:=cb_spec_l01Src_n) (k:=jf)))) ?_
          refine W_block (jq [0, 2, 3, 28, 35] ?_)
          refine jd (fun h12 => ?_) (fun h12 => ?_)
          · try simp at h12
            refine W_reg (jt 1 (k:=(jc [0] (c:=(by apply ct_spec_l01Src_n <;> first | omega | assumption | decide | exact nS_ok (by assumption) _ | exact nS_ok (nS_ok (by assumption) _) _ | ((repeat apply nS_ok); assumption))) (a:=cb_spec_l01Src_n) (k:=(jh hX (by simp; (try (simp (disch := omega) only [wrap_i64]; (try simp))); rfl)))))) ?_
            refine jq [2] ?_
            refine W_ret (W_retR2 (by simp; rfl) (by rfl) (.of_eq ?_) ?_)
            all_goals clear hX
            · skip
              simp_all [l06T, l06K, l06A, l06B, l06C]
            · skip
              simp_all [l06T, l06K]
          · try simp at h12
            refine jq [0, 2, 3, 41] ?_
            refine jd (fun h14 => ?_) (fun h14 => ?_)
            · try simp at h14
              refine W_reg (jt 2 (k:=(jc [0, 3] (c:=(by apply (ct_spec_l01Src_pick (l := [[], [90], [65]])) <;> first | omega | assumption | decide | exact nS_ok (by assumption) _ | exact nS_ok (nS_ok (by assumption) _) _ | ((repeat apply nS_ok); assumption))) (a:=cb_spec_l01Src_pick) (k:=jr)))) ?_
              refine jq [2] ?_
              refine W_ret (W_retR2 (by simp; rfl) (by rfl) (.of_eq ?_) ?_)
              all_goals clear hX
              · skip
                simp_all [l06T, l06K, l06A, l06B, l06C]
              · skip
                simp_all [l06T, l06K]
            · try simp at h14
              refine W_reg (jt 2 (k:=(jc [0] (c:=(by apply ct_spec_l01Src_n <;> first | omega | assumption | decide | exact nS_ok (by assumption) _ | exact nS_ok (nS_ok (by assumption) _) _ | ((repeat apply nS_ok); assumption))) (a:=cb_spec_l01Src_n) (k:=jr)))) ?_
              refine jq [2] ?_
              refine W_ret (W_retR2 (by simp; rfl) (by rfl) (.of_eq ?_) ?_)
              all_goals clear hX
              · skip
                simp_all [l06T, l06K, l06A, l06B, l06C]
              · skip
                simp_all [l06T, l06K]
        · try simp at h9
          refine W_skip (jq [2] ?_)
          refine W_ret (W_retR2 (by simp; rfl) (by rfl) (.of_eq ?_) ?_)
          all_goals clear hX
          · skip
            simp_all [l06T, l06K, l06A, l06B, l06C]
          · skip
            simp_all [l06T, l06K]
end Go.Proofs
namespace Go.Proofs
open Go Go.Ev

attribute [local irreducible] nS nV wordS wordV ltyS ltyV pickV l06T
theorem cb_spec_l01Src_l06Two : Callable Tryz.prog 38 := ⟨_, Tryz.func38, by kernel_rfl, by kernel_rfl⟩
theorem ct_spec_l01Src_l06Two {s : Src} (hs : okS s) : CtE Tryz.prog 38 [.ptr 0 0 0] [oSrc s] (fun r ob' => ∃ (s' : Src) (a b : Typ), r = .tup [eT a, eT b] ∧ ob' = [oSrc s'] ∧ okS s' ∧ a.c.length ≤ 9 ∧ b.c.length ≤ 9) := by
  have hT := l06T_ok hs
  have hU := l06T_ok (nS_ok hT.1 5)
  refine Ct_bodyE tok Tryz.func38 rfl 14 (by kernel_rfl) (by kernel_rfl) fun X hX => ?_
  refine jq [0, 2, 3] ?_
  refine W_rseqK [0, 2, 3, 4] (jt 1 (k:=(jc [0] (c:=(by apply ct_spec_l01Src_l06Type <;> first | omega | assumption | decide | exact (l06T_ok hs).1 | ((repeat apply nS_ok); exact (l06T_ok hs).1))) (a:=cb_spec_l01Src_l06Type) (k:=jr)))) ?_
  refine W_seq (W_rseqK [0, 2, 3, 4, 8] (jt 1 (k:=(jc [0] (c:=(by apply ct_spec_l01Src_one <;> first | omega | assumption | decide | exact (l06T_ok hs).1 | ((repeat apply nS_ok); exact (l06T_ok hs).1))) (a:=cb_spec_l01Src_one) (k:=jf)))) ?_)
  refine jd (fun h2 => ?_) (fun h2 => ?_)
  · try simp at h2
    refine jL 3 [0, 1] [2] [2, 3] ([3]) hX (by simp; rfl) (jH (p:=fun X hX => jr) (k:=.nil)) jr ?_
    refine W_ret (DoneE.ret (Eq.trans (by simp; rfl) (by rfl)) ?_)
    exact ⟨_, (l06T s).1, (l06T s).1, rfl, rfl, nS_ok hT.1 5, hT.2, hT.2⟩
  · try simp at h2
    refine W_skip (jL 3 [0, 1] [2] [2, 3] ([3]) hX (by simp; rfl) (jH (p:=fun X hX => (jc [0] (c:=(by apply ct_spec_l01Src_l06Type <;> first | omega | assumption | decide | exact (l06T_ok hs).1 | ((repeat apply nS_ok); exact (l06T_ok hs).1))) (a:=cb_spec_l01Src_l06Type) (k:=jf))) (k:=.nil)) jr ?_)
    refine W_ret (DoneE.ret (Eq.trans (by simp; rfl) (by rfl)) ?_)
    exact ⟨_, (l06T s).1, (l06T (nS (l06T s).2 5)).1, rfl, rfl, hU.1, hT.2, hU.2⟩
end Go.Proofs
namespace Go.Proofs
open Go Go.Ev

attribute [local irreducible] nS nV wordS wordV ltyS ltyV pickV l06T
theorem cb_spec_DrawTypeLub : Callable Tryz.prog 7 := ⟨_, Tryz.func7, by kernel_rfl, by kernel_rfl⟩
theorem ct_spec_DrawTypeLub {c : List Int} (hc : c.length ≤ 1099511627776) : CtE Tryz.prog 7 [.lst false 1 (c.map bV)] [] (fun r ob' => ∃ (l : List Cls) (a b : Typ), r = .tup [.lst true 6 (l.map oC), eT a, eT b] ∧ ob' = [] ∧ l.length ≤ 12 ∧ (∀ x ∈ l, sizeC x ≤ 100000) ∧ a.c.length ≤ 9 ∧ b.c.length ≤ 9) := by
  refine Ct_bodyE tok Tryz.func7 rfl 21 (by kernel_rfl) (by kernel_rfl) fun X hX => ?_
  refine jq [0, 3, 4] ?_
  refine W_rseqL [3, 4, 5] ?_
  refine WL_go 1 (jr) ?_
  refine WL_cE [] rfl (by simp) rfl (by simp; rfl) (by simp; rfl) (by apply ct_spec_l01Source <;> first | omega | assumption) cb_spec_l01Source (by simp) (by simp) ?_
  rintro _ _ ⟨s, rfl, rfl, hs⟩
  refine WL_le' (Le.of_eq (by simp; rfl)) ?_
  refine WL_fin (jr) ?_
  refine W_rseqL [3, 4, 5, 6] ?_
  refine WL_go 1 (jr) ?_
  refine WL_cE [2] rfl (by simp) rfl (by simp; rfl) (by simp; rfl) (by apply ct_spec_l01Src_l05World <;> first | omega | assumption) cb_spec_l01Src_l05World (by simp) (by simp) ?_
  rintro _ _ ⟨s1, l, rfl, rfl, hs1, hl, hli⟩
  refine WL_le' (Le.of_eq (by simp; rfl)) ?_
  refine WL_fin (jr) ?_
  refine W_rseqL [3, 4, 6, 7, 8] ?_
  refine WL_go 1 (jr) ?_
  refine WL_cE [2] rfl (by simp) rfl (by simp; rfl) (by simp; rfl) (by apply ct_spec_l01Src_l06Two <;> first | omega | assumption) cb_spec_l01Src_l06Two (by simp) (by simp) ?_
  rintro _ _ ⟨s2, a, b, rfl, rfl, hs2, ha, hb⟩
  refine WL_le' (Le.of_eq (by simp; rfl)) ?_
  refine WL_fin (jr) ?_
  refine jL 5 [0, 1, 2, 3] [4] [2, 3, 4] ([4, 5]) hX (by simp; rfl) (jH (p:=fun X hX => jr) (k:=.nil)) jr ?_
  refine W_ret (DoneE.ret (Eq.trans (by simp; rfl) (by rfl)) ?_)
  exact ⟨l, a, b, rfl, rfl, hl, hli, ha, hb⟩
end Go.Proofs
namespace Go.Proofs
open Go Go.Ev
theorem plc_next {l : List Cls} {es : List (Str × Int)} {i : Nat} (h : i < l.length) :
    plc es i (l.drop i) = plc (if (lookM es l[i].name).isSome then es else es ++ [(l[i].name, (i : Int))]) (i + 1) (l.drop (i + 1)) := by
  rw [List.drop_eq_getElem_cons h]; rfl
abbrev wob (l : List Cls) (bm : Nat) : Ob := some (2, [.agg [.lst false 6 (l.map eC), .raw (.map (some bm))]])
abbrev wst (l : List Cls) (bm : Nat) (a : Nat × List (Str × Int)) : St := ⟨sp 40 [(3, .ptr 0 0 0), (12, .lst false 6 (l.map eC)), (13, .int .i64 l.length), (14, .int .i64 a.1)], [wob l bm]⟩
theorem cb_impl_worldOf : Callable Tryz.prog 87 := ⟨_, Tryz.func87, by kernel_rfl, by kernel_rfl⟩
set_option maxHeartbeats 2000000 in
set_option maxRecDepth 100000 in
theorem ct_impl_worldOf {l : List Cls} (hl : l.length ≤ 1099511627776) : Ct Tryz.prog 87 [.lst false 6 (l.map eC)] [] (wv l) [] := by
  refine Ct_bodyS tok Tryz.func87 rfl 40 (by kernel_rfl) (by kernel_rfl) fun X hX => ?_
  refine W_rseqK [0] (Runs.run tok hX (by simp; rfl)) ?_
  refine W_le (Le.of_eq (by simp; rfl)) ?_
  refine W_mono2 (W_makeMap (F := places l) (x := .lst false 6 (l.map eC)) (t2 := 2) (Qj := fun bm e s es => e = .ret ∧ s = ⟨sp 40 [(2, .ptr 0 0 0)], [wob l bm]⟩ ∧ es = places l) hX (by rfl)
    (by intro X hX; exact opB_ok tok hX (by simp; rfl)) (by rfl) (by simp; rfl) (by rfl) (by rfl) (by rfl) (by rfl) (by simp [V.fz]) (by rfl) ?_ ?_) ?_
  · intro X1 bm hX1
    refine WLJ_lift fun X' hX' hmk => ?_
    refine WL_runsK [3, 0] (Runs.run tok hX' (by simp; rfl)) ⟨rfl, ?_⟩
    refine WJ_seq ?_
    refine WJ_seq ?_
    refine WJ_lift fun X' hX' hmk => ?_
    refine W_regK [3, 12, 13, 14] (Runs.run tok hX' (by simp; rfl)) ?_
    simp only [thenJ]
    refine WJ_block ?_
    refine WJ_loop (α := Nat × List (Str × Int)) (wst l bm) (fun a => a.2) (fun a => a.1 ≤ l.length ∧ plc a.2 a.1 (l.drop a.1) = places l) (fun a => l.length - a.1) (0, []) (by simp) rfl ⟨by simp, rfl⟩ ?_
    rintro ⟨i, es⟩ ⟨hi, hI⟩
    simp only at hi hI
    refine WJ_seq ?_
    refine WJ_lift fun X' hX' hmk => ?_
    refine W_regK [3, 12, 13, 14, 15] (Runs.run tok hX' (by simp; rfl)) ?_
    simp only [thenJ]
    refine WJ_seq ?_
    refine WJ_cond (by simp; rfl) (fun h => ?_) (fun h => ?_)
    · simp at h
      refine WJ_lift fun X' hX' hmk => W_skip ?_
      simp only [thenJ]
      refine WJ_seq ?_
      refine WJ_block ?_
      refine WJ_seq ?_
      refine WJ_lift fun X' hX' hmk => ?_
      refine W_regK [3, 12, 13, 14, 4, 5] (Runs.run tok hX' (by simp [h]; rfl)) ?_
      simp only [thenJ]
      refine WJ_seq ?_
      refine WJ_lift fun X' hX' hmk => ?_
      refine W_drawnK [3, 12, 13, 14, 4, 5, 7] hmo (by kernel_rfl) (RunsQ.step (n0 := 0) 6 tok (by simp; rfl) (RunsQ.lookR tok hmk (by rfl) (by rfl) (by rfl) (by rfl) (by rfl) (by rfl) (by rfl) (by rfl) (by simp) (by simp; rfl) (RunsQ.run (n0 := 0) tok (by simp; rfl)))) ?_
      simp only [thenJ]
      refine WJ_seq ?_
      refine WJ_lift fun X' hX' hmk => ?_
      refine W_regK [3, 12, 13, 14, 4, 5, 30] (Runs.run tok hX' (by simp; rfl)) ?_
      simp only [thenJ]
      have hnx := plc_next (es := es) h
      have hw : IntKind.i64.wrap ((i : Int) + 1) = ((i + 1 : Nat) : Int) := by rw [wrap_i64 (by omega) (by omega)]; simp
      refine WJ_cond (by simp; rfl) (fun h2 => ?_) (fun h2 => ?_)
      · have hn : lookM es l[i].name = none := by simpa using h2
        refine WJ_mapSet (s := l[i].name) (i := (i : Int)) 7 tok hmo (by kernel_rfl) (RunsS.run (n0 := 0) tok (by simp; rfl)) (by rfl) (by rfl) (by rfl) (by rfl) (by rfl) (by rfl) (by rfl) (by rfl) (by simp) (by simp) (by simp) hn ?_
        simp only [blockJ, thenJ]
        refine WJ_trimK 1 (by rw [hX1]; omega) (by simp) (by simp; rfl) ?_
        refine WJ_lift fun X' hX' hmk => ?_
        refine W_regK [3, 12, 13, 14] (Runs.run tok hX' (by simp; rfl)) ?_
        simp only [thenJ]
        refine ⟨(i + 1, es ++ [(l[i].name, (i : Int))]), by simp [hw], rfl, ⟨by simp; omega, ?_⟩, by simp; omega⟩
        rw [hnx, hn] at hI
        exact hI
      · have hn : (lookM es l[i].name).isSome = true := by simpa using h2
        refine WJ_lift fun X' hX' hmk => W_skip ?_
        simp only [blockJ, thenJ]
        refine WJ_trimK 1 (by rw [hX1]; omega) (by simp) (by simp; rfl) ?_
        refine WJ_lift fun X' hX' hmk => ?_
        refine W_regK [3, 12, 13, 14] (Runs.run tok hX' (by simp; rfl)) ?_
        simp only [thenJ]
        refine ⟨(i + 1, es), by simp [hw], rfl, ⟨by simp; omega, ?_⟩, by simp; omega⟩
        rw [hnx, if_pos hn] at hI
        exact hI
    · simp at h
      refine WJ_lift fun X' hX' hmk => W_exit ?_
      simp only [thenJ, blockJ]
      rw [if_pos trivial]
      rw [List.drop_eq_nil_of_le h] at hI
      simp only [plc] at hI
      subst hI
      refine WJ_seq ?_
      refine WJ_lift fun X' hX' hmk => ?_
      refine W_regK [2] (Runs.run tok hX' (by simp; rfl)) ?_
      simp only [thenJ]
      exact WJ_lift fun X' hX' hmk => W_ret ⟨rfl, by simp, rfl⟩
  · rintro bm e s es ⟨rfl, rfl, rfl⟩
    exact ⟨.inl rfl, rfl, by simp, by simp [sp_length], rfl⟩
  · rintro e s ⟨he, rfl⟩
    rcases he with rfl | rfl
    · exact W_retR (by simp; rfl) (.of_eq (by rfl)) rfl
    · exact W_endR (by simp; rfl) (.of_eq (by rfl)) rfl
end Go.Proofs

namespace Go.Proofs
open Go Go.Ev


theorem cb_slices_Index_string_string : Callable Tryz.prog 113 := ⟨_, Tryz.func113, by kernel_rfl, by kernel_rfl⟩
theorem ct_slices_Index_string_string {l : List Str} {t : Str} (hl : l.length ≤ 1099511627776) : Ct Tryz.prog 113 [.lst false 1 (l.map V.str), .str t] [] (.int .i64 (fix (fun x => decide (t = x)) l)) [] := by
  refine Ct_bodyS tok Tryz.func113 rfl 19 (by kernel_rfl) (by kernel_rfl) fun X hX => ?_
  refine jq [0, 1] ?_
  refine W_seq (jq [0, 1, 7, 8] ?_)
  refine W_block (W_loopU (α := Nat) [0, 1, 7, 8] (fun i => [(8, .int .i64 i)]) (fun i => []) (fun i => i ≤ l.length ∧ ∀ x ∈ l.take i, (fun x => decide (t = x)) x = false) (fun i => l.length - i) (0) (fun i => by simp; rfl) (by simp) ?_ ?_)
  · simp
  rintro i ⟨hi, hI⟩
  refine jq [0, 1, 7, 8, 9] ?_
  refine W_seq (jd (fun h2 => ?_) (fun h2 => ?_))
  · try simp at h2
    refine W_skip (W_seq (W_block (jq [0, 1, 5, 7, 8] ?_)))
    refine W_rseqK [0, 1, 5, 7, 8, 16] (jh hX (by simp [h2]; rfl)) ?_
    refine jd (fun h4 => ?_) (fun h4 => ?_)
    · try simp at h4
      refine jq [4] ?_
      refine W_ret (je (by simp [h2]; rfl) ?_)
      rw [fix_hit h2 hI (by simpa using h4)]
    · try simp at h4
      refine W_skip (W_reg (jh hX (by simp; (try (simp (disch := omega) only [wrap_i64]; (try simp))); rfl)) ?_)
      refine round_end (i + 1) [0, 1, 7, 8] (by simp [h2]; try (simp (disch := omega) only [wrap_i64])) ?_ ?_
      · exact ⟨by omega, take_not h2 hI (by simpa using h4)⟩
      · omega
  · try simp at h2
    refine W_exit (jq [4] ?_)
    refine W_ret (je (by simp [h2]; rfl) ?_)
    rw [fix_none (p := fun x => decide (t = x)) (fun x hx => hI x (by rw [List.take_of_length_le h2]; exact hx))]
end Go.Proofs
namespace Go.Proofs
open Go Go.Ev


theorem cb_slices_Contains_string_string : Callable Tryz.prog 59 := ⟨_, Tryz.func59, by kernel_rfl, by kernel_rfl⟩
theorem ct_slices_Contains_string_string {l : List Str} {t : Str} (hl : l.length ≤ 1099511627776) : Ct Tryz.prog 59 [.lst false 1 (l.map V.str), .str t] [] (.bool (l.any (fun x => decide (t = x)))) [] := by
  refine Ct_bodyS tok Tryz.func59 rfl 9 (by kernel_rfl) (by kernel_rfl) fun X hX => ?_
  refine jq [0, 1] ?_
  refine W_rseqK [4] (jt 2 (k:=(jc [] (c:=(by apply ct_slices_Index_string_string <;> first | assumption | omega | (simp at *; omega) | simp_all)) (a:=cb_slices_Index_string_string) (k:=jr)))) ?_
  refine W_ret (je0 ?_)
  rw [← fix_ge]
end Go.Proofs
namespace Go.Proofs
open Go Go.Ev


theorem cb_impl_builtIn : Callable Tryz.prog 134 := ⟨_, Tryz.func134, by kernel_rfl, by kernel_rfl⟩
theorem ct_impl_builtIn  : Ct Tryz.prog 134 [] [] (.lst true 1 (builtIn.map V.str)) [] := by
  refine Ct_bodyS tok Tryz.func134 rfl 2 (by kernel_rfl) (by kernel_rfl) fun X hX => ?_
  refine jq [] ?_
  refine jq [0] ?_
  refine W_ret (je0 ?_)
  simp [builtIn]
end Go.Proofs
namespace Go.Proofs
open Go Go.Ev


theorem cb_impl_isBuiltIn : Callable Tryz.prog 129 := ⟨_, Tryz.func129, by kernel_rfl, by kernel_rfl⟩
theorem ct_impl_isBuiltIn {n : Str} : Ct Tryz.prog 129 [.str n] [] (.bool (bIn n)) [] := by
  refine Ct_bodyS tok Tryz.func129 rfl 6 (by kernel_rfl) (by kernel_rfl) fun X hX => ?_
  refine jq [0] ?_
  refine W_rseqK [2] (jc [] (c:=(by apply ct_impl_builtIn <;> first | assumption | omega | (simp at *; omega) | simp_all)) (a:=cb_impl_builtIn) (k:=(jt 1 (k:=(jB (c:=(by apply (ct_slices_Contains_string_string (l := builtIn)) <;> first | decide | simp)) (a:=cb_slices_Contains_string_string) (k:=jr)))))) ?_
  refine W_ret (je0 ?_)
  rw [bIn_any]
end Go.Proofs
namespace Go.Proofs
open Go Go.Ev


theorem cb_impl_length : Callable Tryz.prog 140 := ⟨_, Tryz.func140, by kernel_rfl, by kernel_rfl⟩
theorem ct_impl_length {t : Str} : Ct Tryz.prog 140 [.str t] [] (.int .i64 t.length) [] := by
  refine Ct_bodyS tok Tryz.func140 rfl 5 (by kernel_rfl) (by kernel_rfl) fun X hX => ?_
  refine jq [0] ?_
  refine jq [2] ?_
  refine W_ret (je0 ?_)
  simp
end Go.Proofs
namespace Go.Proofs
open Go Go.Ev


theorem cb_impl_reader_is : Callable Tryz.prog 245 := ⟨_, Tryz.func245, by kernel_rfl, by kernel_rfl⟩
theorem ct_impl_reader_is {t : Str} {p : Nat} {b : Bool} {n : Int} (ht : t.length ≤ 1099511627776) (hp : p ≤ t.length) (hn0 : 0 ≤ n) (hn1 : n < 256) : Ct Tryz.prog 245 [.ptr 0 0 0, .int .u8 n] [rdr t p b] (.bool (hit t p b n.toNat)) [rdr t p b] := by
  obtain ⟨m, rfl⟩ : ∃ m : Nat, n = m := ⟨n.toNat, by omega⟩
  refine Ct_bodyS tok Tryz.func245 rfl 35 (by kernel_rfl) (by kernel_rfl) fun X hX => ?_
  refine jq [0, 1] ?_
  refine jD [4] (jS 6 (by simp; rfl) (jM 11 10 [0, 1, 21] (p:=fun b1_6 => by (try simp at b1_6); exact (jS 8 (by simp [-atD_lt, -atL_lt]; rfl) (jC (c:=by apply ct_impl_length <;> first | assumption | omega | (simp at *; omega) | simp_all) (a:=cb_impl_length) (k:=(jQ (by simp [-atD_lt, -atL_lt]; rfl)))))) (q:=fun b1_6 => by (try simp at b1_6); exact (jQ (by simp [-atD_lt, -atL_lt]; rfl))) (k:=(jS 1 (by simp; rfl) (jM 12 22 [34] (p:=fun b1_18 => by (try simp at b1_18); exact (jQ (by simp [-atD_lt, -atL_lt, b1_18]; rfl))) (q:=fun b1_18 => by (try simp at b1_18); exact (jQ (by simp [-atD_lt, -atL_lt]; rfl))) (k:=(jQ (by simp; rfl)))))))) ?_
  refine W_ret (je0 ?_)
  rcases Nat.lt_or_ge p t.length with h | h
  · (simp [hit, isAt_lt h, h]) <;> grind
  · (simp [hit, isAt_ge h]) <;> omega
end Go.Proofs
namespace Go.Proofs
open Go Go.Ev


theorem cb_impl_reader_take : Callable Tryz.prog 202 := ⟨_, Tryz.func202, by kernel_rfl, by kernel_rfl⟩
theorem ct_impl_reader_take {t : Str} {p : Nat} {b : Bool} {n : Int} (ht : t.length ≤ 1099511627776) (hp : p ≤ t.length) (hn0 : 0 ≤ n) (hn1 : n < 256) : Ct Tryz.prog 202 [.ptr 0 0 0, .int .u8 n] [rdr t p b] (.bool (hit t p b n.toNat)) [rdr t (adv (hit t p b n.toNat) p) b] := by
  refine Ct_bodyS tok Tryz.func202 rfl 16 (by kernel_rfl) (by kernel_rfl) fun X hX => ?_
  refine jq [0, 1] ?_
  refine W_seq (W_rseqK [0, 8] (jt 2 (k:=(jc [0] (c:=(by apply ct_impl_reader_is <;> first | assumption | omega | (simp at *; omega) | simp_all)) (a:=cb_impl_reader_is) (k:=jr)))) ?_)
  refine jd (fun h1 => ?_) (fun h1 => ?_)
  · try simp at h1
    refine jq [4] ?_
    refine W_ret (W_retR2 (by simp; rfl) (by rfl) (.of_eq ?_) ?_)
    all_goals clear hX
    · skip
      simp_all
    · skip
      simp_all
  · try simp at h1
    refine W_skip (W_rseqK [] (jh hX (by simp; (try (simp (disch := omega) only [wrap_i64]; (try simp))); rfl)) ?_)
    refine jq [4] ?_
    refine W_ret (W_retR2 (by simp; rfl) (by rfl) (.of_eq ?_) ?_)
    all_goals clear hX
    · skip
      simp_all
    · skip
      simp_all
end Go.Proofs
namespace Go.Proofs
open Go Go.Ev


theorem cb_internal_stringslite_IndexByte : Callable Tryz.prog 278 := ⟨_, Tryz.func278, by kernel_rfl, by kernel_rfl⟩
theorem ct_internal_stringslite_IndexByte {t : Str} {c : UInt8} : Ct Tryz.prog 278 [.str t, .int .u8 c.toNat] [] (.int .i64 (ixL c t)) [] := by
  refine Ct_bodyS tok Tryz.func278 rfl 8 (by kernel_rfl) (by kernel_rfl) fun X hX => ?_
  refine jq [0, 1] ?_
  refine W_rseqK [4] (jt 2 (k:=(Runs.extIB rfl (by simp) (by simp; rfl) (by simp; rfl) ext_IB (by simp; rfl) jr))) ?_
  refine W_ret (je0 ?_)
  simp
end Go.Proofs
namespace Go.Proofs
open Go Go.Ev


theorem cb_strings_IndexByte : Callable Tryz.prog 271 := ⟨_, Tryz.func271, by kernel_rfl, by kernel_rfl⟩
theorem ct_strings_IndexByte {t : Str} {c : UInt8} : Ct Tryz.prog 271 [.str t, .int .u8 c.toNat] [] (.int .i64 (ixL c t)) [] := by
  refine Ct_bodyS tok Tryz.func271 rfl 8 (by kernel_rfl) (by kernel_rfl) fun X hX => ?_
  refine jq [0, 1] ?_
  refine W_rseqK [4] (jt 2 (k:=(jc [] (c:=(by apply ct_internal_stringslite_IndexByte <;> first | assumption | omega | (simp at *; omega) | simp_all)) (a:=cb_internal_stringslite_IndexByte) (k:=jr)))) ?_
  refine W_ret (je0 ?_)
  simp
end Go.Proofs
namespace Go.Proofs
open Go Go.Ev


theorem cb_impl_isNameByte : Callable Tryz.prog 246 := ⟨_, Tryz.func246, by kernel_rfl, by kernel_rfl⟩
theorem ct_impl_isNameByte {c : UInt8} {n : Int} : Ct Tryz.prog 246 [.int .u8 c.toNat, .int .i64 n] [] (.bool (nameByte c (decide (n ≤ 0)))) [] := by
  obtain ⟨k1, k2⟩ := nameTable_byte c
  rw [show nameTable = [48, 49, 50, 51, 52, 53, 54, 55, 56, 57, 97, 98, 99, 100, 101, 102, 103, 104, 105, 106, 107, 108, 109, 110, 111, 112, 113, 114, 115, 116, 117, 118, 119, 120, 121, 122, 65, 66, 67, 68, 69, 70, 71, 72, 73, 74, 75, 76, 77, 78, 79, 80, 81, 82, 83, 84, 85, 86, 87, 88, 89, 90, 36] from rfl] at k1 k2
  refine Ct_bodyS tok Tryz.func246 rfl 18 (by kernel_rfl) (by kernel_rfl) fun X hX => ?_
  refine jq [0, 1] ?_
  refine W_rseqK [1, 5] (jt 1 (k:=(jc [] (c:=(by apply ct_strings_IndexByte <;> first | assumption | omega | (simp at *; omega) | simp_all)) (a:=cb_strings_IndexByte) (k:=jr)))) ?_
  refine W_rseqK [4] (jt 3 (k:=(jm 7 10 [17] (p:=fun b2_3 => by (try simp at b2_3); exact (jh hX (by simp [-atD_lt, -atL_lt]; rfl))) (q:=fun b2_3 => by (try simp at b2_3); exact (js hX 3 (by simp [-atD_lt, -atL_lt]; rfl) (jm 3 13 [10, 16] (p:=fun b2_6 => by (try simp at b2_6); exact (jh hX (by simp [-atD_lt, -atL_lt]; rfl))) (q:=fun b2_6 => by (try simp at b2_6); exact (jh hX (by simp [-atD_lt, -atL_lt]; rfl))) (k:=(jh hX (by simp [-atD_lt, -atL_lt]; rfl)))))) (k:=jr)))) ?_
  refine W_ret (je0 ?_)
  by_cases hn : n ≤ 0
  · rw [decide_eq_true hn, ← k1]; simp; omega
  · have hp : 0 < n := by omega
    rw [decide_eq_false hn, ← k2]; simp [hp]; grind
end Go.Proofs
namespace Go.Proofs
open Go Go.Ev


theorem cb_impl_reader_want : Callable Tryz.prog 247 := ⟨_, Tryz.func247, by kernel_rfl, by kernel_rfl⟩
theorem ct_impl_reader_want {t : Str} {p : Nat} {b : Bool} {n : Int} (ht : t.length ≤ 1099511627776) (hp : p ≤ t.length) (hn0 : 0 ≤ n) (hn1 : n < 256) : Ct Tryz.prog 247 [.ptr 0 0 0, .int .u8 n] [rdr t p b] (.tup []) [rdr t (adv (hit t p b n.toNat) p) (b || !hit t p b n.toNat)] := by
  refine Ct_bodyS tok Tryz.func247 rfl 11 (by kernel_rfl) (by kernel_rfl) fun X hX => ?_
  refine W_rseqK [0, 7] (jt 2 (k:=(jc [0] (c:=(by apply ct_impl_reader_take <;> first | assumption | omega | (simp at *; omega) | simp_all)) (a:=cb_impl_reader_take) (k:=jr)))) ?_
  refine jd (fun h0 => ?_) (fun h0 => ?_)
  · try simp at h0
    refine W_reg jr ?_
    refine W_endR2 (by simp; rfl) (by rfl) (.of_eq ?_) ?_
    all_goals clear hX
    · skip
      rfl
    · skip
      simp_all
  · try simp at h0
    refine W_skip (W_endR2 (by simp; rfl) (by rfl) (.of_eq ?_) ?_)
    all_goals clear hX
    · skip
      rfl
    · skip
      simp_all
end Go.Proofs
namespace Go.Proofs
open Go Go.Ev


theorem cb_impl_reader_name : Callable Tryz.prog 203 := ⟨_, Tryz.func203, by kernel_rfl, by kernel_rfl⟩
theorem ct_impl_reader_name {t : Str} {p : Nat} {b : Bool} (ht : t.length ≤ 1099511627776) (hp : p ≤ t.length) : Ct Tryz.prog 203 [.ptr 0 0 0] [rdr t p b] (.tup []) [rdr t (if b = true then p else (nmP t p).1) (b || !(nmP t p).2)] := by
  refine Ct_bodyS tok Tryz.func203 rfl 69 (by kernel_rfl) (by kernel_rfl) fun X hX => ?_
  refine jq [0, 2] ?_
  refine W_seq (W_block (W_loopU (α := Nat) [0, 2] (fun i => []) (fun i => [(0, rdr t i b)]) (fun i => p ≤ i ∧ i ≤ t.length ∧ i - p ≤ 20 ∧ (b = true → i = p) ∧ i + nameRun (20 - (i - p)) (decide (i = p)) (t.drop i) = p + nameRun 20 true (t.drop p)) (fun i => t.length - i) (p) (fun i => by simp; rfl) (by simp) ?_ ?_))
  · simp; omega
  rintro i ⟨h0i, hi, hn, hb, hI⟩
  refine W_seq (jD [0, 2, 50] (jS 6 (by simp; rfl) (jM 11 12 [0, 2, 23] (p:=fun b1_6 => by (try simp at b1_6); exact (jS 8 (by simp [-atD_lt, -atL_lt]; rfl) (jC (c:=by apply ct_impl_length <;> first | assumption | omega | (simp at *; omega) | simp_all) (a:=cb_impl_length) (k:=(jQ (by simp [-atD_lt, -atL_lt]; rfl)))))) (q:=fun b1_6 => by (try simp at b1_6); exact (jQ (by simp [-atD_lt, -atL_lt]; rfl))) (k:=(jS 1 (by simp; rfl) (jM 8 24 [0, 2, 32] (p:=fun b1_18 => by (try simp at b1_18); exact (jQ (by simp [-atD_lt, -atL_lt, b1_18]; (try (simp (disch := omega) only [wrap_i64]; (try simp [-atD_lt, -atL_lt, b1_18]))); rfl))) (q:=fun b1_18 => by (try simp at b1_18); exact (jQ (by simp [-atD_lt, -atL_lt]; rfl))) (k:=(jS 1 (by simp; rfl) (jM 17 33 [0, 2, 50] (p:=fun b1_27 => by (try simp at b1_27); exact (jS 15 (by simp [-atD_lt, -atL_lt, b1_27]; (try (simp (disch := omega) only [wrap_i64]; (try simp [-atD_lt, -atL_lt, b1_27]))); rfl) (jC (c:=by apply ct_impl_isNameByte <;> first | assumption | omega | (simp at *; omega) | simp_all) (a:=cb_impl_isNameByte) (k:=(jQ (by simp [-atD_lt, -atL_lt]; rfl)))))) (q:=fun b1_27 => by (try simp at b1_27); exact (jQ (by simp [-atD_lt, -atL_lt]; rfl))) (k:=(RunsQ.fin (by (try simp); rfl))))))))))) ?_)
  have hge : t.length ≤ i → nameRun (20 - (i - p)) (decide (i = p)) (t.drop i) = 0 := fun h => by rw [List.drop_eq_nil_of_le h]; simp [nameRun]
  have hg2 : i - p = 20 → nameRun (20 - (i - p)) (decide (i = p)) (t.drop i) = 0 := fun h => by rw [h]; simp [nameRun]
  have hg3 := fun h1 h2 => @drop_nameRun t i p h1 h2 h0i
  refine jd (fun h1 => ?_) (fun h1 => ?_)
  · try simp at h1
    have ⟨⟨⟨h1d, h1a⟩, h1b⟩, h1c⟩ := h1
    rw [atD_lt h1a, show decide ((i : Int) - p ≤ 0) = decide (i = p) from by simp; omega] at h1c
    rw [hg3 h1a (by omega), if_pos h1c] at hI
    refine W_skip (W_block (W_reg (jh hX (by simp [h1]; (try (simp (disch := omega) only [wrap_i64]; (try simp [h1]))); rfl)) ?_))
    refine round_end (i + 1) [0, 2] (by simp [h1]; try (simp (disch := omega) only [wrap_i64])) ?_ ?_
    · exact ⟨by omega, by omega, by omega, by simp_all, by omega⟩
    · omega
  · try simp at h1
    have hI2 : b = false → i = p + nameRun 20 true (t.drop p) := by
      intro hbf
      rcases Nat.lt_or_ge i t.length with hl | hl
      · by_cases hk : i - p = 20
        · have := hg2 hk; omega
        · rw [hg3 hl (by omega)] at hI
          have : nameByte t[i] (decide (i = p)) = false := by
            rw [← atD_lt hl]; have := h1 hbf hl (by omega); rwa [show decide ((i : Int) - p ≤ 0) = decide (i = p) from by simp; omega] at this
          rw [this] at hI; simpa using hI
      · have := hge hl; omega
    have hnm : b = false → nmP t p = if (isAt t i 59 && !decide (i = p)) then (i + 1, true) else (i, false) := by
      intro hbf; simp only [nmP, ← hI2 hbf]
    clear hI hI2 hg2 hg3 hge
    refine W_exit (W_seq (W_rseqK [0, 63] (jh hX (by simp [h1]; rfl)) ?_))
    refine' W_condS3 [0] (by simp; rfl) (by rfl) (fun h3 => ?a1_1) (fun h3 => ?a0_1) ?ak_1
    case a1_1 =>
      try simp at h3
      refine W_reg (jh hX (by simp [h1]; rfl)) ?_
      exact ⟨rfl, Eq.trans (by (try simp); rfl) (by rfl)⟩
    case a0_1 =>
      try simp at h3
      refine W_skip ?_
      exact ⟨rfl, Eq.trans (by (try simp); rfl) (by rfl)⟩
    case ak_1 =>
      refine W_le (Le.of_eq (by simp; rfl)) ?_
      refine W_reg (jt 1 (k:=(jc [0] (c:=(by apply ct_impl_reader_want <;> first | assumption | omega | (simp at *; omega) | simp_all)) (a:=cb_impl_reader_want) (k:=jf)))) ?_
      refine W_endR2 (by simp [h1]; rfl) (by rfl) (.of_eq ?_) ?_
      all_goals clear hX
      · skip
        rfl
      · skip
        cases b
        · have hnm := hnm rfl
          by_cases hip : i = p <;> by_cases h9 : isAt t i 59 = true <;> simp_all [hit]
        · simp_all [hit]
end Go.Proofs
namespace Go.Proofs
open Go Go.Ev


theorem cb_impl_reader_kind : Callable Tryz.prog 139 := ⟨_, Tryz.func139, by kernel_rfl, by kernel_rfl⟩
theorem ct_impl_reader_kind {t : Str} {p : Nat} (ht : t.length ≤ 1099511627776) (hp : p ≤ t.length) : Ct Tryz.prog 139 [.ptr 0 0 0] [rdr t p false] (.str (if (tyP t p).2 = true then seg t p (tyP t p).1 else [])) [rdr t (tyP t p).1 (!(tyP t p).2)] := by
  refine Ct_bodyS tok Tryz.func139 rfl 35 (by kernel_rfl) (by kernel_rfl) fun X hX => ?_
  refine jq [0] ?_
  refine jq [0, 3] ?_
  refine W_rseqK [0, 3] (jt 1 (k:=(jc [0] (c:=(by apply ct_impl_reader_take <;> first | assumption | omega | (simp [*] <;> omega) | simp_all)) (a:=cb_impl_reader_take) (k:=jf)))) ?_
  obtain ⟨q, hq, hqt, hql, hpq⟩ : ∃ q, adv (isAt t p 91) p = q ∧ tyP t p = tyP1 t q ∧ q ≤ t.length ∧ p ≤ q := ⟨_, rfl, by simp only [tyP]; split <;> simp_all, by have := @adv_le t p 91; omega, by have := @adv_le t p 91; omega⟩
  refine W_le (Le.of_eq (by simp [hq]; rfl)) ?_
  refine W_seq (W_block (W_rseqK [0, 3, 13] (jt 1 (k:=(jc [0] (c:=(by apply ct_impl_reader_take <;> first | assumption | omega | (simp [*] <;> omega) | simp_all)) (a:=cb_impl_reader_take) (k:=jr)))) ?_))
  refine jd (fun h4 => ?_) (fun h4 => ?_)
  · try simp at h4
    have h4l := lt_of_isAt h4
    have s1 : q + 1 ≤ t.length := h4l
    have s2 : p ≤ q + 1 := by omega
    refine W_skip (W_seq (W_rseqK [0, 3, 24] (jh hX (by simp [h4, s1, s2]; rfl)) ?_))
    refine jd (fun h7 => ?_) (fun h7 => ?_)
    · try simp at h7
      all_goals
        refine jq [2] ?_
        refine W_ret (W_retR2 (by simp [h4, s1, s2]; rfl) (by rfl) (.of_eq ?_) ?_)
        all_goals clear hX
        · skip
          simp_all [tyP1, seg]
        · skip
          simp_all [tyP1]
    · try simp at h7
      all_goals
        refine W_skip (jD [2] (jQ (by simp [h4, s1, s2]; rfl)) ?_)
        refine W_ret (W_retR2 (by simp [h4, s1, s2]; rfl) (by rfl) (.of_eq ?_) ?_)
        all_goals clear hX
        · skip
          simp_all [tyP1, seg]
        · skip
          simp_all [tyP1]
  · try simp at h4
    skip
    refine W_rseqK [0, 3, 16] (jt 1 (k:=(Runs.call [0] rfl (by simp) rfl (by simp [h4]; rfl) (by simp; rfl) (by apply ct_impl_reader_take <;> first | assumption | omega | (simp [*] <;> omega) | simp_all) cb_impl_reader_take (by simp) (by simp) (by simp [h4]; rfl) jr))) ?_
    refine jd (fun h5 => ?_) (fun h5 => ?_)
    · try simp at h5
      have h5l := lt_of_isAt h5
      have hnl := nmP_le (t := t) (p := q + 1) (by omega)
      have s1 := hnl.2.1
      have s2 : p ≤ (nmP t (q + 1)).1 := by omega
      refine W_reg (jt 1 (k:=(Runs.call [0] rfl (by simp) rfl (by simp [h4, h5, s1, s2]; rfl) (by simp; rfl) (by apply ct_impl_reader_name <;> first | assumption | omega | (simp [*] <;> omega) | simp_all) cb_impl_reader_name (by simp) (by simp) (by simp [h4, h5, s1, s2]; rfl) jf))) ?_
      refine W_seq (W_rseqK [0, 3, 24] (jh hX (by simp [h4, h5, s1, s2]; rfl)) ?_)
      refine jd (fun h7 => ?_) (fun h7 => ?_)
      · try simp at h7
        all_goals
          refine jq [2] ?_
          refine W_ret (W_retR2 (by simp [h4, h5, s1, s2]; rfl) (by rfl) (.of_eq ?_) ?_)
          all_goals clear hX
          · skip
            simp_all [tyP1, seg]
          · skip
            simp_all [tyP1]
      · try simp at h7
        all_goals
          refine W_skip (jD [2] (jQ (by simp [h4, h5, s1, s2]; rfl)) ?_)
          refine W_ret (W_retR2 (by simp [h4, h5, s1, s2]; rfl) (by rfl) (.of_eq ?_) ?_)
          all_goals clear hX
          · skip
            simp_all [tyP1, seg]
          · skip
            simp_all [tyP1]
    · try simp at h5
      skip
      refine W_reg (jh hX (by simp [h4, h5]; rfl)) ?_
      refine W_seq (W_rseqK [0, 3, 24] (jh hX (by simp [h4, h5]; rfl)) ?_)
      refine jd (fun h7 => ?_) (fun h7 => ?_)
      · try simp at h7
        all_goals
          refine jq [2] ?_
          refine W_ret (W_retR2 (by simp [h4, h5]; rfl) (by rfl) (.of_eq ?_) ?_)
          all_goals clear hX
          · skip
            simp_all [tyP1, seg]
          · skip
            simp_all [tyP1]
      · try simp at h7
        all_goals
          refine W_skip (jD [2] (jQ (by simp [h4, h5]; rfl)) ?_)
          refine W_ret (W_retR2 (by simp [h4, h5]; rfl) (by rfl) (.of_eq ?_) ?_)
          all_goals clear hX
          · skip
            simp_all [tyP1, seg]
          · skip
            simp_all [tyP1]
end Go.Proofs
namespace Go.Proofs
open Go Go.Ev


theorem cb_impl_typeRight : Callable Tryz.prog 77 := ⟨_, Tryz.func77, by kernel_rfl, by kernel_rfl⟩
theorem ct_impl_typeRight {t : Str} (ht : t.length ≤ 1099511627776) : Ct Tryz.prog 77 [.str t] [] (.bool (typeRight t)) [] := by
  refine Ct_bodyS tok Tryz.func77 rfl 23 (by kernel_rfl) (by kernel_rfl) fun X hX => ?_
  refine jq [0] ?_
  refine jq [0, 3] ?_
  refine W_rseqK [0, 3] (jt 1 (k:=(jc [0] (c:=(by apply ct_impl_reader_kind <;> first | assumption | omega | (simp at *; omega) | simp_all)) (a:=cb_impl_reader_kind) (k:=jf)))) ?_
  refine jD [2] (jS 6 (by simp; rfl) (jM 8 14 [22] (p:=fun b3_6 => by (try simp at b3_6); exact (jS 5 (by simp [-atD_lt, -atL_lt]; rfl) (jC (c:=by apply ct_impl_length <;> first | assumption | omega | (simp at *; omega) | simp_all) (a:=cb_impl_length) (k:=(jQ (by simp [-atD_lt, -atL_lt]; rfl)))))) (q:=fun b3_6 => by (try simp at b3_6); exact (jQ (by simp [-atD_lt, -atL_lt]; rfl))) (k:=(jQ (by simp; rfl))))) ?_
  refine W_ret (je0 ?_)
  have := @tyP_le t 0 (by omega)
  simp only [typeRight]
  cases (tyP t 0).2 <;> simp
  omega
end Go.Proofs
namespace Go.Proofs
open Go Go.Ev


theorem cb_impl_within : Callable Tryz.prog 79 := ⟨_, Tryz.func79, by kernel_rfl, by kernel_rfl⟩
theorem ct_impl_within {n a b : Int} : Ct Tryz.prog 79 [.int .i64 n, .int .i64 a, .int .i64 b] [] (.bool (decide (a ≤ n ∧ n ≤ b))) [] := by
  refine Ct_bodyS tok Tryz.func79 rfl 15 (by kernel_rfl) (by kernel_rfl) fun X hX => ?_
  refine jq [0, 1, 2] ?_
  refine W_rseqK [6] (jt 4 (k:=(jm 4 10 [14] (p:=fun b1_4 => by (try simp at b1_4); exact (jh hX (by simp [-atD_lt, -atL_lt]; rfl))) (q:=fun b1_4 => by (try simp at b1_4); exact (jh hX (by simp [-atD_lt, -atL_lt]; rfl))) (k:=jr)))) ?_
  refine W_ret (je0 ?_)
  (try simp_all) <;> grind
end Go.Proofs
namespace Go.Proofs
open Go Go.Ev


theorem cb_impl_NameRight : Callable Tryz.prog 209 := ⟨_, Tryz.func209, by kernel_rfl, by kernel_rfl⟩
theorem ct_impl_NameRight {t : Str} (ht : t.length ≤ 1099511627776) : Ct Tryz.prog 209 [.str t] [] (.bool (nameRight t)) [] := by
  refine Ct_bodyS tok Tryz.func209 rfl 19 (by kernel_rfl) (by kernel_rfl) fun X hX => ?_
  refine jq [0] ?_
  refine W_seq (jq [0, 5, 6] ?_)
  refine W_block (W_loopU (α := Nat) [0, 5, 6] (fun i => [(6, .int .i64 i)]) (fun i => []) (fun i => i ≤ t.length ∧ nameFrom (decide (i = 0)) (t.drop i) = nameFrom true t) (fun i => t.length - i) (0) (fun i => by simp; rfl) (by simp) ?_ ?_)
  · simp
  rintro i ⟨hi, hI⟩
  refine jq [0, 5, 6, 7] ?_
  refine W_seq (jd (fun h2 => ?_) (fun h2 => ?_))
  · try simp at h2
    rw [List.drop_eq_getElem_cons h2] at hI
    simp only [nameFrom] at hI
    refine W_skip (W_seq (W_block (jq [0, 3, 5, 6] ?_)))
    refine W_rseqK [0, 5, 6, 14] (js hX 4 (by simp [h2]; rfl) (jc [] (c:=(by apply ct_impl_isNameByte <;> first | assumption | omega | (simp at *; omega) | simp_all)) (a:=cb_impl_isNameByte) (k:=jr))) ?_
    refine jd (fun h4 => ?_) (fun h4 => ?_)
    · try simp at h4
      refine jq [2] ?_
      refine W_ret (je (by simp [h2]; rfl) ?_)
      rw [nameRight, ← hI, h4]; simp
    · try simp at h4
      rw [h4, Bool.true_and] at hI
      refine W_skip (W_reg (jh hX (by simp; (try (simp (disch := omega) only [wrap_i64]; (try simp))); rfl)) ?_)
      refine round_end (i + 1) [0, 5, 6] (by simp [h2]; try (simp (disch := omega) only [wrap_i64])) ?_ ?_
      · exact ⟨by omega, by simpa using hI⟩
      · omega
  · try simp at h2
    rw [List.drop_eq_nil_of_le h2] at hI
    simp only [nameFrom] at hI
    refine W_exit (W_rseqK [2] (jt 1 (k:=(jc [] (c:=(by apply ct_impl_length <;> first | assumption | omega | (simp at *; omega) | simp_all)) (a:=cb_impl_length) (k:=(jc [] (c:=(by apply ct_impl_within <;> first | assumption | omega | (simp at *; omega) | simp_all)) (a:=cb_impl_within) (k:=jr)))))) ?_)
    refine W_ret (je (by simp [h2]; rfl) ?_)
    rw [nameRight, ← hI]; simp
end Go.Proofs
namespace Go.Proofs
open Go Go.Ev


theorem cb_impl_Class_fieldAt_1 : Callable Tryz.prog 254 := ⟨_, Tryz.func254, by kernel_rfl, by kernel_rfl⟩
theorem ct_impl_Class_fieldAt_1 {x : Fld} {n : Str} : Ct Tryz.prog 254 [eF x, .fp [.str n]] [] (.bool (decide (x.name = n))) [] := by
  refine Ct_bodyS tok Tryz.func254 rfl 8 (by kernel_rfl) (by kernel_rfl) fun X hX => ?_
  refine jq [1, 2] ?_
  refine jq [3] ?_
  refine W_ret (je0 ?_)
  simp_all
end Go.Proofs
namespace Go.Proofs
open Go Go.Ev


theorem cb_slices_IndexFunc_impl_Field_impl_Field : Callable Tryz.prog 253 := ⟨_, Tryz.func253, by kernel_rfl, by kernel_rfl⟩
theorem ct_slices_IndexFunc_impl_Field_impl_Field {n : Str} {l : List Fld} (hl : l.length ≤ 1099511627776) : Ct Tryz.prog 253 [.lst false 3 (l.map eF), .clo (.func 254) [] [.fp [.str n]]] [] (.int .i64 (fix (fun x => decide (x.name = n)) l)) [] := by
  refine Ct_bodyS tok Tryz.func253 rfl 19 (by kernel_rfl) (by kernel_rfl) fun X hX => ?_
  refine jq [0, 1] ?_
  refine W_seq (jq [0, 1, 7, 8] ?_)
  refine W_block (W_loopU (α := Nat) [0, 1, 7, 8] (fun i => [(8, .int .i64 i)]) (fun i => []) (fun i => i ≤ l.length ∧ ∀ x ∈ l.take i, (fun x => decide (x.name = n)) x = false) (fun i => l.length - i) (0) (fun i => by simp; rfl) (by simp) ?_ ?_)
  · simp
  rintro i ⟨hi, hI⟩
  refine jq [0, 1, 7, 8, 9] ?_
  refine W_seq (jd (fun h2 => ?_) (fun h2 => ?_))
  · try simp at h2
    refine W_skip (W_seq (W_block (jq [0, 1, 5, 7, 8] ?_)))
    refine W_rseqK [0, 1, 5, 7, 8, 16] (js hX 5 (by simp [h2]; rfl) (jc [] (c:=(by apply ct_impl_Class_fieldAt_1 <;> first | assumption | exact hs _ (List.getElem_mem h2) | omega)) (a:=cb_impl_Class_fieldAt_1) (k:=jf))) ?_
    refine jd (fun h4 => ?_) (fun h4 => ?_)
    · try simp at h4
      refine jq [4] ?_
      refine W_ret (je (by simp [h2]; rfl) ?_)
      rw [fix_hit h2 hI (by simpa using h4)]
    · try simp at h4
      refine W_skip (W_reg (jh hX (by simp; (try (simp (disch := omega) only [wrap_i64]; (try simp))); rfl)) ?_)
      refine round_end (i + 1) [0, 1, 7, 8] (by simp [h2]; try (simp (disch := omega) only [wrap_i64])) ?_ ?_
      · exact ⟨by omega, take_not h2 hI (by simpa using h4)⟩
      · omega
  · try simp at h2
    refine W_exit (jq [4] ?_)
    refine W_ret (je (by simp [h2]; rfl) ?_)
    rw [fix_none (p := fun x => decide (x.name = n)) (fun x hx => hI x (by rw [List.take_of_length_le h2]; exact hx))]
end Go.Proofs
namespace Go.Proofs
open Go Go.Ev


theorem cb_impl_Class_fieldAt : Callable Tryz.prog 210 := ⟨_, Tryz.func210, by kernel_rfl, by kernel_rfl⟩
theorem ct_impl_Class_fieldAt {x : Cls} {n : Str} (h : x.fields.length ≤ 1099511627776) : Ct Tryz.prog 210 [eC x, .str n] [] (.int .i64 (fix (fun f => decide (f.name = n)) x.fields)) [] := by
  refine Ct_bodyS tok Tryz.func210 rfl 9 (by kernel_rfl) (by kernel_rfl) fun X hX => ?_
  refine jq [2, 3] ?_
  refine W_rseqK [4] (jt 3 (k:=(jB (c:=(by apply ct_slices_IndexFunc_impl_Field_impl_Field <;> first | assumption | omega | (simp at *; omega) | simp_all)) (a:=cb_slices_IndexFunc_impl_Field_impl_Field) (k:=jr)))) ?_
  refine W_ret (je0 ?_)
  simp_all
end Go.Proofs
namespace Go.Proofs
open Go Go.Ev


theorem cb_impl_descRead : Callable Tryz.prog 214 := ⟨_, Tryz.func214, by kernel_rfl, by kernel_rfl⟩
theorem ct_impl_descRead {t : Str} (ht : t.length ≤ 1099511627776) : Ct Tryz.prog 214 [.str t] [] (eDO (dRead t)) [] := by
  refine Ct_bodyS tok Tryz.func214 rfl 66 (by kernel_rfl) (by kernel_rfl) fun X hX => ?_
  refine jq [0, 2] ?_
  refine jq [0, 2, 3, 4] ?_
  refine W_rseqK [0, 2, 3, 4] (jt 1 (k:=(jc [1] (c:=(by apply ct_impl_reader_want <;> first | assumption | omega | (simp [*] <;> omega) | (simp <;> omega))) (a:=cb_impl_reader_want) (k:=jf)))) ?_
  refine W_seq (W_block (W_le (Le.nilC 2 0 0 1 (by simp; rfl)) ?_))
  refine W_loopU (α := List Str × Nat × Bool) [0, 2, 3, 4] (fun a => []) (fun a => [(1, rdr t a.2.1 a.2.2), (2, some (2, [.agg [.arr 3 0 a.1.length, .str []]])), (3, some (1, a.1.map V.str))]) (fun a => a.2.1 ≤ t.length ∧ a.1.length ≤ 8 ∧ (a.2.2 = true → dRead t = dErr a.2.1) ∧ (a.2.2 = false → isAt t 0 40 = true ∧ dParams t (8 - a.1.length) a.2.1 a.1 = dParams t 8 1 [])) (fun a => 8 - a.1.length) (([], adv (isAt t 0 40) 0, !isAt t 0 40)) (fun a => by simp; rfl) (by simp) ?_ ?_
  · have h9 := @adv_le t 0 40
    refine ⟨by simp; omega, by simp, ?_, ?_⟩
    · intro h; simp at h; simp [dRead, h]
    · intro h; simp at h; simp [h]
  rintro ⟨ps, p, b⟩ ⟨hp, hn, hE, hI⟩
  simp only at hp hn hE hI
  cases b
  all_goals
    refine W_seq ?_
    first | (refine W_rseqK [0, 2, 3, 4, 20] (jt 7 (k:=(jc [1] (c:=(by apply ct_impl_reader_take <;> first | assumption | omega | (simp [*] <;> omega) | (simp <;> omega))) (a:=cb_impl_reader_take) (k:=jr)))) ?_) | (refine jq [0, 2, 3, 4, 20] ?_) | (refine W_rseqK [0, 2, 3, 4, 20] (jt 6 (k:=(jm 4 16 [0, 2, 3, 4, 20] (p:=fun b3_6 => by (try simp at b3_6); exact (js hX 1 (by simp [-atD_lt, -atL_lt]; rfl) (Runs.call [1] rfl (by simp) rfl (by simp [-atD_lt, -atL_lt]; rfl) (by simp; rfl) (by apply ct_impl_reader_take <;> first | assumption | omega | (simp [*] <;> omega) | (simp <;> omega)) cb_impl_reader_take (by simp) (by simp) (by simp [-atD_lt, -atL_lt]; rfl) (jh hX (by simp [-atD_lt, -atL_lt]; rfl))))) (q:=fun b3_6 => by (try simp at b3_6); exact (jh hX (by simp [-atD_lt, -atL_lt]; rfl))) (k:=jf)))) ?_)
    refine jd (fun h3 => ?_) (fun h3 => ?_)
    · try simp at h3
      all_goals
        have h3b : isAt t p 41 = false := by simpa using h3
        obtain ⟨hI1, hI⟩ := hI rfl
        have w1 : (ps.length + 1) * 16 ≤ 140737488355328 := by omega
        have w2 : ps.length ≤ 1099511627775 := by omega
        refine W_skip (W_block (W_seq (W_rseqK [0, 2, 3, 4, 24] (jh hX (by simp [h3b, w1, w2]; rfl)) ?_)))
        refine jd (fun h4 => ?_) (fun h4 => ?_)
        · try simp at h4
          have h4b : 8 - ps.length = 0 := by omega
          rw [h4b, dParams, if_neg (by simp [h3b])] at hI
          have hd : dRead t = dErr p := dRead_err hI1 hI.symm
          refine W_rseqK [0, 2, 3, 4] (jh hX (by simp [h3b, w1, w2]; rfl)) ?_
          refine W_exit (W_seq (W_rseqK [0, 2, 3, 4, 36] (jt 1 (k:=(jc [1] (c:=(by apply ct_impl_reader_take <;> first | assumption | omega | (simp [*] <;> omega) | (simp <;> omega))) (a:=cb_impl_reader_take) (k:=jf)))) ?_))
          refine jd (fun h7 => ?_) (fun h7 => ?_)
          · try simp at h7
            all_goals
              have h7b : isAt t (p + 1) 86 = true := by simpa [h3b] using h7
              have w2 := lt_of_isAt h7b
              refine W_reg (jh hX (by simp [h3b, w1, w2, h7b, w2]; rfl)) ?_
              refine W_seq ?_
              first | (refine jD [2, 3, 4, 58] (jQ (by simp [h3b, w1, w2, h7b, w2]; rfl)) ?_) | (refine jD [2, 3, 4, 58] (jS 10 (by simp [h3b, w1, w2, h7b, w2]; rfl) (jC (c:=by apply ct_impl_length <;> first | assumption | omega | (simp [*] <;> omega) | (simp <;> omega)) (a:=cb_impl_length) (k:=(jQ (by simp; rfl))))) ?_) | (refine jD [2, 3, 4, 58] (jS 5 (by simp [h3b, w1, w2, h7b, w2]; rfl) (jM 8 50 [2, 3, 4, 58] (p:=fun b11_5 => by (try simp at b11_5); exact (jQ (by simp [-atD_lt, -atL_lt]; rfl))) (q:=fun b11_5 => by (try simp at b11_5); exact (jS 5 (by simp [-atD_lt, -atL_lt, h3b, w1, w2, h7b, w2]; rfl) (jC (c:=by apply ct_impl_length <;> first | assumption | omega | (simp [*] <;> omega) | (simp <;> omega)) (a:=cb_impl_length) (k:=(jQ (by simp [-atD_lt, -atL_lt]; rfl)))))) (k:=(RunsQ.fin (by (try simp); rfl))))) ?_)
              refine jd (fun h11 => ?_) (fun h11 => ?_)
              · try simp at h11
                all_goals
                  refine W_rseqK [2] (jh hX (by simp [h3b, w1, w2, h7b, w2, h11]; rfl)) ?_
                  refine W_ret (W_retR (by simp [h3b, w1, w2, h7b, w2, h11]; rfl) ?_ rfl)
                  first
                    | (rw [hd]; exact wk_err _ _ _)
                    | (rw [hE rfl]; exact wk_err _ _ _)
                    | (rw [hd, show dTail t ps p = dErr (p + 2) from by simp only [dTail, h7b, if_true]; rw [if_pos (by omega)]]; exact wk_err _ _ _)
                    | (rw [hd, show dTail t ps p = dErr (tyP t (p + 1)).1 from by simp only [dTail, h7b, Bool.false_eq_true, if_false]; grind]; exact wk_err _ _ _)
              · try simp at h11
                all_goals
                  refine W_skip (W_rseqK [2] (jh hX (by simp [h3b, w1, w2, h7b, w2, h11]; rfl)) ?_)
                  refine W_ret (W_retR (by simp [h3b, w1, w2, h7b, w2, h11]; rfl) ?_ rfl)
                  first
                    | (rw [hd, show dTail t ps p = ⟨ps, [86], 0, 0⟩ from by simp only [dTail, h7b, if_true]; rw [if_neg (by omega)]]; exact Wk.refl _)
                    | (rw [hd, show dTail t ps p = ⟨ps, seg t (p + 1) (tyP t (p + 1)).1, 0, 0⟩ from by simp only [dTail, h7b, Bool.false_eq_true, if_false]; grind]; exact Wk.refl _)
          · try simp at h7
            all_goals
              first
                | (have h7b : isAt t (p + 1) 86 = false := by simpa [h3b] using h7)
                | have h7b := trivial
              refine W_rseqK [0, 2, 3, 4, 42] (jh hX (by simp [h3b, w1, w2, h7b]; rfl)) ?_
              refine jd (fun h9 => ?_) (fun h9 => ?_)
              · try simp at h9
                all_goals
                  refine W_reg (jt 1 (k:=(jc [1] (c:=(by apply ct_impl_reader_kind <;> first | assumption | omega | (simp [*] <;> omega) | (simp <;> omega))) (a:=cb_impl_reader_kind) (k:=(jh hX (by simp [h3b, w1, w2, h7b]; rfl)))))) ?_
                  refine W_seq ?_
                  first | (refine jD [2, 3, 4, 58] (jQ (by simp [h3b, w1, w2, h7b]; rfl)) ?_) | (refine jD [2, 3, 4, 58] (jS 10 (by simp [h3b, w1, w2, h7b]; rfl) (jC (c:=by apply ct_impl_length <;> first | assumption | omega | (simp [*] <;> omega) | (simp <;> omega)) (a:=cb_impl_length) (k:=(jQ (by simp; rfl))))) ?_) | (refine jD [2, 3, 4, 58] (jS 5 (by simp [h3b, w1, w2, h7b]; rfl) (jM 8 50 [2, 3, 4, 58] (p:=fun b11_5 => by (try simp at b11_5); exact (jQ (by simp [-atD_lt, -atL_lt]; rfl))) (q:=fun b11_5 => by (try simp at b11_5); exact (jS 5 (by simp [-atD_lt, -atL_lt, h3b, w1, w2, h7b]; rfl) (jC (c:=by apply ct_impl_length <;> first | assumption | omega | (simp [*] <;> omega) | (simp <;> omega)) (a:=cb_impl_length) (k:=(jQ (by simp [-atD_lt, -atL_lt]; rfl)))))) (k:=(RunsQ.fin (by (try simp); rfl))))) ?_)
                  refine jd (fun h11 => ?_) (fun h11 => ?_)
                  · try simp at h11
                    all_goals
                      refine W_rseqK [2] (jh hX (by simp [h3b, w1, w2, h7b, h11]; rfl)) ?_
                      refine W_ret (W_retR (by simp [h3b, w1, w2, h7b, h11]; rfl) ?_ rfl)
                      first
                        | (rw [hd]; exact wk_err _ _ _)
                        | (rw [hE rfl]; exact wk_err _ _ _)
                        | (rw [hd, show dTail t ps p = dErr (p + 2) from by simp only [dTail, h7b, if_true]; rw [if_pos (by omega)]]; exact wk_err _ _ _)
                        | (rw [hd, show dTail t ps p = dErr (tyP t (p + 1)).1 from by simp only [dTail, h7b, Bool.false_eq_true, if_false]; grind]; exact wk_err _ _ _)
                  · try simp at h11
                    all_goals
                      refine W_skip (W_rseqK [2] (jh hX (by simp [h3b, w1, w2, h7b, h11]; rfl)) ?_)
                      refine W_ret (W_retR (by simp [h3b, w1, w2, h7b, h11]; rfl) ?_ rfl)
                      first
                        | (rw [hd, show dTail t ps p = ⟨ps, [86], 0, 0⟩ from by simp only [dTail, h7b, if_true]; rw [if_neg (by omega)]]; exact Wk.refl _)
                        | (rw [hd, show dTail t ps p = ⟨ps, seg t (p + 1) (tyP t (p + 1)).1, 0, 0⟩ from by simp only [dTail, h7b, Bool.false_eq_true, if_false]; grind]; exact Wk.refl _)
              · try simp at h9
                all_goals
                  refine W_skip (W_seq ?_)
                  first | (refine jD [2, 3, 4, 58] (jQ (by simp [h3b, w1, w2, h7b]; rfl)) ?_) | (refine jD [2, 3, 4, 58] (jS 10 (by simp [h3b, w1, w2, h7b]; rfl) (jC (c:=by apply ct_impl_length <;> first | assumption | omega | (simp [*] <;> omega) | (simp <;> omega)) (a:=cb_impl_length) (k:=(jQ (by simp; rfl))))) ?_) | (refine jD [2, 3, 4, 58] (jS 5 (by simp [h3b, w1, w2, h7b]; rfl) (jM 8 50 [2, 3, 4, 58] (p:=fun b11_5 => by (try simp at b11_5); exact (jQ (by simp [-atD_lt, -atL_lt]; rfl))) (q:=fun b11_5 => by (try simp at b11_5); exact (jS 5 (by simp [-atD_lt, -atL_lt, h3b, w1, w2, h7b]; rfl) (jC (c:=by apply ct_impl_length <;> first | assumption | omega | (simp [*] <;> omega) | (simp <;> omega)) (a:=cb_impl_length) (k:=(jQ (by simp [-atD_lt, -atL_lt]; rfl)))))) (k:=(RunsQ.fin (by (try simp); rfl))))) ?_)
                  refine jd (fun h11 => ?_) (fun h11 => ?_)
                  · try simp at h11
                    all_goals
                      refine W_rseqK [2] (jh hX (by simp [h3b, w1, w2, h7b, h11]; rfl)) ?_
                      refine W_ret (W_retR (by simp [h3b, w1, w2, h7b, h11]; rfl) ?_ rfl)
                      first
                        | (rw [hd]; exact wk_err _ _ _)
                        | (rw [hE rfl]; exact wk_err _ _ _)
                        | (rw [hd, show dTail t ps p = dErr (p + 2) from by simp only [dTail, h7b, if_true]; rw [if_pos (by omega)]]; exact wk_err _ _ _)
                        | (rw [hd, show dTail t ps p = dErr (tyP t (p + 1)).1 from by simp only [dTail, h7b, Bool.false_eq_true, if_false]; grind]; exact wk_err _ _ _)
                  · try simp at h11
                    all_goals
                      refine W_skip (W_rseqK [2] (jh hX (by simp [h3b, w1, w2, h7b, h11]; rfl)) ?_)
                      refine W_ret (W_retR (by simp [h3b, w1, w2, h7b, h11]; rfl) ?_ rfl)
                      first
                        | (rw [hd, show dTail t ps p = ⟨ps, [86], 0, 0⟩ from by simp only [dTail, h7b, if_true]; rw [if_neg (by omega)]]; exact Wk.refl _)
                        | (rw [hd, show dTail t ps p = ⟨ps, seg t (p + 1) (tyP t (p + 1)).1, 0, 0⟩ from by simp only [dTail, h7b, Bool.false_eq_true, if_false]; grind]; exact Wk.refl _)
        · try simp at h4
          have h4b : 8 - ps.length = (8 - (ps.length + 1)) + 1 := by omega
          rw [h4b, dParams, if_neg (by simp [h3b])] at hI
          obtain ⟨hge, hle, hgt, _⟩ := tyP_le hp
          have hE3 : (!(tyP t p).2) = true → dRead t = dErr (tyP t p).1 := by
            intro h; rw [if_neg (by simpa using h)] at hI; exact dRead_err hI1 hI.symm
          have hI3 : (!(tyP t p).2) = false → isAt t 0 40 = true ∧ dParams t (8 - (ps ++ [if (tyP t p).2 = true then seg t p (tyP t p).1 else []]).length) (tyP t p).1 (ps ++ [if (tyP t p).2 = true then seg t p (tyP t p).1 else []]) = dParams t 8 1 [] := by
            intro h; have h : (tyP t p).2 = true := by simpa using h
            rw [if_pos h] at hI ⊢; refine ⟨hI1, ?_⟩; rw [← hI]; simp
          refine W_skip (W_held (n := 5) (A := [0, 1, 2]) (B := [3, 4]) (L := [2]) hmo (by kernel_rfl) tok hX (by simp [h3b, w1, w2]; rfl) (jH (p:=fun X hX => (jc [1] (c:=(by apply ct_impl_reader_kind <;> first | assumption | omega | (simp [*] <;> omega) | (simp <;> omega))) (a:=cb_impl_reader_kind) (k:=jf))) (k:=(jH (p:=fun X hX => jr) (k:=.nil)))) (jh hX (by simp [h3b, w1, w2]; rfl)) ?_)
          refine round_endT ((ps ++ [if (tyP t p).2 = true then seg t p (tyP t p).1 else []], (tyP t p).1, !(tyP t p).2)) [0, 2, 3, 4] 4 (by simp [hX]) (by simp) (by simp [h3b, w1, w2]; try (simp (disch := omega) only [wrap_i64])) ?_ ?_
          · exact ⟨hle, by simp; omega, hE3, hI3⟩
          · simp; omega
    · try simp at h3
      all_goals
        first
          | (have h3b : isAt t p 41 = true := by simpa using h3
             have hI1 := (hI rfl).1
             have hI := (hI rfl).2
             have hd : dRead t = dTail t ps p := dRead_ok hI1 (by rw [← hI]; cases 8 - ps.length <;> simp [dParams, h3b])
             have w0 : p + 1 ≤ t.length := lt_of_isAt h3b
             have w1 := tyP_le w0)
          | (have h3b := trivial
             have w0 := trivial
             have w1 := trivial)
        refine W_exit (W_seq (W_rseqK [0, 2, 3, 4, 36] (jt 1 (k:=(jc [1] (c:=(by apply ct_impl_reader_take <;> first | assumption | omega | (simp [*] <;> omega) | (simp <;> omega))) (a:=cb_impl_reader_take) (k:=jf)))) ?_))
        refine jd (fun h7 => ?_) (fun h7 => ?_)
        · try simp at h7
          all_goals
            have h7b : isAt t (p + 1) 86 = true := by simpa [h3b] using h7
            have w2 := lt_of_isAt h7b
            refine W_reg (jh hX (by simp [h3b, w0, w1, h7b, w2]; rfl)) ?_
            refine W_seq ?_
            first | (refine jD [2, 3, 4, 58] (jQ (by simp [h3b, w0, w1, h7b, w2]; rfl)) ?_) | (refine jD [2, 3, 4, 58] (jS 10 (by simp [h3b, w0, w1, h7b, w2]; rfl) (jC (c:=by apply ct_impl_length <;> first | assumption | omega | (simp [*] <;> omega) | (simp <;> omega)) (a:=cb_impl_length) (k:=(jQ (by simp; rfl))))) ?_) | (refine jD [2, 3, 4, 58] (jS 5 (by simp [h3b, w0, w1, h7b, w2]; rfl) (jM 8 50 [2, 3, 4, 58] (p:=fun b11_5 => by (try simp at b11_5); exact (jQ (by simp [-atD_lt, -atL_lt]; rfl))) (q:=fun b11_5 => by (try simp at b11_5); exact (jS 5 (by simp [-atD_lt, -atL_lt, h3b, w0, w1, h7b, w2]; rfl) (jC (c:=by apply ct_impl_length <;> first | assumption | omega | (simp [*] <;> omega) | (simp <;> omega)) (a:=cb_impl_length) (k:=(jQ (by simp [-atD_lt, -atL_lt]; rfl)))))) (k:=(RunsQ.fin (by (try simp); rfl))))) ?_)
            refine jd (fun h11 => ?_) (fun h11 => ?_)
            · try simp at h11
              all_goals
                refine W_rseqK [2] (jh hX (by simp [h3b, w0, w1, h7b, w2, h11]; rfl)) ?_
                refine W_ret (W_retR (by simp [h3b, w0, w1, h7b, w2, h11]; rfl) ?_ rfl)
                first
                  | (rw [hd]; exact wk_err _ _ _)
                  | (rw [hE rfl]; exact wk_err _ _ _)
                  | (rw [hd, show dTail t ps p = dErr (p + 2) from by simp only [dTail, h7b, if_true]; rw [if_pos (by omega)]]; exact wk_err _ _ _)
                  | (rw [hd, show dTail t ps p = dErr (tyP t (p + 1)).1 from by simp only [dTail, h7b, Bool.false_eq_true, if_false]; grind]; exact wk_err _ _ _)
            · try simp at h11
              all_goals
                refine W_skip (W_rseqK [2] (jh hX (by simp [h3b, w0, w1, h7b, w2, h11]; rfl)) ?_)
                refine W_ret (W_retR (by simp [h3b, w0, w1, h7b, w2, h11]; rfl) ?_ rfl)
                first
                  | (rw [hd, show dTail t ps p = ⟨ps, [86], 0, 0⟩ from by simp only [dTail, h7b, if_true]; rw [if_neg (by omega)]]; exact Wk.refl _)
                  | (rw [hd, show dTail t ps p = ⟨ps, seg t (p + 1) (tyP t (p + 1)).1, 0, 0⟩ from by simp only [dTail, h7b, Bool.false_eq_true, if_false]; grind]; exact Wk.refl _)
        · try simp at h7
          all_goals
            first
              | (have h7b : isAt t (p + 1) 86 = false := by simpa [h3b] using h7)
              | have h7b := trivial
            refine W_rseqK [0, 2, 3, 4, 42] (jh hX (by simp [h3b, w0, w1, h7b]; rfl)) ?_
            refine jd (fun h9 => ?_) (fun h9 => ?_)
            · try simp at h9
              all_goals
                refine W_reg (jt 1 (k:=(jc [1] (c:=(by apply ct_impl_reader_kind <;> first | assumption | omega | (simp [*] <;> omega) | (simp <;> omega))) (a:=cb_impl_reader_kind) (k:=(jh hX (by simp [h3b, w0, w1, h7b]; rfl)))))) ?_
                refine W_seq ?_
                first | (refine jD [2, 3, 4, 58] (jQ (by simp [h3b, w0, w1, h7b]; rfl)) ?_) | (refine jD [2, 3, 4, 58] (jS 10 (by simp [h3b, w0, w1, h7b]; rfl) (jC (c:=by apply ct_impl_length <;> first | assumption | omega | (simp [*] <;> omega) | (simp <;> omega)) (a:=cb_impl_length) (k:=(jQ (by simp; rfl))))) ?_) | (refine jD [2, 3, 4, 58] (jS 5 (by simp [h3b, w0, w1, h7b]; rfl) (jM 8 50 [2, 3, 4, 58] (p:=fun b11_5 => by (try simp at b11_5); exact (jQ (by simp [-atD_lt, -atL_lt]; rfl))) (q:=fun b11_5 => by (try simp at b11_5); exact (jS 5 (by simp [-atD_lt, -atL_lt, h3b, w0, w1, h7b]; rfl) (jC (c:=by apply ct_impl_length <;> first | assumption | omega | (simp [*] <;> omega) | (simp <;> omega)) (a:=cb_impl_length) (k:=(jQ (by simp [-atD_lt, -atL_lt]; rfl)))))) (k:=(RunsQ.fin (by (try simp); rfl))))) ?_)
                refine jd (fun h11 => ?_) (fun h11 => ?_)
                · try simp at h11
                  all_goals
                    refine W_rseqK [2] (jh hX (by simp [h3b, w0, w1, h7b, h11]; rfl)) ?_
                    refine W_ret (W_retR (by simp [h3b, w0, w1, h7b, h11]; rfl) ?_ rfl)
                    first
                      | (rw [hd]; exact wk_err _ _ _)
                      | (rw [hE rfl]; exact wk_err _ _ _)
                      | (rw [hd, show dTail t ps p = dErr (p + 2) from by simp only [dTail, h7b, if_true]; rw [if_pos (by omega)]]; exact wk_err _ _ _)
                      | (rw [hd, show dTail t ps p = dErr (tyP t (p + 1)).1 from by simp only [dTail, h7b, Bool.false_eq_true, if_false]; grind]; exact wk_err _ _ _)
                · try simp at h11
                  all_goals
                    refine W_skip (W_rseqK [2] (jh hX (by simp [h3b, w0, w1, h7b, h11]; rfl)) ?_)
                    refine W_ret (W_retR (by simp [h3b, w0, w1, h7b, h11]; rfl) ?_ rfl)
                    first
                      | (rw [hd, show dTail t ps p = ⟨ps, [86], 0, 0⟩ from by simp only [dTail, h7b, if_true]; rw [if_neg (by omega)]]; exact Wk.refl _)
                      | (rw [hd, show dTail t ps p = ⟨ps, seg t (p + 1) (tyP t (p + 1)).1, 0, 0⟩ from by simp only [dTail, h7b, Bool.false_eq_true, if_false]; grind]; exact Wk.refl _)
            · try simp at h9
              all_goals
                refine W_skip (W_seq ?_)
                first | (refine jD [2, 3, 4, 58] (jQ (by simp [h3b, w0, w1, h7b]; rfl)) ?_) | (refine jD [2, 3, 4, 58] (jS 10 (by simp [h3b, w0, w1, h7b]; rfl) (jC (c:=by apply ct_impl_length <;> first | assumption | omega | (simp [*] <;> omega) | (simp <;> omega)) (a:=cb_impl_length) (k:=(jQ (by simp; rfl))))) ?_) | (refine jD [2, 3, 4, 58] (jS 5 (by simp [h3b, w0, w1, h7b]; rfl) (jM 8 50 [2, 3, 4, 58] (p:=fun b11_5 => by (try simp at b11_5); exact (jQ (by simp [-atD_lt, -atL_lt]; rfl))) (q:=fun b11_5 => by (try simp at b11_5); exact (jS 5 (by simp [-atD_lt, -atL_lt, h3b, w0, w1, h7b]; rfl) (jC (c:=by apply ct_impl_length <;> first | assumption | omega | (simp [*] <;> omega) | (simp <;> omega)) (a:=cb_impl_length) (k:=(jQ (by simp [-atD_lt, -atL_lt]; rfl)))))) (k:=(RunsQ.fin (by (try simp); rfl))))) ?_)
                refine jd (fun h11 => ?_) (fun h11 => ?_)
                · try simp at h11
                  all_goals
                    refine W_rseqK [2] (jh hX (by simp [h3b, w0, w1, h7b, h11]; rfl)) ?_
                    refine W_ret (W_retR (by simp [h3b, w0, w1, h7b, h11]; rfl) ?_ rfl)
                    first
                      | (rw [hd]; exact wk_err _ _ _)
                      | (rw [hE rfl]; exact wk_err _ _ _)
                      | (rw [hd, show dTail t ps p = dErr (p + 2) from by simp only [dTail, h7b, if_true]; rw [if_pos (by omega)]]; exact wk_err _ _ _)
                      | (rw [hd, show dTail t ps p = dErr (tyP t (p + 1)).1 from by simp only [dTail, h7b, Bool.false_eq_true, if_false]; grind]; exact wk_err _ _ _)
                · try simp at h11
                  all_goals
                    refine W_skip (W_rseqK [2] (jh hX (by simp [h3b, w0, w1, h7b, h11]; rfl)) ?_)
                    refine W_ret (W_retR (by simp [h3b, w0, w1, h7b, h11]; rfl) ?_ rfl)
                    first
                      | (rw [hd, show dTail t ps p = ⟨ps, [86], 0, 0⟩ from by simp only [dTail, h7b, if_true]; rw [if_neg (by omega)]]; exact Wk.refl _)
                      | (rw [hd, show dTail t ps p = ⟨ps, seg t (p + 1) (tyP t (p + 1)).1, 0, 0⟩ from by simp only [dTail, h7b, Bool.false_eq_true, if_false]; grind]; exact Wk.refl _)
end Go.Proofs
namespace Go.Proofs
open Go Go.Ev


theorem cb_impl_isMethodName : Callable Tryz.prog 255 := ⟨_, Tryz.func255, by kernel_rfl, by kernel_rfl⟩
theorem ct_impl_isMethodName {t : Str} (ht : t.length ≤ 1099511627776) : Ct Tryz.prog 255 [.str t] [] (.bool (nameRight t || decide (t = init))) [] := by
  refine Ct_bodyS tok Tryz.func255 rfl 9 (by kernel_rfl) (by kernel_rfl) fun X hX => ?_
  refine jq [0] ?_
  refine W_rseqK [2] (jt 1 (k:=(jc [] (c:=(by apply ct_impl_NameRight <;> first | assumption | omega | (simp at *; omega) | simp_all)) (a:=cb_impl_NameRight) (k:=(jt 1 (k:=(jm 3 5 [8] (p:=fun b1_3 => by (try simp at b1_3); exact (jh hX (by simp [-atD_lt, -atL_lt]; rfl))) (q:=fun b1_3 => by (try simp at b1_3); exact (jh hX (by simp [-atD_lt, -atL_lt]; rfl))) (k:=jr)))))))) ?_
  refine W_ret (je0 ?_)
  (try simp_all [init]) <;> grind
end Go.Proofs
namespace Go.Proofs
open Go Go.Ev


theorem cb_impl_isText : Callable Tryz.prog 75 := ⟨_, Tryz.func75, by kernel_rfl, by kernel_rfl⟩
theorem ct_impl_isText {l : List Str} (hl : l.length ≤ 1099511627776) : Ct Tryz.prog 75 [.lst false 1 (l.map V.str)] [] (.bool (l.all fun t => decide (t.length ≤ 20000))) [] := by
  refine Ct_bodyS tok Tryz.func75 rfl 15 (by kernel_rfl) (by kernel_rfl) fun X hX => ?_
  refine jq [0] ?_
  refine W_seq (jq [5, 6, 7] ?_)
  refine W_block (W_loopU (α := Nat) [5, 6, 7] (fun i => [(7, .int .i64 i)]) (fun i => []) (fun i => i ≤ l.length ∧ (l.drop i).all (fun t => decide (t.length ≤ 20000)) = l.all fun t => decide (t.length ≤ 20000)) (fun i => l.length - i) (0) (fun i => by simp; rfl) (by simp) ?_ ?_)
  · simp
  rintro i ⟨hi, hI⟩
  refine jq [5, 6, 7, 8] ?_
  refine W_seq (jd (fun h2 => ?_) (fun h2 => ?_))
  · try simp at h2
    rw [List.drop_eq_getElem_cons h2] at hI
    simp only [List.all_cons] at hI
    refine W_skip (W_seq (W_block (W_rseqK [4, 5, 6, 7] (jh hX (by simp [h2]; rfl)) ?_)))
    refine W_rseqK [5, 6, 7, 13] (jh hX (by simp [h2]; rfl)) ?_
    refine jd (fun h4 => ?_) (fun h4 => ?_)
    · try simp at h4
      refine jq [2] ?_
      refine W_ret (je (by simp [h2, h4]; rfl) ?_)
      rw [← hI, decide_eq_false (by omega)]; rfl
    · try simp at h4
      rw [decide_eq_true (by omega), Bool.true_and] at hI
      refine W_skip (W_reg (jh hX (by simp; (try (simp (disch := omega) only [wrap_i64]; (try simp))); rfl)) ?_)
      refine round_end (i + 1) [5, 6, 7] (by simp [h2, h4]; try (simp (disch := omega) only [wrap_i64])) ?_ ?_
      · exact ⟨by omega, hI⟩
      · omega
  · try simp at h2
    refine W_exit (jq [2] ?_)
    refine W_ret (je (by simp [h2]; rfl) ?_)
    rw [← hI, List.drop_eq_nil_of_le h2]; rfl
end Go.Proofs
namespace Go.Proofs
open Go Go.Ev


theorem cb_impl_isDesc : Callable Tryz.prog 256 := ⟨_, Tryz.func256, by kernel_rfl, by kernel_rfl⟩
theorem ct_impl_isDesc {t : Str} (ht : t.length ≤ 1099511627776) : Ct Tryz.prog 256 [.str t] [] (.bool (decide ((descRead t).code = 0))) [] := by
  refine Ct_bodyS tok Tryz.func256 rfl 12 (by kernel_rfl) (by kernel_rfl) fun X hX => ?_
  refine jq [0] ?_
  refine W_rseqK [2] (jt 2 (k:=(jB (c:=(by apply (ct_impl_isText (l := [t])) <;> simp)) (a:=cb_impl_isText) (k:=(jt 1 (k:=(jm 5 6 [11] (p:=fun b1_4 => by (try simp at b1_4); exact (js hX 1 (by simp [-atD_lt, -atL_lt]; rfl) (Runs.callF rfl (by simp) rfl (by simp [-atD_lt, -atL_lt]; rfl) (by apply ct_impl_descRead <;> first | assumption | omega | (simp at *; omega) | simp_all) cb_impl_descRead (by simp [-atD_lt, -atL_lt]; rfl) (jh hX (by simp [-atD_lt, -atL_lt]; rfl))))) (q:=fun b1_4 => by (try simp at b1_4); exact (jh hX (by simp [-atD_lt, -atL_lt]; rfl))) (k:=jr)))))))) ?_
  refine W_ret (je0 ?_)
  unfold descRead
  (try simp_all) <;> grind
end Go.Proofs
namespace Go.Proofs
open Go Go.Ev


theorem cb_impl_size_impl_Ins : Callable Tryz.prog 231 := ⟨_, Tryz.func231, by kernel_rfl, by kernel_rfl⟩
theorem ct_impl_size_impl_Ins {l : List Ins} : Ct Tryz.prog 231 [.lst false 5 (l.map eI)] [] (.int .i64 l.length) [] := by
  refine Ct_bodyS tok Tryz.func231 rfl 5 (by kernel_rfl) (by kernel_rfl) fun X hX => ?_
  refine jq [0] ?_
  refine jq [2] ?_
  refine W_ret (je0 ?_)
  simp
end Go.Proofs
namespace Go.Proofs
open Go Go.Ev


theorem cb_impl_isOp : Callable Tryz.prog 276 := ⟨_, Tryz.func276, by kernel_rfl, by kernel_rfl⟩
theorem ct_impl_isOp {n : Int} : Ct Tryz.prog 276 [.int .i64 n] [] (.bool (decide (1 ≤ n ∧ n ≤ 44))) [] := by
  refine Ct_bodyS tok Tryz.func276 rfl 5 (by kernel_rfl) (by kernel_rfl) fun X hX => ?_
  refine jq [0] ?_
  refine W_rseqK [2] (jt 1 (k:=(jc [] (c:=(by apply ct_impl_within <;> first | assumption | omega | (simp at *; omega) | simp_all)) (a:=cb_impl_within) (k:=jr)))) ?_
  refine W_ret (je0 ?_)
  simp
end Go.Proofs
namespace Go.Proofs
open Go Go.Ev


theorem cb_impl_opForms : Callable Tryz.prog 277 := ⟨_, Tryz.func277, by kernel_rfl, by kernel_rfl⟩
theorem ct_impl_opForms  : Ct Tryz.prog 277 [] [] (.lst true 1 (formL.map V.str)) [] := by
  refine Ct_bodyS tok Tryz.func277 rfl 2 (by kernel_rfl) (by kernel_rfl) fun X hX => ?_
  refine jq [] ?_
  refine jq [0] ?_
  refine W_ret (je0 ?_)
  rfl
end Go.Proofs
namespace Go.Proofs
open Go Go.Ev


theorem cb_impl_OpForm : Callable Tryz.prog 267 := ⟨_, Tryz.func267, by kernel_rfl, by kernel_rfl⟩
theorem ct_impl_OpForm {op : Int} : Ct Tryz.prog 267 [.int .i64 op] [] (.str (opForm op)) [] := by
  have hol : formL.length = 44 := rfl
  refine Ct_bodyS tok Tryz.func267 rfl 11 (by kernel_rfl) (by kernel_rfl) fun X hX => ?_
  refine jq [0] ?_
  refine W_seq (W_rseqK [0, 5] (jt 1 (k:=(jc [] (c:=(by apply ct_impl_isOp <;> first | assumption | omega | (simp at *; omega) | simp_all)) (a:=cb_impl_isOp) (k:=jr)))) ?_)
  refine jd (fun h1 => ?_) (fun h1 => ?_)
  · try simp at h1
    refine jq [2] ?_
    refine W_ret (je0 ?_)
    simp only [opForm]; rw [if_pos (by omega)]
  · try simp at h1
    obtain ⟨k, rfl⟩ : ∃ k : Nat, op = (k : Int) + 1 := ⟨(op - 1).toNat, by omega⟩
    have hk : k < formL.length := by rw [hol]; omega
    have hk1 : IntKind.i64.wrap ((k : Int) + 1 - 1) = k := by rw [wrap_i64 (by omega) (by omega)]; omega
    refine W_skip (W_rseqK [2] (jF (c:=(by apply ct_impl_opForms <;> first | assumption | omega | (simp at *; omega) | simp_all)) (a:=cb_impl_opForms) (k:=(jh hX (by simp [hk, hk1]; (try (simp (disch := omega) only [wrap_i64]; (try simp [hk, hk1]))); rfl)))) ?_)
    refine W_ret (je (by simp [hk, hk1]; rfl) ?_)
    simp only [opForm]; rw [if_neg (by omega), show ((k : Int) + 1 - 1).toNat = k from by omega]; simp [hk]
end Go.Proofs
namespace Go.Proofs
open Go Go.Ev


theorem cb_impl_isInt : Callable Tryz.prog 244 := ⟨_, Tryz.func244, by kernel_rfl, by kernel_rfl⟩
theorem ct_impl_isInt {n : Int} : Ct Tryz.prog 244 [.int .i64 n] [] (.bool (isInt n)) [] := by
  refine Ct_bodyS tok Tryz.func244 rfl 5 (by kernel_rfl) (by kernel_rfl) fun X hX => ?_
  refine jq [0] ?_
  refine W_rseqK [2] (jt 1 (k:=(jc [] (c:=(by apply ct_impl_within <;> first | assumption | omega | (simp at *; omega) | simp_all)) (a:=cb_impl_within) (k:=jr)))) ?_
  refine W_ret (je0 ?_)
  simp [isInt]
end Go.Proofs
namespace Go.Proofs
open Go Go.Ev


theorem cb_impl_InsRight : Callable Tryz.prog 272 := ⟨_, Tryz.func272, by kernel_rfl, by kernel_rfl⟩
theorem ct_impl_InsRight {x : Ins} (h : sizeI x ≤ 1099511627776) : Ct Tryz.prog 272 [eI x] [] (.bool (insRight x)) [] := by
  simp only [sizeI] at h
  refine Ct_bodyS tok Tryz.func272 rfl 143 (by kernel_rfl) (by kernel_rfl) fun X hX => ?_
  refine jq [1] ?_
  refine W_rseqK [1, 3] (jt 4 (k:=(jm 4 7 [1, 11] (p:=fun b1_4 => by (try simp at b1_4); exact (jh hX (by simp [-atD_lt, -atL_lt]; rfl))) (q:=fun b1_4 => by (try simp at b1_4); exact (jh hX (by simp [-atD_lt, -atL_lt]; rfl))) (k:=(jt 1 (k:=(jm 4 12 [1, 16] (p:=fun b1_9 => by (try simp at b1_9); exact (jh hX (by simp [-atD_lt, -atL_lt]; rfl))) (q:=fun b1_9 => by (try simp at b1_9); exact (jh hX (by simp [-atD_lt, -atL_lt]; rfl))) (k:=jr)))))))) ?_
  refine W_seq (W_rseqK [1, 3, 19] (jt 2 (k:=(jc [] (c:=(by apply ct_impl_OpForm <;> first | assumption | omega | (simp at *; omega) | simp_all)) (a:=cb_impl_OpForm) (k:=jf)))) ?_)
  refine W_block (jq [1, 3, 19, 20] ?_)
  refine jd (fun h3 => ?_) (fun h3 => ?_)
  · try simp at h3
    refine W_rseqK [2] (jt 2 (k:=(jm 4 23 [27] (p:=fun b4_2 => by (try simp at b4_2); exact (jh hX (by simp [-atD_lt, -atL_lt]; rfl))) (q:=fun b4_2 => by (try simp at b4_2); exact (jh hX (by simp [-atD_lt, -atL_lt]; rfl))) (k:=jr)))) ?_
    refine W_ret (je0 ?_)
    (try simp_all [insRight, insEmpty, isInt, init]) <;> grind
  · try simp at h3
    refine jq [1, 3, 19, 28] ?_
    refine jd (fun h5 => ?_) (fun h5 => ?_)
    · try simp at h5
      refine W_rseqK [2] (jt 2 (k:=(jm 4 31 [35] (p:=fun b6_2 => by (try simp at b6_2); exact (js hX 2 (by simp [-atD_lt, -atL_lt]; rfl) (Runs.call [] rfl (by simp) rfl (by simp [-atD_lt, -atL_lt]; rfl) (by simp; rfl) (by apply ct_impl_isInt <;> first | assumption | omega | (simp at *; omega) | simp_all) cb_impl_isInt (by simp) (by simp) (by simp [-atD_lt, -atL_lt]; rfl) (jh hX (by simp [-atD_lt, -atL_lt]; rfl))))) (q:=fun b6_2 => by (try simp at b6_2); exact (jh hX (by simp [-atD_lt, -atL_lt]; rfl))) (k:=jr)))) ?_
      refine W_ret (je0 ?_)
      (try simp_all [insRight, insEmpty, isInt, init]) <;> grind
    · try simp at h5
      refine jq [1, 3, 19, 36] ?_
      refine jd (fun h7 => ?_) (fun h7 => ?_)
      · try simp at h7
        refine W_rseqK [2] (jt 2 (k:=(jm 4 39 [43] (p:=fun b8_2 => by (try simp at b8_2); exact (js hX 2 (by simp [-atD_lt, -atL_lt]; rfl) (Runs.call [] rfl (by simp) rfl (by simp [-atD_lt, -atL_lt]; rfl) (by simp; rfl) (by apply ct_impl_within <;> first | assumption | omega | (simp at *; omega) | simp_all) cb_impl_within (by simp) (by simp) (by simp [-atD_lt, -atL_lt]; rfl) (jh hX (by simp [-atD_lt, -atL_lt]; rfl))))) (q:=fun b8_2 => by (try simp at b8_2); exact (jh hX (by simp [-atD_lt, -atL_lt]; rfl))) (k:=jr)))) ?_
        refine W_ret (je0 ?_)
        (try simp_all [insRight, insEmpty, isInt, init]) <;> grind
      · try simp at h7
        refine jq [1, 3, 19, 44] ?_
        refine jd (fun h9 => ?_) (fun h9 => ?_)
        · try simp at h9
          refine W_rseqK [2] (jt 2 (k:=(jm 4 47 [51] (p:=fun b10_2 => by (try simp at b10_2); exact (js hX 2 (by simp [-atD_lt, -atL_lt]; rfl) (Runs.call [] rfl (by simp) rfl (by simp [-atD_lt, -atL_lt]; rfl) (by simp; rfl) (by apply ct_impl_within <;> first | assumption | omega | (simp at *; omega) | simp_all) cb_impl_within (by simp) (by simp) (by simp [-atD_lt, -atL_lt]; rfl) (jh hX (by simp [-atD_lt, -atL_lt]; rfl))))) (q:=fun b10_2 => by (try simp at b10_2); exact (jh hX (by simp [-atD_lt, -atL_lt]; rfl))) (k:=jr)))) ?_
          refine W_ret (je0 ?_)
          (try simp_all [insRight, insEmpty, isInt, init]) <;> grind
        · try simp at h9
          refine jq [1, 19, 52] ?_
          refine jd (fun h11 => ?_) (fun h11 => ?_)
          · try simp at h11
            refine W_rseqK [2] (jt 4 (k:=(jm 4 57 [1, 61] (p:=fun b12_4 => by (try simp at b12_4); exact (js hX 2 (by simp [-atD_lt, -atL_lt]; rfl) (Runs.call [] rfl (by simp) rfl (by simp [-atD_lt, -atL_lt]; rfl) (by simp; rfl) (by apply ct_impl_NameRight <;> first | assumption | omega | (simp at *; omega) | simp_all) cb_impl_NameRight (by simp) (by simp) (by simp [-atD_lt, -atL_lt]; rfl) (jh hX (by simp [-atD_lt, -atL_lt]; rfl))))) (q:=fun b12_4 => by (try simp at b12_4); exact (jh hX (by simp [-atD_lt, -atL_lt]; rfl))) (k:=(jt 1 (k:=(jm 4 62 [1, 66] (p:=fun b12_9 => by (try simp at b12_9); exact (jh hX (by simp [-atD_lt, -atL_lt]; rfl))) (q:=fun b12_9 => by (try simp at b12_9); exact (jh hX (by simp [-atD_lt, -atL_lt]; rfl))) (k:=(jt 1 (k:=(jm 4 67 [71] (p:=fun b12_14 => by (try simp at b12_14); exact (jh hX (by simp [-atD_lt, -atL_lt]; rfl))) (q:=fun b12_14 => by (try simp at b12_14); exact (jh hX (by simp [-atD_lt, -atL_lt]; rfl))) (k:=jr)))))))))))) ?_
            refine W_ret (je0 ?_)
            (try simp_all [insRight, insEmpty, isInt, init]) <;> grind
          · try simp at h11
            refine jq [1, 19, 72] ?_
            refine jd (fun h13 => ?_) (fun h13 => ?_)
            · try simp at h13
              refine W_rseqK [2] (jt 4 (k:=(jm 4 77 [1, 81] (p:=fun b14_4 => by (try simp at b14_4); exact (jh hX (by simp [-atD_lt, -atL_lt]; rfl))) (q:=fun b14_4 => by (try simp at b14_4); exact (jh hX (by simp [-atD_lt, -atL_lt]; rfl))) (k:=(jt 1 (k:=(jm 4 82 [1, 86] (p:=fun b14_9 => by (try simp at b14_9); exact (jh hX (by simp [-atD_lt, -atL_lt]; rfl))) (q:=fun b14_9 => by (try simp at b14_9); exact (jh hX (by simp [-atD_lt, -atL_lt]; rfl))) (k:=(jt 1 (k:=(jm 15 87 [102] (p:=fun b14_14 => by (try simp at b14_14); exact (js hX 4 (by simp [-atD_lt, -atL_lt]; rfl) (jm 10 91 [87, 101] (p:=fun b14_18 => by (try simp at b14_18); exact (jh hX (by simp [-atD_lt, -atL_lt]; rfl))) (q:=fun b14_18 => by (try simp at b14_18); exact (js hX 2 (by simp [-atD_lt, -atL_lt]; rfl) (Runs.call [] rfl (by simp) rfl (by simp [-atD_lt, -atL_lt]; rfl) (by simp; rfl) (by apply ct_impl_typeRight <;> first | assumption | omega | (simp at *; omega) | simp_all) cb_impl_typeRight (by simp) (by simp) (by simp [-atD_lt, -atL_lt]; rfl) (js hX 1 (by simp [-atD_lt, -atL_lt]; rfl) (jm 5 95 [87, 91, 100] (p:=fun b14_22 => by (try simp at b14_22); (have hlt := (len_of_typeRight b14_22).1; have hat := isAt_lt (n := 76) hlt); exact (jh hX (by simp [-atD_lt, -atL_lt, hlt]; rfl))) (q:=fun b14_22 => by (try simp at b14_22); exact (jh hX (by simp [-atD_lt, -atL_lt]; rfl))) (k:=(jh hX (by simp [-atD_lt, -atL_lt]; rfl)))))))) (k:=(jh hX (by simp [-atD_lt, -atL_lt]; rfl)))))) (q:=fun b14_14 => by (try simp at b14_14); exact (jh hX (by simp [-atD_lt, -atL_lt]; rfl))) (k:=jr)))))))))))) ?_
              refine W_ret (je0 ?_)
              have hp := plainType x.desc
              have hq : typeRight x.desc = true → isAt x.desc 0 76 = decide ((atD x.desc 0).toNat = 76) := fun h => by have hlt := (len_of_typeRight h).1; rw [isAt_lt hlt, atD_lt hlt]; simp
              (try simp_all [insRight, insEmpty]) <;> grind
            · try simp at h13
              refine jq [1, 19, 103] ?_
              refine jd (fun h15 => ?_) (fun h15 => ?_)
              · try simp at h15
                refine W_rseqK [2] (jt 4 (k:=(jm 4 108 [1, 112] (p:=fun b16_4 => by (try simp at b16_4); exact (js hX 2 (by simp [-atD_lt, -atL_lt]; rfl) (Runs.call [] rfl (by simp) rfl (by simp [-atD_lt, -atL_lt]; rfl) (by simp; rfl) (by apply ct_impl_NameRight <;> first | assumption | omega | (simp at *; omega) | simp_all) cb_impl_NameRight (by simp) (by simp) (by simp [-atD_lt, -atL_lt]; rfl) (jh hX (by simp [-atD_lt, -atL_lt]; rfl))))) (q:=fun b16_4 => by (try simp at b16_4); exact (jh hX (by simp [-atD_lt, -atL_lt]; rfl))) (k:=(jt 1 (k:=(jm 4 113 [1, 117] (p:=fun b16_9 => by (try simp at b16_9); exact (js hX 2 (by simp [-atD_lt, -atL_lt]; rfl) (Runs.call [] rfl (by simp) rfl (by simp [-atD_lt, -atL_lt]; rfl) (by simp; rfl) (by apply ct_impl_NameRight <;> first | assumption | omega | (simp at *; omega) | simp_all) cb_impl_NameRight (by simp) (by simp) (by simp [-atD_lt, -atL_lt]; rfl) (jh hX (by simp [-atD_lt, -atL_lt]; rfl))))) (q:=fun b16_9 => by (try simp at b16_9); exact (jh hX (by simp [-atD_lt, -atL_lt]; rfl))) (k:=(jt 1 (k:=(jm 4 118 [122] (p:=fun b16_14 => by (try simp at b16_14); exact (js hX 2 (by simp [-atD_lt, -atL_lt]; rfl) (Runs.call [] rfl (by simp) rfl (by simp [-atD_lt, -atL_lt]; rfl) (by simp; rfl) (by apply ct_impl_typeRight <;> first | assumption | omega | (simp at *; omega) | simp_all) cb_impl_typeRight (by simp) (by simp) (by simp [-atD_lt, -atL_lt]; rfl) (jh hX (by simp [-atD_lt, -atL_lt]; rfl))))) (q:=fun b16_14 => by (try simp at b16_14); exact (jh hX (by simp [-atD_lt, -atL_lt]; rfl))) (k:=jr)))))))))))) ?_
                refine W_ret (je0 ?_)
                (try simp_all [insRight, insEmpty, isInt, init]) <;> grind
              · try simp at h15
                refine jq [1, 123] ?_
                refine jd (fun h17 => ?_) (fun h17 => ?_)
                · try simp at h17
                  refine W_rseqK [2] (jt 4 (k:=(jm 4 128 [1, 132] (p:=fun b18_4 => by (try simp at b18_4); exact (js hX 2 (by simp [-atD_lt, -atL_lt]; rfl) (Runs.call [] rfl (by simp) rfl (by simp [-atD_lt, -atL_lt]; rfl) (by simp; rfl) (by apply ct_impl_NameRight <;> first | assumption | omega | (simp at *; omega) | simp_all) cb_impl_NameRight (by simp) (by simp) (by simp [-atD_lt, -atL_lt]; rfl) (jh hX (by simp [-atD_lt, -atL_lt]; rfl))))) (q:=fun b18_4 => by (try simp at b18_4); exact (jh hX (by simp [-atD_lt, -atL_lt]; rfl))) (k:=(jt 1 (k:=(jm 4 133 [1, 137] (p:=fun b18_9 => by (try simp at b18_9); exact (js hX 2 (by simp [-atD_lt, -atL_lt]; rfl) (Runs.call [] rfl (by simp) rfl (by simp [-atD_lt, -atL_lt]; rfl) (by simp; rfl) (by apply ct_impl_isMethodName <;> first | assumption | omega | (simp at *; omega) | simp_all) cb_impl_isMethodName (by simp) (by simp) (by simp [-atD_lt, -atL_lt]; rfl) (jh hX (by simp [-atD_lt, -atL_lt]; rfl))))) (q:=fun b18_9 => by (try simp at b18_9); exact (jh hX (by simp [-atD_lt, -atL_lt]; rfl))) (k:=(jt 1 (k:=(jm 4 138 [142] (p:=fun b18_14 => by (try simp at b18_14); exact (js hX 2 (by simp [-atD_lt, -atL_lt]; rfl) (Runs.call [] rfl (by simp) rfl (by simp [-atD_lt, -atL_lt]; rfl) (by simp; rfl) (by apply ct_impl_isDesc <;> first | assumption | omega | (simp at *; omega) | simp_all) cb_impl_isDesc (by simp) (by simp) (by simp [-atD_lt, -atL_lt]; rfl) (jh hX (by simp [-atD_lt, -atL_lt]; rfl))))) (q:=fun b18_14 => by (try simp at b18_14); exact (jh hX (by simp [-atD_lt, -atL_lt]; rfl))) (k:=jr)))))))))))) ?_
                  refine W_ret (je0 ?_)
                  (try simp_all [insRight, insEmpty, isInt, init]) <;> grind
                · try simp at h17
                  refine W_skip (jq [2] ?_)
                  refine W_ret (je0 ?_)
                  (try simp_all [insRight, insEmpty, isInt, init]) <;> grind
end Go.Proofs
namespace Go.Proofs
open Go Go.Ev


theorem cb_impl_codeRight_1 : Callable Tryz.prog 274 := ⟨_, Tryz.func274, by kernel_rfl, by kernel_rfl⟩
theorem ct_impl_codeRight_1 {x : Hdl} {n : Int} (h : x.cls.length ≤ 1099511627776) (hn0 : 0 ≤ n) (hn : n ≤ 1099511627776) : Ct Tryz.prog 274 [eH x, .fp [.int .i64 n]] [] (.bool (!hdlRight n x)) [] := by
  refine Ct_bodyS tok Tryz.func274 rfl 34 (by kernel_rfl) (by kernel_rfl) fun X hX => ?_
  refine jq [1, 2] ?_
  refine W_rseqK [3] (jt 4 (k:=(jm 6 7 [1, 2, 13] (p:=fun b1_4 => by (try simp at b1_4); exact (jh hX (by simp [-atD_lt, -atL_lt]; rfl))) (q:=fun b1_4 => by (try simp at b1_4); exact (jh hX (by simp [-atD_lt, -atL_lt, b1_4]; rfl))) (k:=(jt 1 (k:=(jm 5 14 [1, 2, 19] (p:=fun b1_11 => by (try simp at b1_11); exact (jh hX (by simp [-atD_lt, -atL_lt]; rfl))) (q:=fun b1_11 => by (try simp at b1_11); exact (jh hX (by simp [-atD_lt, -atL_lt, b1_11]; rfl))) (k:=(jt 1 (k:=(jm 7 20 [2, 27] (p:=fun b1_17 => by (try simp at b1_17); exact (jh hX (by simp [-atD_lt, -atL_lt]; rfl))) (q:=fun b1_17 => by (try simp at b1_17); exact (js hX 4 (by simp [-atD_lt, -atL_lt, b1_17]; (try (simp (disch := omega) only [wrap_i64]; (try simp [-atD_lt, -atL_lt, b1_17]))); rfl) (Runs.call [] rfl (by simp) rfl (by simp [-atD_lt, -atL_lt]; rfl) (by simp; rfl) (by apply ct_impl_within <;> first | assumption | omega | (simp at *; omega) | simp_all) cb_impl_within (by simp) (by simp) (by simp [-atD_lt, -atL_lt]; rfl) (jh hX (by simp [-atD_lt, -atL_lt]; rfl))))) (k:=(jt 1 (k:=(jm 5 28 [33] (p:=fun b1_25 => by (try simp at b1_25); exact (jh hX (by simp [-atD_lt, -atL_lt]; rfl))) (q:=fun b1_25 => by (try simp at b1_25); exact (js hX 2 (by simp [-atD_lt, -atL_lt, b1_25]; rfl) (Runs.call [] rfl (by simp) rfl (by simp [-atD_lt, -atL_lt]; rfl) (by simp; rfl) (by apply ct_impl_NameRight <;> first | assumption | omega | (simp at *; omega) | simp_all) cb_impl_NameRight (by simp) (by simp) (by simp [-atD_lt, -atL_lt]; rfl) (jh hX (by simp [-atD_lt, -atL_lt]; rfl))))) (k:=jr)))))))))))))))) ?_
  refine W_ret (je0 ?_)
  (try simp_all [hdlRight]) <;> grind
end Go.Proofs
namespace Go.Proofs
open Go Go.Ev


theorem cb_slices_IndexFunc_impl_Handler_impl_Handler : Callable Tryz.prog 279 := ⟨_, Tryz.func279, by kernel_rfl, by kernel_rfl⟩
theorem ct_slices_IndexFunc_impl_Handler_impl_Handler {n : Int} (hn0 : 0 ≤ n) (hn : n ≤ 1099511627776) {l : List Hdl} (hl : l.length ≤ 1099511627776) (hs : ∀ x ∈ l, x.cls.length ≤ 1099511627776) : Ct Tryz.prog 279 [.lst false 4 (l.map eH), .clo (.func 274) [] [.fp [.int .i64 n]]] [] (.int .i64 (fix (fun x => !hdlRight n x) l)) [] := by
  refine Ct_bodyS tok Tryz.func279 rfl 19 (by kernel_rfl) (by kernel_rfl) fun X hX => ?_
  refine jq [0, 1] ?_
  refine W_seq (jq [0, 1, 7, 8] ?_)
  refine W_block (W_loopU (α := Nat) [0, 1, 7, 8] (fun i => [(8, .int .i64 i)]) (fun i => []) (fun i => i ≤ l.length ∧ ∀ x ∈ l.take i, (fun x => !hdlRight n x) x = false) (fun i => l.length - i) (0) (fun i => by simp; rfl) (by simp) ?_ ?_)
  · simp
  rintro i ⟨hi, hI⟩
  refine jq [0, 1, 7, 8, 9] ?_
  refine W_seq (jd (fun h2 => ?_) (fun h2 => ?_))
  · try simp at h2
    refine W_skip (W_seq (W_block (jq [0, 1, 5, 7, 8] ?_)))
    refine W_rseqK [0, 1, 5, 7, 8, 16] (js hX 5 (by simp [h2]; rfl) (jc [] (c:=(by apply ct_impl_codeRight_1 <;> first | assumption | exact hs _ (List.getElem_mem h2) | omega)) (a:=cb_impl_codeRight_1) (k:=jf))) ?_
    refine jd (fun h4 => ?_) (fun h4 => ?_)
    · try simp at h4
      refine jq [4] ?_
      refine W_ret (je (by simp [h2]; rfl) ?_)
      rw [fix_hit h2 hI (by simpa using h4)]
    · try simp at h4
      refine W_skip (W_reg (jh hX (by simp; (try (simp (disch := omega) only [wrap_i64]; (try simp))); rfl)) ?_)
      refine round_end (i + 1) [0, 1, 7, 8] (by simp [h2]; try (simp (disch := omega) only [wrap_i64])) ?_ ?_
      · exact ⟨by omega, take_not h2 hI (by simpa using h4)⟩
      · omega
  · try simp at h2
    refine W_exit (jq [4] ?_)
    refine W_ret (je (by simp [h2]; rfl) ?_)
    rw [fix_none (p := fun x => !hdlRight n x) (fun x hx => hI x (by rw [List.take_of_length_le h2]; exact hx))]
end Go.Proofs
namespace Go.Proofs
open Go Go.Ev


theorem cb_slices_ContainsFunc_impl_Handler_impl_Handler : Callable Tryz.prog 273 := ⟨_, Tryz.func273, by kernel_rfl, by kernel_rfl⟩
theorem ct_slices_ContainsFunc_impl_Handler_impl_Handler {n : Int} (hn0 : 0 ≤ n) (hn : n ≤ 1099511627776) {l : List Hdl} (hl : l.length ≤ 1099511627776) (hs : ∀ x ∈ l, x.cls.length ≤ 1099511627776) : Ct Tryz.prog 273 [.lst false 4 (l.map eH), .clo (.func 274) [] [.fp [.int .i64 n]]] [] (.bool (l.any (fun x => !hdlRight n x))) [] := by
  refine Ct_bodyS tok Tryz.func273 rfl 9 (by kernel_rfl) (by kernel_rfl) fun X hX => ?_
  refine jq [0, 1] ?_
  refine W_rseqK [4] (jt 2 (k:=(jc [] (c:=(by apply ct_slices_IndexFunc_impl_Handler_impl_Handler <;> first | assumption | omega | (simp at *; omega) | simp_all)) (a:=cb_slices_IndexFunc_impl_Handler_impl_Handler) (k:=jr)))) ?_
  refine W_ret (je0 ?_)
  rw [← fix_ge]
end Go.Proofs
namespace Go.Proofs
open Go Go.Ev


theorem cb_impl_codeRight : Callable Tryz.prog 257 := ⟨_, Tryz.func257, by kernel_rfl, by kernel_rfl⟩
theorem ct_impl_codeRight {x : Mth} (h : sizeM x ≤ 1099511627776) : Ct Tryz.prog 257 [eM x] [] (.bool (codeR x)) [] := by
  unfold codeR
  simp only [sizeM] at h
  refine Ct_bodyS tok Tryz.func257 rfl 46 (by kernel_rfl) (by kernel_rfl) fun X hX => ?_
  refine jq [1] ?_
  refine W_rseqK [1, 3] (jt 2 (k:=(jc [] (c:=(by apply ct_impl_size_impl_Ins <;> first | assumption | omega | (have := mem_sum (f := sizeI) (List.getElem_mem (l := x.code) (n := i) (by omega)); simp only [sizeI] at *; omega))) (a:=cb_impl_size_impl_Ins) (k:=jr)))) ?_
  refine W_seq (W_rseqK [1, 3, 17] (jt 1 (k:=(jc [] (c:=(by apply ct_impl_within <;> first | assumption | omega | (have := mem_sum (f := sizeI) (List.getElem_mem (l := x.code) (n := i) (by omega)); simp only [sizeI] at *; omega))) (a:=cb_impl_within) (k:=(jt 2 (k:=(jm 5 12 [1, 3, 17] (p:=fun b2_4 => by (try simp at b2_4); exact (jh hX (by simp [-atD_lt, -atL_lt]; rfl))) (q:=fun b2_4 => by (try simp at b2_4); exact (jh hX (by simp [-atD_lt, -atL_lt]; rfl))) (k:=jf)))))))) ?_)
  refine jd (fun h2 => ?_) (fun h2 => ?_)
  · try simp at h2
    refine jq [2] ?_
    refine W_ret (je (by simp [h2]; rfl) ?_)
    have h2b : x.code.length < 1 ∨ 60 < x.code.length ∨ 6 < x.hdls.length := by
      rcases h2 with (h | h) | h
      · simp [h]
      · omega
      · omega
    rw [decide_eq_true h2b]; rfl
  · try simp at h2
    refine W_skip (W_seq (W_rseqK [1, 3, 19, 20, 21] (jh hX (by simp [h2]; rfl)) ?_))
    refine W_block (W_loopU (α := Nat) [1, 3, 19, 20, 21] (fun i => [(21, .int .i64 i)]) (fun i => []) (fun i => i ≤ x.code.length ∧ (x.code.drop i).all (codeOK x.code.length) = x.code.all (codeOK x.code.length)) (fun i => x.code.length - i) (0) (fun i => by simp; rfl) (by simp) ?_ ?_)
    · simp
    rintro i ⟨hi, hI⟩
    refine jq [1, 3, 19, 20, 21, 22] ?_
    refine W_seq (jd (fun h5 => ?_) (fun h5 => ?_))
    · try simp at h5
      rw [all_drop h5] at hI
      refine W_skip (W_seq (W_block (W_rseqK [1, 3, 5, 19, 20, 21] (jh hX (by simp [h2, h5]; rfl)) ?_)))
      refine W_rseqK [1, 3, 19, 20, 21, 39] (js hX 1 (by simp [h2, h5]; rfl) (jc [] (c:=(by apply ct_impl_InsRight <;> first | assumption | omega | (have := mem_sum (f := sizeI) (List.getElem_mem (l := x.code) (n := i) (by omega)); simp only [sizeI] at *; omega))) (a:=cb_impl_InsRight) (k:=(jt 2 (k:=(jm 11 28 [1, 3, 19, 20, 21, 39] (p:=fun b7_4 => by (try simp at b7_4); exact (jh hX (by simp [-atD_lt, -atL_lt]; rfl))) (q:=fun b7_4 => by (try simp at b7_4); exact (js hX 2 (by simp [-atD_lt, -atL_lt, h2, h5]; rfl) (Runs.call [] rfl (by simp) rfl (by simp [-atD_lt, -atL_lt]; rfl) (by simp; rfl) (by apply ct_impl_OpForm <;> first | assumption | omega | (have := mem_sum (f := sizeI) (List.getElem_mem (l := x.code) (n := i) (by omega)); simp only [sizeI] at *; omega)) cb_impl_OpForm (by simp) (by simp) (by simp [-atD_lt, -atL_lt]; rfl) (js hX 2 (by simp [-atD_lt, -atL_lt]; rfl) (jm 5 33 [1, 3, 19, 20, 21, 28, 38] (p:=fun b7_9 => by (try simp at b7_9); exact (jh hX (by simp [-atD_lt, -atL_lt, h2, h5]; rfl))) (q:=fun b7_9 => by (try simp at b7_9); exact (jh hX (by simp [-atD_lt, -atL_lt]; rfl))) (k:=(jh hX (by simp [-atD_lt, -atL_lt]; rfl)))))))) (k:=jf))))))) ?_
      refine jd (fun h7 => ?_) (fun h7 => ?_)
      · try simp at h7
        refine jq [2] ?_
        refine W_ret (je (by simp [h2, h5, h7]; rfl) ?_)
        have : codeOK x.code.length x.code[i] = false := by unfold codeOK; grind
        simp [← hI, this]
      · try simp at h7
        have h7b : codeOK x.code.length x.code[i] = true := by unfold codeOK; grind
        rw [h7b, Bool.true_and] at hI
        refine W_skip (W_reg (jh hX (by simp; (try (simp (disch := omega) only [wrap_i64]; (try simp))); rfl)) ?_)
        refine round_endT (i + 1) [1, 3, 19, 20, 21] 2 (by simp [hX]) (by simp) (by simp [h2, h5, h7]; try (simp (disch := omega) only [wrap_i64])) ?_ ?_
        · exact ⟨by omega, hI⟩
        · omega
    · try simp at h5
      rw [List.drop_eq_nil_of_le h5] at hI
      refine W_exit (W_rseqK [2] (js hX 3 (by simp [h2, h5]; rfl) (jB (c:=(by apply ct_slices_ContainsFunc_impl_Handler_impl_Handler <;> first | assumption | omega | (intro y hy; have := mem_sum (f := sizeH) hy; simp only [sizeH] at *; omega))) (a:=cb_slices_ContainsFunc_impl_Handler_impl_Handler) (k:=jr))) ?_)
      refine W_ret (je (by simp [h2, h5]; rfl) ?_)
      have h2b : ¬ (x.code.length < 1 ∨ 60 < x.code.length ∨ 6 < x.hdls.length) := by omega
      rw [decide_eq_false h2b, ← hI]
      simp only [List.all_nil, Bool.true_and, Bool.not_false]
      congr 1
      rw [Bool.eq_iff_iff]
      simp
end Go.Proofs
namespace Go.Proofs
open Go Go.Ev


theorem cb_impl_size_string : Callable Tryz.prog 111 := ⟨_, Tryz.func111, by kernel_rfl, by kernel_rfl⟩
theorem ct_impl_size_string {l : List Str} : Ct Tryz.prog 111 [.lst false 1 (l.map V.str)] [] (.int .i64 l.length) [] := by
  refine Ct_bodyS tok Tryz.func111 rfl 5 (by kernel_rfl) (by kernel_rfl) fun X hX => ?_
  refine jq [0] ?_
  refine jq [2] ?_
  refine W_ret (je0 ?_)
  simp
end Go.Proofs
namespace Go.Proofs
open Go Go.Ev


theorem cb_impl_DescRead : Callable Tryz.prog 280 := ⟨_, Tryz.func280, by kernel_rfl, by kernel_rfl⟩
theorem ct_impl_DescRead {t : Str} (ht : t.length ≤ 1099511627776) : Ct Tryz.prog 280 [.str t] [] (eDO (descRead t)) [] := by
  refine Ct_bodyS tok Tryz.func280 rfl 10 (by kernel_rfl) (by kernel_rfl) fun X hX => ?_
  refine jq [0, 2] ?_
  refine W_seq (W_rseqK [0, 2, 6] (jt 2 (k:=(jB (c:=(by apply (ct_impl_isText (l := [t])) <;> simp)) (a:=cb_impl_isText) (k:=jr)))) ?_)
  refine jd (fun h1 => ?_) (fun h1 => ?_)
  · try simp at h1
    refine jq [2] ?_
    refine W_ret (W_retR (by simp; rfl) ?_ rfl)
    rw [show descRead t = ⟨[], [], 0, 2⟩ from by unfold descRead; rw [if_pos (by simpa using h1)]]
    exact wk_err _ _ _
  · try simp at h1
    refine W_skip (W_rseqK [2] (jt 1 (k:=(jc [] (c:=(by apply ct_impl_descRead <;> first | assumption | omega | (simp at *; omega) | simp_all)) (a:=cb_impl_descRead) (k:=jr)))) ?_)
    refine W_ret (W_retR (by simp; rfl) ?_ rfl)
    rw [show descRead t = dRead t from by unfold descRead; rw [if_neg (by simpa using h1)]]
    exact Wk.refl _
end Go.Proofs
namespace Go.Proofs
open Go Go.Ev


theorem cb_impl_DescSlots : Callable Tryz.prog 275 := ⟨_, Tryz.func275, by kernel_rfl, by kernel_rfl⟩
theorem ct_impl_DescSlots {t : Str} (ht : t.length ≤ 1099511627776) : Ct Tryz.prog 275 [.str t] [] (.int .i64 (dSlots t)) [] := by
  have hd8 := descRead_le t
  refine Ct_bodyS tok Tryz.func275 rfl 13 (by kernel_rfl) (by kernel_rfl) fun X hX => ?_
  refine jq [0] ?_
  refine W_rseqK [3] (jt 1 (k:=(jF (c:=(by apply ct_impl_DescRead <;> first | assumption | omega)) (a:=cb_impl_DescRead) (k:=jr)))) ?_
  refine W_seq (jq [3, 8] ?_)
  refine jd (fun h2 => ?_) (fun h2 => ?_)
  · try simp at h2
    refine jq [2] ?_
    refine W_ret (je0 ?_)
    simp_all [dSlots]
  · try simp at h2
    refine W_skip (W_rseqK [2] (jt 3 (k:=(jc [] (c:=(by apply ct_impl_size_string <;> first | assumption | omega)) (a:=cb_impl_size_string) (k:=jr)))) ?_)
    refine W_ret (je0 ?_)
    simp_all [dSlots]
end Go.Proofs
namespace Go.Proofs
open Go Go.Ev


theorem cb_impl_Method_slots : Callable Tryz.prog 258 := ⟨_, Tryz.func258, by kernel_rfl, by kernel_rfl⟩
theorem ct_impl_Method_slots {x : Mth} (h : x.desc.length ≤ 1099511627776) : Ct Tryz.prog 258 [eM x] [] (.int .i64 (dSlots x.desc + if x.static = true then 0 else 1)) [] := by
  refine Ct_bodyS tok Tryz.func258 rfl 13 (by kernel_rfl) (by kernel_rfl) fun X hX => ?_
  refine jq [1] ?_
  refine W_rseqK [1, 3] (jt 2 (k:=(jc [] (c:=(by apply ct_impl_DescSlots <;> first | assumption | omega | (simp at *; omega) | simp_all)) (a:=cb_impl_DescSlots) (k:=jr)))) ?_
  have hd8 := dSlots_le x.desc
  have hw : IntKind.i64.wrap (dSlots x.desc + 1) = dSlots x.desc + 1 := wrap_i64 (by omega) (by omega)
  refine W_seq (jq [3, 9] ?_)
  refine' W_condS3 [3] (by simp; rfl) (by rfl) (fun h2 => ?a1_1) (fun h2 => ?a0_1) ?ak_1
  case a1_1 =>
    try simp at h2
    refine W_reg (jh hX (by simp; (try (simp (disch := omega) only [wrap_i64]; (try simp))); rfl)) ?_
    exact ⟨rfl, Eq.trans (by (try simp); rfl) (by rfl)⟩
  case a0_1 =>
    try simp at h2
    refine W_skip ?_
    exact ⟨rfl, Eq.trans (by (try simp); rfl) (by rfl)⟩
  case ak_1 =>
    refine W_le (Le.of_eq (by simp; rfl)) ?_
    refine jq [2] ?_
    refine W_ret (je0 ?_)
    cases hst : x.static <;> simp_all
end Go.Proofs
