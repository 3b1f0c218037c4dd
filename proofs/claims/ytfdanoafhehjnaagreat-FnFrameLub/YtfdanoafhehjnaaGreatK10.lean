/- Part 11 of what the proofs lean on: what the functions of the program and of the reference compute. Conditions: none. -/
import Derived.Test.YtfdanoafhehjnaaGreatK09
import Derived.Test.YtfdanoafhehjnaaGreatRows
set_option linter.all false
set_option linter.unusedVariables false
set_option linter.unusedSimpArgs false
set_option maxHeartbeats 2000000
set_option maxRecDepth 100000
namespace Go.Proofs
open Go Go.Ev


theorem cb_spec_l05Types : Callable Tryz.prog 158 := ⟨_, Tryz.func158, by kernel_rfl, by kernel_rfl⟩
theorem ct_spec_l05Types {l : List Cls} {x : Cls} (hl : l.length ≤ 1099511627776) (h : sizeC x ≤ 1099511627776) : Ct Tryz.prog 158 [.lst false 6 (l.map eC), eC x] [] (.bool (clsK l x)) [] := by
  simp only [sizeC] at h
  refine Ct_bodyS tok Tryz.func158 rfl 39 (by kernel_rfl) (by kernel_rfl) fun X hX => ?_
  refine jq [0, 3] ?_
  refine W_seq (jq [0, 3, 5] ?_)
  refine W_block (W_loopU (α := Nat) [0, 3, 5] (fun i => [(5, .int .i64 i)]) (fun i => []) (fun i => i ≤ x.fields.length ∧ (x.fields.drop i).all (fun f => typeK l f.type) = x.fields.all (fun f => typeK l f.type)) (fun i => x.fields.length - i) (0) (fun i => by simp; rfl) (by simp) ?_ ?_)
  · simp
  rintro i ⟨hi, hI⟩
  refine W_seq (jq [0, 3, 5, 11] ?_)
  refine jd (fun h2 => ?_) (fun h2 => ?_)
  · try simp at h2
    rw [all_drop h2] at hI
    refine W_skip (W_seq (W_block (W_rseqK [0, 3, 5, 22] (js hX 7 (by simp [h2]; rfl) (jc [] (c:=(by apply ct_spec_l05Type <;> first | assumption | omega | (have := mem_sum (f := sizeF) (List.getElem_mem h2); simp only [sizeF] at *; omega) | (have := mem_sum (f := sizeM) (List.getElem_mem h7); simp only [sizeM] at *; omega))) (a:=cb_spec_l05Type) (k:=jr))) ?_)))
    refine jd (fun h4 => ?_) (fun h4 => ?_)
    · try simp at h4
      refine jq [4] ?_
      refine W_ret (je (by simp [h2]; rfl) ?_)
      simp [clsK, ← hI, h4]
    · try simp at h4
      rw [h4, Bool.true_and] at hI
      refine W_skip (W_reg (jh hX (by simp; (try (simp (disch := omega) only [wrap_i64]; (try simp))); rfl)) ?_)
      refine round_end (i + 1) [0, 3, 5] (by simp [h2]; try (simp (disch := omega) only [wrap_i64])) ?_ ?_
      · exact ⟨by omega, hI⟩
      · omega
  · try simp at h2
    rw [List.drop_eq_nil_of_le h2] at hI
    refine W_exit (W_seq (jq [0, 3, 6] ?_))
    refine W_block (W_loopU (α := Nat) [0, 3, 6] (fun i => [(6, .int .i64 i)]) (fun i => []) (fun i => i ≤ x.methods.length ∧ (x.methods.drop i).all (fun m => descK l m.desc) = x.methods.all (fun m => descK l m.desc)) (fun i => x.methods.length - i) (0) (fun i => by simp; rfl) (by simp) ?_ ?_)
    · simp
    rintro i ⟨hi2, hI2⟩
    refine W_seq (W_rseqK [0, 3, 6, 27] (jh hX (by simp [h2]; rfl)) ?_)
    refine jd (fun h7 => ?_) (fun h7 => ?_)
    · try simp at h7
      rw [all_drop h7] at hI2
      refine W_skip (W_seq (W_block (W_rseqK [0, 3, 6, 38] (js hX 7 (by simp [h2, h7]; rfl) (jc [] (c:=(by apply ct_spec_l05Desc <;> first | assumption | omega | (have := mem_sum (f := sizeF) (List.getElem_mem h2); simp only [sizeF] at *; omega) | (have := mem_sum (f := sizeM) (List.getElem_mem h7); simp only [sizeM] at *; omega))) (a:=cb_spec_l05Desc) (k:=jr))) ?_)))
      refine jd (fun h9 => ?_) (fun h9 => ?_)
      · try simp at h9
        refine jq [4] ?_
        refine W_ret (je (by simp [h2, h7]; rfl) ?_)
        simp [clsK, ← hI2, h9]
      · try simp at h9
        rw [h9, Bool.true_and] at hI2
        refine W_skip (W_reg (jh hX (by simp; (try (simp (disch := omega) only [wrap_i64]; (try simp))); rfl)) ?_)
        refine round_end (i + 1) [0, 3, 6] (by simp [h2, h7]; try (simp (disch := omega) only [wrap_i64])) ?_ ?_
        · exact ⟨by omega, hI2⟩
        · omega
    · try simp at h7
      rw [List.drop_eq_nil_of_le h7] at hI2
      refine W_exit (jq [4] ?_)
      refine W_ret (je (by simp [h2, h7]; rfl) ?_)
      simp [clsK, ← hI, ← hI2]
end Go.Proofs
namespace Go.Proofs
open Go Go.Ev


theorem cb_spec_l05Method : Callable Tryz.prog 220 := ⟨_, Tryz.func220, by kernel_rfl, by kernel_rfl⟩
theorem ct_spec_l05Method {x : Cls} {n d : Str} (h : sizeC x ≤ 1099511627776) : Ct Tryz.prog 220 [eC x, .str n, .str d] [] (.int .i64 (mthFrom n d x.methods 0)) [] := by
  simp only [sizeC] at h
  refine Ct_bodyS tok Tryz.func220 rfl 34 (by kernel_rfl) (by kernel_rfl) fun X hX => ?_
  refine jq [1, 2, 3] ?_
  refine W_seq (jq [1, 2, 3, 7] ?_)
  refine W_block (W_loopU (α := Nat) [1, 2, 3, 7] (fun i => [(7, .int .i64 i)]) (fun i => []) (fun i => i ≤ x.methods.length ∧ mthFrom n d (x.methods.drop i) i = mthFrom n d x.methods 0) (fun i => x.methods.length - i) (0) (fun i => by simp; rfl) (by simp) ?_ ?_)
  · simp
  rintro i ⟨hi, hI⟩
  refine W_seq (jq [1, 2, 3, 7, 12] ?_)
  refine jd (fun h2 => ?_) (fun h2 => ?_)
  · try simp at h2
    rw [List.drop_eq_getElem_cons h2] at hI
    simp only [mthFrom] at hI
    refine W_skip (W_seq (W_block (W_rseqK [1, 2, 3, 7, 32] (js hX 9 (by simp [h2]; rfl) (jm 9 23 [1, 2, 3, 7, 32] (p:=fun b4_9 => by (try simp at b4_9); exact (jh hX (by simp [-atD_lt, -atL_lt, h2]; rfl))) (q:=fun b4_9 => by (try simp at b4_9); exact (jh hX (by simp [-atD_lt, -atL_lt]; rfl))) (k:=jf))) ?_)))
    refine jd (fun h4 => ?_) (fun h4 => ?_)
    · try simp at h4
      refine jq [6] ?_
      refine W_ret (je (by simp [h2]; rfl) ?_)
      simp only [atL_lt h2] at h4
      rw [← hI, if_pos h4]
    · try simp at h4
      simp only [atL_lt h2] at h4
      have h4c : ¬ (x.methods[i].name = n ∧ x.methods[i].desc = d) := fun e => h4 e.1 e.2
      refine W_skip (W_reg (jh hX (by simp; (try (simp (disch := omega) only [wrap_i64]; (try simp))); rfl)) ?_)
      refine round_end (i + 1) [1, 2, 3, 7] (by simp [h2]; try (simp (disch := omega) only [wrap_i64])) ?_ ?_
      · exact ⟨by omega, by rw [← hI, if_neg h4c]⟩
      · omega
  · try simp at h2
    refine W_exit (jq [6] ?_)
    refine W_ret (je (by simp [h2]; rfl) ?_)
    simp [← hI, List.drop_eq_nil_of_le h2, mthFrom]
end Go.Proofs
namespace Go.Proofs
open Go Go.Ev


theorem cb_spec_l05Access : Callable Tryz.prog 159 := ⟨_, Tryz.func159, by kernel_rfl, by kernel_rfl⟩
theorem ct_spec_l05Access {l : List Cls} {i : Nat} (hl : sizeL l ≤ 1099511627776) (hi : i < l.length) (hu : findFrom l[i].name l 0 = i) (hEn : ∀ j : Nat, j < l.length → Ends l (l.length + 1) j) : Ct Tryz.prog 159 [.lst false 6 (l.map eC), eC l[i]] [] (.bool (accOK l i)) [] := by
  have hll : l.length ≤ 1099511627776 := by unfold sizeL at hl; omega
  have hsz : ∀ {k : Nat} (h : k < l.length), sizeC l[k] ≤ 1099511627776 := fun h => Nat.le_trans (sizeL_at h) hl
  have hE0 : Ends l l.length (nxt l i) := by obtain ⟨g, h1, h2⟩ := Ends_nat (hEn i hi); rw [show l.length = g from by omega]; exact h2
  refine Ct_bodyS tok Tryz.func159 rfl 112 (by kernel_rfl) (by kernel_rfl) fun X hX => ?_
  refine jq [0, 3] ?_
  refine W_seq (W_rseqK [0, 3, 5] (jt 3 (k:=(jc [] (c:=(by apply ct_spec_l05Find <;> first | assumption | omega | exact hsz (by assumption) | (rw [atL_lt (by assumption)]; exact hsz (by assumption)) | (have := hsz hp; simp only [sizeC] at this; omega) | (have := hsz hq; simp only [sizeC] at this; omega))) (a:=cb_spec_l05Find) (k:=jr)))) ?_)
  refine W_block (W_loopU (α := Nat × Int) [0, 3, 5] (fun a => [(5, .int .i64 a.2)]) (fun a => []) (fun a => Ends l a.1 a.2 ∧ (-1 ≤ a.2 ∧ a.2 < l.length) ∧ (∀ u ∈ ups l a.1 a.2, u ∈ ups l (l.length + 1) i) ∧ (ups l a.1 a.2).all (fun u => (atL l u).methods.all (okPair l l[i] i)) = accOK l i) (fun a => a.1) ((l.length, nxt l i)) (fun a => by simp; rfl) (by simp [nxt_nat, atL_lt hi]) ?_ ?_)
  · exact ⟨hE0, @nxt_ge l i, fun u h => by rw [ups_nat]; exact List.mem_cons_of_mem _ h, by simp only [accOK, atL_lt hi]⟩
  rintro ⟨f, up⟩ ⟨hE, hup, hS, hI⟩
  simp only at hE hup hS hI
  refine W_seq (jq [0, 3, 5, 15] ?_)
  refine jd (fun h2 => ?_) (fun h2 => ?_)
  · try simp at h2
    obtain ⟨p, rfl⟩ : ∃ k : Nat, up = k := ⟨up.toNat, by omega⟩
    have hp : p < l.length := by omega
    obtain ⟨f, rfl, hE2⟩ := Ends_nat hE
    rw [ups_nat] at hI
    simp only [List.all_cons, atL_lt hp] at hI
    have hml : l[p].methods.length ≤ 1099511627776 := by have := hsz hp; simp only [sizeC] at this; omega
    refine W_skip (W_seq (W_block (jq [0, 3, 5, 6] ?_)))
    refine W_block (W_loopU (α := Nat) [0, 3, 5, 6] (fun j => [(6, .int .i64 j)]) (fun j => []) (fun j => j ≤ l[p].methods.length ∧ (l[p].methods.drop j).all (okPair l l[i] i) = l[p].methods.all (okPair l l[i] i)) (fun j => l[p].methods.length - j) (0) (fun j => by simp; rfl) (by simp) ?_ ?_)
    · simp
    rintro j ⟨hj, hJ⟩
    refine W_seq (W_rseqK [0, 3, 5, 6, 30] (jh hX (by simp [h2, hp]; rfl)) ?_)
    refine jd (fun h5 => ?_) (fun h5 => ?_)
    · try simp at h5
      rw [all_drop h5] at hJ
      refine W_skip (W_seq (W_block (W_rseqK [0, 3, 5, 6, 7] (jh hX (by simp [h2, hp, h5]; rfl)) ?_)))
      refine W_seq (W_rseqK [0, 3, 5, 6, 7, 43] (jh hX (by simp [h2, hp, h5]; rfl)) ?_)
      refine jd (fun h8 => ?_) (fun h8 => ?_)
      · try simp at h8
        have hq8 : okPair l l[i] i l[p].methods[j] = true := by simp [okPair, h8, init]
        have hJ2 := hJ
        rw [hq8, Bool.true_and] at hJ2
        refine W_exit (W_reg (jh hX (by simp; (try (simp (disch := omega) only [wrap_i64]; (try simp))); rfl)) ?_)
        refine round_endT (j + 1) [0, 3, 5, 6] 1 (by simp [hX]) (by simp) (by simp; try (simp (disch := omega) only [wrap_i64])) ?_ ?_
        · exact ⟨by omega, hJ2⟩
        · omega
      · try simp at h8
        refine W_skip (W_rseqK [0, 3, 5, 6, 7, 8] (js hX 5 (by simp [h2, hp, h5]; rfl) (jc [] (c:=(by apply ct_spec_l05Method <;> first | assumption | omega | exact hsz (by assumption) | (rw [atL_lt (by assumption)]; exact hsz (by assumption)) | (have := hsz hp; simp only [sizeC] at this; omega) | (have := hsz hq; simp only [sizeC] at this; omega))) (a:=cb_spec_l05Method) (k:=jr))) ?_)
        refine W_seq (jD [0, 3, 5, 6, 7, 66] (jS 3 (by simp; rfl) (jM 14 52 [0, 3, 5, 6, 7, 66] (p:=fun b10_3 => by (try simp at b10_3); (have hk8 := mthFrom_lt b10_3); exact (jS 3 (by simp [-atD_lt, -atL_lt, h2, hp, h5, b10_3, hk8, hi]; rfl) (jM 10 55 [0, 3, 5, 6, 7, 52, 65] (p:=fun b10_6 => by (try simp at b10_6); exact (jQ (by simp [-atD_lt, -atL_lt]; rfl))) (q:=fun b10_6 => by (try simp at b10_6); exact (jQ (by simp [-atD_lt, -atL_lt, h2, hp, h5, b10_3, hk8, hi]; rfl))) (k:=(jQ (by simp [-atD_lt, -atL_lt]; rfl)))))) (q:=fun b10_3 => by (try simp at b10_3); exact (jQ (by simp [-atD_lt, -atL_lt]; rfl))) (k:=(RunsQ.fin (by (try simp); rfl))))) ?_)
        refine jd (fun h10 => ?_) (fun h10 => ?_)
        · try simp at h10
          have hq10 : okPair l l[i] i l[p].methods[j] = false := by simp only [okPair, decide_eq_false (show ¬ l[p].methods[j].name = init from h8)]; simp; grind
          refine jq [4] ?_
          refine W_ret (je (by simp [h2, hp, h5, h10]; rfl) ?_)
          rw [← hI, ← hJ, hq10]; simp
        · try simp at h10
          have hq10 : okPair l l[i] i l[p].methods[j] = !(l[p].methods[j].abstr && !l[i].abstr && near l l[p].methods[j].name l[p].methods[j].desc (l.length + 1) i) := by simp only [okPair, decide_eq_false (show ¬ l[p].methods[j].name = init from h8)]; simp; grind
          refine W_skip (W_rseqK [0, 3, 5, 6, 7, 73] (js hX 3 (by simp [h2, hp, h5, h10]; rfl) (jm 4 69 [0, 3, 5, 6, 7, 73] (p:=fun b12_3 => by (try simp at b12_3); exact (jh hX (by simp [-atD_lt, -atL_lt, h2, hp, h5, h10]; rfl))) (q:=fun b12_3 => by (try simp at b12_3); exact (jh hX (by simp [-atD_lt, -atL_lt]; rfl))) (k:=jf))) ?_)
          refine jd (fun h12 => ?_) (fun h12 => ?_)
          · try simp at h12
            refine W_rseqK [0, 3, 5, 6, 7, 9] (js hX 3 (by simp [h2, hp, h5, h10]; rfl) (jc [] (c:=(by apply ct_spec_l05Find <;> first | assumption | omega | exact hsz (by assumption) | (rw [atL_lt (by assumption)]; exact hsz (by assumption)) | (have := hsz hp; simp only [sizeC] at this; omega) | (have := hsz hq; simp only [sizeC] at this; omega))) (a:=cb_spec_l05Find) (k:=jr))) ?_
            refine W_seq (W_block (W_loopU (α := Nat × Int) [0, 3, 5, 6, 7, 9] (fun a => [(9, .int .i64 a.2)]) (fun a => []) (fun a => Ends l a.1 a.2 ∧ (0 ≤ a.2 ∧ a.2 < l.length) ∧ near l l[p].methods[j].name l[p].methods[j].desc a.1 a.2 = near l l[p].methods[j].name l[p].methods[j].desc (l.length + 1) i ∧ ∃ u ∈ ups l a.1 a.2, 0 ≤ mthFrom l[p].methods[j].name l[p].methods[j].desc (atL l u).methods 0) (fun a => a.1) ((l.length + 1, (i : Int))) (fun a => by simp; rfl) (by simp [hu]) ?_ ?_))
            · exact ⟨hEn i hi, by omega, rfl, p, hS p (by rw [ups_nat]; simp), by rw [atL_lt hp]; exact mthFrom_has h5⟩
            rintro ⟨g, q⟩ ⟨gE, gq, gN, gU⟩
            simp only at gE gq gN gU
            obtain ⟨q, rfl⟩ : ∃ k : Nat, q = k := ⟨q.toNat, by omega⟩
            have hq : q < l.length := by omega
            obtain ⟨g, rfl, gE2⟩ := Ends_nat gE
            rw [near_nat, atL_lt hq] at gN
            rw [ups_nat] at gU
            refine W_seq (jD [0, 3, 5, 6, 7, 9, 87] (jS 8 (by simp [h2, hp, h5, h10, hq]; rfl) (jC (c:=by apply ct_spec_l05Method <;> first | assumption | omega | exact hsz (by assumption) | (rw [atL_lt (by assumption)]; exact hsz (by assumption)) | (have := hsz hp; simp only [sizeC] at this; omega) | (have := hsz hq; simp only [sizeC] at this; omega)) (a:=cb_spec_l05Method) (k:=(jQ (by simp; rfl))))) ?_)
            refine jd (fun h14 => ?_) (fun h14 => ?_)
            · try simp at h14
              rw [if_neg (by (try simp only [atL_lt hq] at h14); omega)] at gN
              have gU2 : ∃ u ∈ ups l g (nxt l q), 0 ≤ mthFrom l[p].methods[j].name l[p].methods[j].desc (atL l u).methods 0 := by
                obtain ⟨u, h1, h2⟩ := gU
                rcases List.mem_cons.1 h1 with rfl | h1
                · rw [atL_lt hq] at h2; (try simp only [atL_lt hq] at h14); omega
                · exact ⟨u, h1, h2⟩
              have gP : 0 ≤ nxt l q := by
                obtain ⟨u, h1, _⟩ := gU2
                rcases Int.lt_or_le (nxt l q) 0 with h | h
                · cases g <;> simp [ups, h] at h1
                · exact h
              refine W_skip (W_block (W_reg (js hX 6 (by simp [h2, hp, h5, h10, hq, h14]; rfl) (jc [] (c:=(by apply ct_spec_l05Find <;> first | assumption | omega | exact hsz (by assumption) | (rw [atL_lt (by assumption)]; exact hsz (by assumption)) | (have := hsz hp; simp only [sizeC] at this; omega) | (have := hsz hq; simp only [sizeC] at this; omega))) (a:=cb_spec_l05Find) (k:=jr))) ?_))
              refine round_end ((g, nxt l q)) [0, 3, 5, 6, 7, 9] (by simp [nxt_nat, hq]) ?_ ?_
              · exact ⟨gE2, ⟨gP, (@nxt_ge l q).2⟩, gN, gU2⟩
              · simp
            · try simp at h14
              have h14b := mthFrom_lt h14
              rw [if_pos h14, atL_lt h14b] at gN
              refine W_exit (jD [0, 3, 5, 6, 111] (jS 13 (by simp [h2, hp, h5, h10, hq, h14, hq, h14b, h14]; rfl) (jC (c:=by apply ct_spec_l05Method <;> first | assumption | omega | exact hsz (by assumption) | (rw [atL_lt (by assumption)]; exact hsz (by assumption)) | (have := hsz hp; simp only [sizeC] at this; omega) | (have := hsz hq; simp only [sizeC] at this; omega)) (a:=cb_spec_l05Method) (k:=(jQ (by simp [h2, hp, h5, h10, hq, h14, hq, h14b, h14]; rfl))))) ?_)
              refine jd (fun h16 => ?_) (fun h16 => ?_)
              · try simp at h16
                have hq16 : okPair l l[i] i l[p].methods[j] = false := by rw [hq10, ← gN, h16]; grind
                refine jq [4] ?_
                refine W_ret (je (by simp [h2, hp, h5, h10, hq, h14, hq, h14b, h14]; rfl) ?_)
                rw [← hI, ← hJ, hq16]; simp
              · try simp at h16
                have hq16 : okPair l l[i] i l[p].methods[j] = true := by rw [hq10, ← gN, h16]; simp
                have hJ2 := hJ
                rw [hq16, Bool.true_and] at hJ2
                refine W_skip (W_reg (jh hX (by simp; (try (simp (disch := omega) only [wrap_i64]; (try simp))); rfl)) ?_)
                refine round_endT (j + 1) [0, 3, 5, 6] 1 (by simp [hX]) (by simp) (by simp; try (simp (disch := omega) only [wrap_i64])) ?_ ?_
                · exact ⟨by omega, hJ2⟩
                · omega
          · try simp at h12
            have hJ2 := hJ
            rw [hq10, show (l[p].methods[j].abstr && !l[i].abstr) = false from by grind] at hJ2
            simp only [Bool.false_and, Bool.not_false, Bool.true_and] at hJ2
            refine W_skip (W_reg (jh hX (by simp; (try (simp (disch := omega) only [wrap_i64]; (try simp))); rfl)) ?_)
            refine round_endT (j + 1) [0, 3, 5, 6] 1 (by simp [hX]) (by simp) (by simp; try (simp (disch := omega) only [wrap_i64])) ?_ ?_
            · exact ⟨by omega, hJ2⟩
            · omega
    · try simp at h5
      rw [List.drop_eq_nil_of_le h5] at hJ
      simp only [List.all_nil] at hJ
      rw [← hJ, Bool.true_and] at hI
      refine W_exit (W_reg (js hX 6 (by simp [h2, hp, h5]; rfl) (jc [] (c:=(by apply ct_spec_l05Find <;> first | assumption | omega | exact hsz (by assumption) | (rw [atL_lt (by assumption)]; exact hsz (by assumption)) | (have := hsz hp; simp only [sizeC] at this; omega) | (have := hsz hq; simp only [sizeC] at this; omega))) (a:=cb_spec_l05Find) (k:=jr))) ?_)
      refine round_end ((f, nxt l p)) [0, 3, 5] (by simp [nxt_nat, hp]) ?_ ?_
      · exact ⟨hE2, @nxt_ge l p, fun u h => hS u (by rw [ups_nat]; exact List.mem_cons_of_mem _ h), hI⟩
      · simp
  · try simp at h2
    have hnil : ups l f up = [] := by cases f <;> simp [ups, h2]
    rw [hnil] at hI
    refine W_exit (jq [4] ?_)
    refine W_ret (je (by simp [h2]; rfl) ?_)
    simp [← hI]
end Go.Proofs
namespace Go.Proofs
open Go Go.Ev


theorem cb_spec_WorldCheck : Callable Tryz.prog 94 := ⟨_, Tryz.func94, by kernel_rfl, by kernel_rfl⟩
theorem ct_spec_WorldCheck {l : List Cls} (hl : sizeL l ≤ 1099511627776) : Ct Tryz.prog 94 [.lst false 6 (l.map eC)] [] (.agg [.int .i64 (worldCheck l).1, .int .i64 (worldCheck l).2]) [] := by
  have hll : l.length ≤ 1099511627776 := by unfold sizeL at hl; omega
  have hsz : ∀ {k : Nat} (h : k < l.length), sizeC l[k] ≤ 1099511627776 := fun h => Nat.le_trans (sizeL_at h) hl
  refine Ct_bodyS tok Tryz.func94 rfl 162 (by kernel_rfl) (by kernel_rfl) fun X hX => ?_
  refine jq [0, 2] ?_
  refine W_seq (jq [0, 2, 13] ?_)
  refine jd (fun h1 => ?_) (fun h1 => ?_)
  · try simp at h1
    refine W_rseqK [2] (jh hX (by simp [h1]; rfl)) ?_
    refine W_ret (je (by simp [h1]; rfl) ?_)
    simp [worldCheck, h1]
  · try simp at h1
    refine W_skip (W_seq (W_rseqK [0, 2, 17] (jh hX (by simp [h1]; rfl)) ?_))
    refine jd (fun h3 => ?_) (fun h3 => ?_)
    · try simp at h3
      refine W_rseqK [2] (jh hX (by simp [h1, h3]; rfl)) ?_
      refine W_ret (je (by simp [h1, h3]; rfl) ?_)
      have h1b : ¬ 400 < l.length := by omega
      simp [worldCheck, h1b, h3]
    · try simp at h3
      rw [show worldCheck l = checkAll l from by unfold worldCheck; rw [if_neg (by omega), if_neg (by omega)]]
      refine W_skip (W_seq (jq [0, 2, 3] ?_))
      refine W_block (W_loopU (α := Nat) [0, 2, 3] (fun i => [(3, .int .i64 i)]) (fun i => []) (fun i => i ≤ l.length ∧ firstBad (pass1 l) (l.length - i) i = firstBad (pass1 l) l.length 0) (fun i => l.length - i) (0) (fun i => by simp; rfl) (by simp) ?_ ?_)
      · simp
      rintro i ⟨hi1, hI1⟩
      refine W_seq (W_rseqK [0, 2, 3, 22] (jh hX (by simp [h1, h3]; rfl)) ?_)
      refine jd (fun h6 => ?_) (fun h6 => ?_)
      · try simp at h6
        rw [show l.length - i = (l.length - (i + 1)) + 1 from by omega] at hI1
        simp only [firstBad] at hI1
        refine W_skip (W_seq (W_block (W_seq (W_rseqK [0, 2, 3, 30] (js hX 4 (by simp [h1, h3, h6]; rfl) (jc [] (c:=(by apply ct_spec_ClassRight <;> first | assumption | omega | exact hsz (by assumption) | (rw [atL_lt (by assumption)]; exact hsz (by assumption)) | (have := hsz h22; simp only [sizeC] at this; omega) | (have := hsz h13; simp only [sizeC] at this; omega) | (have := hsz h6; simp only [sizeC] at this; (try simp only [atL_lt h6]); omega)| (have := hsz h26; simp only [sizeC] at this; (try simp only [atL_lt h26]); omega) | (have := hsz h30q; simp only [sizeC] at this; omega))) (a:=cb_spec_ClassRight) (k:=jr))) ?_))))
        refine jd (fun h8 => ?_) (fun h8 => ?_)
        · try simp at h8
          refine W_rseqK [2] (jh hX (by simp [h1, h3, h6]; rfl)) ?_
          refine W_ret (je (by simp [h1, h3, h6]; rfl) ?_)
          have hp : pass1 l i = 1 := by simp [pass1, atL_lt h6, h8]
          rw [if_neg (by rw [hp]; simp), hp] at hI1
          simp [checkAll, ← hI1]
        · try simp at h8
          refine W_skip (W_rseqK [0, 2, 3, 50] (js hX 5 (by simp [h1, h3, h6]; rfl) (jc [] (c:=(by apply ct_spec_l05Built <;> first | assumption | omega | exact hsz (by assumption) | (rw [atL_lt (by assumption)]; exact hsz (by assumption)) | (have := hsz h22; simp only [sizeC] at this; omega) | (have := hsz h13; simp only [sizeC] at this; omega) | (have := hsz h6; simp only [sizeC] at this; (try simp only [atL_lt h6]); omega)| (have := hsz h26; simp only [sizeC] at this; (try simp only [atL_lt h26]); omega) | (have := hsz h30q; simp only [sizeC] at this; omega))) (a:=cb_spec_l05Built) (k:=(jt 2 (k:=(jm 10 40 [0, 2, 3, 50] (p:=fun b10_8 => by (try simp at b10_8); exact (jh hX (by simp [-atD_lt, -atL_lt]; rfl))) (q:=fun b10_8 => by (try simp at b10_8); exact (js hX 6 (by simp [-atD_lt, -atL_lt, h1, h3, h6, b10_8]; rfl) (Runs.call [] rfl (by simp) rfl (by simp [-atD_lt, -atL_lt]; rfl) (by simp; rfl) (by apply ct_spec_l05Find <;> first | assumption | omega | exact hsz (by assumption) | (rw [atL_lt (by assumption)]; exact hsz (by assumption)) | (have := hsz h22; simp only [sizeC] at this; omega) | (have := hsz h13; simp only [sizeC] at this; omega) | (have := hsz h6; simp only [sizeC] at this; (try simp only [atL_lt h6]); omega)| (have := hsz h26; simp only [sizeC] at this; (try simp only [atL_lt h26]); omega) | (have := hsz h30q; simp only [sizeC] at this; omega)) cb_spec_l05Find (by simp) (by simp) (by simp [-atD_lt, -atL_lt]; rfl) (jh hX (by simp [-atD_lt, -atL_lt]; rfl))))) (k:=jf))))))) ?_)
          refine jd (fun h10 => ?_) (fun h10 => ?_)
          · try simp at h10
            refine W_rseqK [2] (jh hX (by simp [h1, h3, h6, h10]; rfl)) ?_
            refine W_ret (je (by simp [h1, h3, h6, h10]; rfl) ?_)
            have hp : pass1 l i = 7 := by simp only [pass1, atL_lt h6, h8, if_true]; rw [if_pos (by simpa [atL_lt h6] using h10)]
            rw [if_neg (by rw [hp]; simp), hp] at hI1
            simp [checkAll, ← hI1]
          · try simp at h10
            have hp : pass1 l i = 0 := by simp only [pass1, atL_lt h6, h8, if_true]; rw [if_neg (by simp [atL_lt h6] at h10 ⊢; omega)]
            rw [if_pos hp] at hI1
            have hJ := hI1
            refine W_skip (W_reg (jh hX (by simp; (try (simp (disch := omega) only [wrap_i64]; (try simp))); rfl)) ?_)
            refine round_end (i + 1) [0, 2, 3] (by simp [h1, h3, h6, h10]; try (simp (disch := omega) only [wrap_i64])) ?_ ?_
            · exact ⟨by omega, hJ⟩
            · omega
      · try simp at h6
        rw [show l.length - i = 0 from by omega] at hI1
        simp only [firstBad] at hI1
        refine W_exit (W_seq (jq [0, 2, 4] ?_))
        refine W_block (W_loopU (α := Nat) [0, 2, 4] (fun i => [(4, .int .i64 i)]) (fun i => []) (fun i => i ≤ l.length ∧ firstBad (pass2 l) (l.length - i) i = firstBad (pass2 l) l.length 0) (fun i => l.length - i) (0) (fun i => by simp; rfl) (by simp) ?_ ?_)
        · simp
        rintro i ⟨hi2, hI2⟩
        refine W_seq (W_rseqK [0, 2, 4, 56] (jh hX (by simp [h1, h3, h6]; rfl)) ?_)
        refine jd (fun h13 => ?_) (fun h13 => ?_)
        · try simp at h13
          rw [show l.length - i = (l.length - (i + 1)) + 1 from by omega] at hI2
          simp only [firstBad] at hI2
          refine W_skip (W_seq (W_block (W_rseqK [0, 2, 4, 5] (js hX 6 (by simp [h1, h3, h6, h13]; rfl) (jc [] (c:=(by apply ct_spec_l05Find <;> first | assumption | omega | exact hsz (by assumption) | (rw [atL_lt (by assumption)]; exact hsz (by assumption)) | (have := hsz h22; simp only [sizeC] at this; omega) | (have := hsz h13; simp only [sizeC] at this; omega) | (have := hsz h6; simp only [sizeC] at this; (try simp only [atL_lt h6]); omega)| (have := hsz h26; simp only [sizeC] at this; (try simp only [atL_lt h26]); omega) | (have := hsz h30q; simp only [sizeC] at this; omega))) (a:=cb_spec_l05Find) (k:=jr))) ?_)))
          refine W_seq (W_rseqK [0, 2, 4, 5, 73] (js hX 6 (by simp [h1, h3, h6, h13]; rfl) (jc [] (c:=(by apply ct_spec_l05Known <;> first | assumption | omega | exact hsz (by assumption) | (rw [atL_lt (by assumption)]; exact hsz (by assumption)) | (have := hsz h22; simp only [sizeC] at this; omega) | (have := hsz h13; simp only [sizeC] at this; omega) | (have := hsz h6; simp only [sizeC] at this; (try simp only [atL_lt h6]); omega)| (have := hsz h26; simp only [sizeC] at this; (try simp only [atL_lt h26]); omega) | (have := hsz h30q; simp only [sizeC] at this; omega))) (a:=cb_spec_l05Known) (k:=jr))) ?_)
          refine jd (fun h16 => ?_) (fun h16 => ?_)
          · try simp at h16
            refine W_rseqK [2] (jh hX (by simp [h1, h3, h6, h13]; rfl)) ?_
            refine W_ret (je (by simp [h1, h3, h6, h13]; rfl) ?_)
            have hp : pass2 l i = 8 := by simp [pass2, atL_lt h13, h16]
            rw [if_neg (by rw [hp]; simp), hp] at hI2
            simp [checkAll, ← hI1, ← hI2]
          · try simp at h16
            refine W_skip (W_rseqK [0, 2, 4, 93] (js hX 5 (by simp [h1, h3, h6, h13]; rfl) (jc [] (c:=(by apply ct_spec_l05Built <;> first | assumption | omega | exact hsz (by assumption) | (rw [atL_lt (by assumption)]; exact hsz (by assumption)) | (have := hsz h22; simp only [sizeC] at this; omega) | (have := hsz h13; simp only [sizeC] at this; omega) | (have := hsz h6; simp only [sizeC] at this; (try simp only [atL_lt h6]); omega)| (have := hsz h26; simp only [sizeC] at this; (try simp only [atL_lt h26]); omega) | (have := hsz h30q; simp only [sizeC] at this; omega))) (a:=cb_spec_l05Built) (k:=(jt 2 (k:=(jm 10 83 [0, 2, 4, 93] (p:=fun b18_8 => by (try simp at b18_8); exact (jh hX (by simp [-atD_lt, -atL_lt]; rfl))) (q:=fun b18_8 => by (try simp at b18_8); exact (js hX 3 (by simp [-atD_lt, -atL_lt]; rfl) (jm 6 86 [0, 2, 4, 83, 92] (p:=fun b18_11 => by (try simp at b18_11); (have hfl := findFrom_lt (l := l) b18_11); exact (jh hX (by simp [-atD_lt, -atL_lt, h1, h3, h6, h13, b18_8, b18_11, hfl, b18_11]; rfl))) (q:=fun b18_11 => by (try simp at b18_11); exact (jh hX (by simp [-atD_lt, -atL_lt]; rfl))) (k:=(jh hX (by simp [-atD_lt, -atL_lt]; rfl)))))) (k:=jf))))))) ?_)
            refine jd (fun h18 => ?_) (fun h18 => ?_)
            · try simp at h18
              refine W_rseqK [2] (jh hX (by simp [h1, h3, h6, h13, h18]; rfl)) ?_
              refine W_ret (je (by simp [h1, h3, h6, h13, h18]; rfl) ?_)
              have hp : pass2 l i = 14 := by simp only [pass2, atL_lt h13, h16, if_true]; rw [if_pos (by simpa using h18)]
              rw [if_neg (by rw [hp]; simp), hp] at hI2
              simp [checkAll, ← hI1, ← hI2]
            · try simp at h18
              have hp : pass2 l i = 0 := by simp only [pass2, atL_lt h13, h16, if_true]; rw [if_neg (by simp at h18 ⊢; exact h18)]
              rw [if_pos hp] at hI2
              have hJ := hI2
              refine W_skip (W_reg (jh hX (by simp; (try (simp (disch := omega) only [wrap_i64]; (try simp))); rfl)) ?_)
              refine round_end (i + 1) [0, 2, 4] (by simp [h1, h3, h6, h13, h18]; try (simp (disch := omega) only [wrap_i64])) ?_ ?_
              · exact ⟨by omega, hJ⟩
              · omega
        · try simp at h13
          rw [show l.length - i = 0 from by omega] at hI2
          simp only [firstBad] at hI2
          refine W_exit (W_seq (jq [0, 2, 6] ?_))
          refine W_block (W_loopU (α := Nat) [0, 2, 6] (fun i => [(6, .int .i64 i)]) (fun i => []) (fun i => i ≤ l.length ∧ firstBad (pass3 l) (l.length - i) i = firstBad (pass3 l) l.length 0) (fun i => l.length - i) (0) (fun i => by simp; rfl) (by simp) ?_ ?_)
          · simp
          rintro i ⟨hi3, hI3⟩
          refine W_seq (W_rseqK [0, 2, 6, 99] (jh hX (by simp [h1, h3, h6, h13]; rfl)) ?_)
          refine jd (fun h21 => ?_) (fun h21 => ?_)
          · try simp at h21
            rw [show l.length - i = (l.length - (i + 1)) + 1 from by omega] at hI3
            simp only [firstBad] at hI3
            refine W_skip (W_seq (W_block (W_rseqK [0, 2, 6, 108] (js hX 5 (by simp [h1, h3, h6, h13, h21]; rfl) (jc [] (c:=(by apply ct_spec_l05Types <;> first | assumption | omega | exact hsz (by assumption) | (rw [atL_lt (by assumption)]; exact hsz (by assumption)) | (have := hsz h22; simp only [sizeC] at this; omega) | (have := hsz h13; simp only [sizeC] at this; omega) | (have := hsz h6; simp only [sizeC] at this; (try simp only [atL_lt h6]); omega)| (have := hsz h26; simp only [sizeC] at this; (try simp only [atL_lt h26]); omega) | (have := hsz h30q; simp only [sizeC] at this; omega))) (a:=cb_spec_l05Types) (k:=jr))) ?_)))
            refine jd (fun h23 => ?_) (fun h23 => ?_)
            · try simp at h23
              refine W_rseqK [2] (jh hX (by simp [h1, h3, h6, h13, h21]; rfl)) ?_
              refine W_ret (je (by simp [h1, h3, h6, h13, h21]; rfl) ?_)
              have hp : pass3 l i = 6 := by simp [pass3, atL_lt h21, h23]
              rw [if_neg (by rw [hp]; simp), hp] at hI3
              simp [checkAll, ← hI1, ← hI2, ← hI3]
            · try simp at h23
              have hp : pass3 l i = 0 := by simp [pass3, atL_lt h21, h23]
              rw [if_pos hp] at hI3
              have hJ := hI3
              refine W_skip (W_reg (jh hX (by simp; (try (simp (disch := omega) only [wrap_i64]; (try simp))); rfl)) ?_)
              refine round_end (i + 1) [0, 2, 6] (by simp [h1, h3, h6, h13, h21]; try (simp (disch := omega) only [wrap_i64])) ?_ ?_
              · exact ⟨by omega, hJ⟩
              · omega
          · try simp at h21
            rw [show l.length - i = 0 from by omega] at hI3
            simp only [firstBad] at hI3
            refine W_exit (W_seq (jq [0, 2, 7] ?_))
            refine W_block (W_loopU (α := Nat) [0, 2, 7] (fun i => [(7, .int .i64 i)]) (fun i => []) (fun i => i ≤ l.length ∧ firstBad (pass4 l) (l.length - i) i = firstBad (pass4 l) l.length 0) (fun i => l.length - i) (0) (fun i => by simp; rfl) (by simp) ?_ ?_)
            · simp
            rintro i ⟨hi4, hI4⟩
            refine W_seq (W_rseqK [0, 2, 7, 114] (jh hX (by simp [h1, h3, h6, h13, h21]; rfl)) ?_)
            refine jd (fun h26 => ?_) (fun h26 => ?_)
            · try simp at h26
              rw [show l.length - i = (l.length - (i + 1)) + 1 from by omega] at hI4
              simp only [firstBad] at hI4
              refine W_skip (W_seq (W_block (W_rseqK [0, 2, 7, 8] (js hX 6 (by simp [h1, h3, h6, h13, h21, h26]; rfl) (jc [] (c:=(by apply ct_spec_l05Find <;> first | assumption | omega | exact hsz (by assumption) | (rw [atL_lt (by assumption)]; exact hsz (by assumption)) | (have := hsz h22; simp only [sizeC] at this; omega) | (have := hsz h13; simp only [sizeC] at this; omega) | (have := hsz h6; simp only [sizeC] at this; (try simp only [atL_lt h6]); omega)| (have := hsz h26; simp only [sizeC] at this; (try simp only [atL_lt h26]); omega) | (have := hsz h30q; simp only [sizeC] at this; omega))) (a:=cb_spec_l05Find) (k:=jr))) ?_)))
              refine jq [0, 2, 7, 8, 9] ?_
              refine W_block (W_loopU (α := Nat × Int) [0, 2, 7, 8, 9] (fun a => [(8, .int .i64 a.2), (9, .int .i64 a.1)]) (fun a => []) (fun a => a.1 ≤ l.length + 1 ∧ (-1 ≤ a.2 ∧ a.2 < l.length) ∧ cycF l i (l.length + 1 - a.1) a.2 = cyc l i) (fun a => l.length + 1 - a.1) ((0, nxt l i)) (fun a => by simp; rfl) (by simp [nxt_nat, atL_lt h26]) ?_ ?_)
              · exact ⟨by simp, @nxt_ge l i, rfl⟩
              rintro ⟨s, up⟩ ⟨hs, hup, hC⟩
              simp only at hs hup hC
              refine W_seq (W_rseqK [0, 2, 7, 8, 9, 131] (js hX 5 (by simp [h1, h3, h6, h13, h21, h26]; rfl) (jm 3 128 [0, 2, 7, 8, 9, 131] (p:=fun b30_5 => by (try simp at b30_5); exact (jh hX (by simp [-atD_lt, -atL_lt]; rfl))) (q:=fun b30_5 => by (try simp at b30_5); exact (jh hX (by simp [-atD_lt, -atL_lt]; rfl))) (k:=jf))) ?_)
              refine jd (fun h30 => ?_) (fun h30 => ?_)
              · try simp at h30
                obtain ⟨p, rfl⟩ : ∃ k : Nat, up = k := ⟨up.toNat, by omega⟩
                have h30q : p < l.length := by omega
                rw [show l.length + 1 - s = (l.length + 1 - (s + 1)) + 1 from by omega] at hC
                simp only [cycF] at hC
                rw [if_neg (by omega)] at hC
                refine W_skip (W_seq (W_block (W_seq (jq [0, 2, 7, 8, 9, 136] ?_))))
                refine jd (fun h32 => ?_) (fun h32 => ?_)
                · try simp at h32
                  refine W_rseqK [2] (jh hX (by simp [h1, h3, h6, h13, h21, h26, h30, h30q]; rfl)) ?_
                  refine W_ret (je (by simp [h1, h3, h6, h13, h21, h26, h30, h30q]; rfl) ?_)
                  rw [if_pos (by simpa using h32)] at hC
                  have hp : pass4 l i = 9 := by simp [pass4, ← hC]
                  rw [if_neg (by rw [hp]; simp), hp] at hI4
                  simp [checkAll, ← hI1, ← hI2, ← hI3, ← hI4]
                · try simp at h32
                  rw [if_neg (by simpa using h32)] at hC
                  refine W_skip (W_reg (js hX 6 (by simp [h1, h3, h6, h13, h21, h26, h30, h30q]; rfl) (jc [] (c:=(by apply ct_spec_l05Find <;> first | assumption | omega | exact hsz (by assumption) | (rw [atL_lt (by assumption)]; exact hsz (by assumption)) | (have := hsz h22; simp only [sizeC] at this; omega) | (have := hsz h13; simp only [sizeC] at this; omega) | (have := hsz h6; simp only [sizeC] at this; (try simp only [atL_lt h6]); omega)| (have := hsz h26; simp only [sizeC] at this; (try simp only [atL_lt h26]); omega) | (have := hsz h30q; simp only [sizeC] at this; omega))) (a:=cb_spec_l05Find) (k:=jr))) ?_)
                  refine W_reg (jh hX (by simp; (try (simp (disch := omega) only [wrap_i64]; (try simp))); rfl)) ?_
                  refine round_end ((s + 1, nxt l p)) [0, 2, 7, 8, 9] (by simp [nxt_nat, h30q]; (try (simp (disch := omega) only [wrap_i64]))) ?_ ?_
                  · exact ⟨by omega, @nxt_ge l p, hC⟩
                  · simp; omega
              · try simp at h30
                have hcy : cyc l i = false := by
                  rw [← hC]
                  rcases Nat.lt_or_ge s (l.length + 1) with h | h
                  · rw [show l.length + 1 - s = (l.length - s) + 1 from by omega, cycF, if_pos (by omega)]
                  · rw [show l.length + 1 - s = 0 from by omega, cycF]
                have hp : pass4 l i = 0 := by simp [pass4, hcy]
                rw [if_pos hp] at hI4
                have hJ := hI4
                refine W_exit (W_reg (jh hX (by simp; (try (simp (disch := omega) only [wrap_i64]; (try simp))); rfl)) ?_)
                refine round_end (i + 1) [0, 2, 7] (by simp [h1, h3, h6, h13, h21, h26, h30]; try (simp (disch := omega) only [wrap_i64])) ?_ ?_
                · exact ⟨by omega, hJ⟩
                · omega
            · try simp at h26
              rw [show l.length - i = 0 from by omega] at hI4
              simp only [firstBad] at hI4
              have hu : ∀ {j : Nat} (h : j < l.length), findFrom l[j].name l 0 = j := fun h => uniq_of_pass1 h (firstBad_none hI1.symm _ (Nat.zero_le _) (by omega))
              have hEn : ∀ j : Nat, j < l.length → Ends l (l.length + 1) j := fun j h => ends_of_noCyc (fun k hk => by have := firstBad_none hI4.symm k (Nat.zero_le _) (by omega); simp only [pass4] at this; split at this <;> simp_all) h
              refine W_exit (W_seq (jq [0, 2, 10] ?_))
              refine W_block (W_loopU (α := Nat) [0, 2, 10] (fun i => [(10, .int .i64 i)]) (fun i => []) (fun i => i ≤ l.length ∧ firstBad (pass5 l) (l.length - i) i = firstBad (pass5 l) l.length 0) (fun i => l.length - i) (0) (fun i => by simp; rfl) (by simp) ?_ ?_)
              · simp
              rintro i ⟨hi5, hI5⟩
              refine W_seq (W_rseqK [0, 2, 10, 149] (jh hX (by simp [h1, h3, h6, h13, h21, h26]; rfl)) ?_)
              refine jd (fun h36 => ?_) (fun h36 => ?_)
              · try simp at h36
                rw [show l.length - i = (l.length - (i + 1)) + 1 from by omega] at hI5
                simp only [firstBad] at hI5
                have hu36 := hu h36
                refine W_skip (W_seq (W_block (W_rseqK [0, 2, 10, 158] (js hX 5 (by simp [h1, h3, h6, h13, h21, h26, h36]; rfl) (jc [] (c:=(by apply ct_spec_l05Access <;> first | assumption | omega | exact hsz (by assumption) | (rw [atL_lt (by assumption)]; exact hsz (by assumption)) | (have := hsz h22; simp only [sizeC] at this; omega) | (have := hsz h13; simp only [sizeC] at this; omega) | (have := hsz h6; simp only [sizeC] at this; (try simp only [atL_lt h6]); omega)| (have := hsz h26; simp only [sizeC] at this; (try simp only [atL_lt h26]); omega) | (have := hsz h30q; simp only [sizeC] at this; omega))) (a:=cb_spec_l05Access) (k:=jr))) ?_)))
                refine jd (fun h38 => ?_) (fun h38 => ?_)
                · try simp at h38
                  refine W_rseqK [2] (jh hX (by simp [h1, h3, h6, h13, h21, h26, h36]; rfl)) ?_
                  refine W_ret (je (by simp [h1, h3, h6, h13, h21, h26, h36]; rfl) ?_)
                  have hp : pass5 l i = 14 := by simp [pass5, h38]
                  rw [if_neg (by rw [hp]; simp), hp] at hI5
                  simp [checkAll, ← hI1, ← hI2, ← hI3, ← hI4, ← hI5]
                · try simp at h38
                  have hp : pass5 l i = 0 := by simp [pass5, h38]
                  rw [if_pos hp] at hI5
                  have hJ := hI5
                  refine W_skip (W_reg (jh hX (by simp; (try (simp (disch := omega) only [wrap_i64]; (try simp))); rfl)) ?_)
                  refine round_end (i + 1) [0, 2, 10] (by simp [h1, h3, h6, h13, h21, h26, h36]; try (simp (disch := omega) only [wrap_i64])) ?_ ?_
                  · exact ⟨by omega, hJ⟩
                  · omega
              · try simp at h36
                rw [show l.length - i = 0 from by omega] at hI5
                simp only [firstBad] at hI5
                refine W_exit (W_rseqK [2] (jh hX (by simp [h1, h3, h6, h13, h21, h26, h36]; rfl)) ?_)
                refine W_ret (je (by simp [h1, h3, h6, h13, h21, h26, h36]; rfl) ?_)
                simp [checkAll, ← hI1, ← hI2, ← hI3, ← hI4, ← hI5]
end Go.Proofs
namespace Go.Proofs
open Go Go.Ev


theorem cb_spec_l05Right : Callable Tryz.prog 44 := ⟨_, Tryz.func44, by kernel_rfl, by kernel_rfl⟩
theorem ct_spec_l05Right {l : List Cls} (hl : sizeL l ≤ 1099511627776) : Ct Tryz.prog 44 [.lst false 6 (l.map eC)] [] (.bool (rightW l)) [] := by
  refine Ct_bodyS tok Tryz.func44 rfl 7 (by kernel_rfl) (by kernel_rfl) fun X hX => ?_
  refine jq [0] ?_
  refine W_rseqK [2] (jt 1 (k:=(jc [] (c:=(by apply ct_spec_WorldCheck <;> first | assumption | omega | (simp at *; omega) | simp_all)) (a:=cb_spec_WorldCheck) (k:=jr)))) ?_
  refine W_ret (je0 ?_)
  simp [rightW]
end Go.Proofs
namespace Go.Proofs
open Go Go.Ev


theorem cb_spec_TypeKnown : Callable Tryz.prog 10 := ⟨_, Tryz.func10, by kernel_rfl, by kernel_rfl⟩
theorem ct_spec_TypeKnown {l : List Cls} {t : Typ} (hl : sizeL l ≤ 1099511627776) : Ct Tryz.prog 10 [.lst false 6 (l.map eC), eT t] [] (.bool (typeKnownW l t)) [] := by
  have hll : l.length ≤ 1099511627776 := by unfold sizeL at hl; omega
  refine Ct_bodyS tok Tryz.func10 rfl 12 (by kernel_rfl) (by kernel_rfl) fun X hX => ?_
  refine jq [0, 3] ?_
  refine W_rseqK [4] (jt 1 (k:=(jc [] (c:=(by apply ct_spec_l05Right <;> first | assumption | omega | (simp at *; omega) | simp_all)) (a:=cb_spec_l05Right) (k:=(jt 1 (k:=(jm 4 7 [11] (p:=fun b1_3 => by (try simp at b1_3); exact (js hX 2 (by simp [-atD_lt, -atL_lt]; rfl) (Runs.call [] rfl (by simp) rfl (by simp [-atD_lt, -atL_lt]; rfl) (by simp; rfl) (by apply ct_spec_l06Known <;> first | assumption | omega | (simp at *; omega) | simp_all) cb_spec_l06Known (by simp) (by simp) (by simp [-atD_lt, -atL_lt]; rfl) (jh hX (by simp [-atD_lt, -atL_lt]; rfl))))) (q:=fun b1_3 => by (try simp at b1_3); exact (jh hX (by simp [-atD_lt, -atL_lt]; rfl))) (k:=jr)))))))) ?_
  refine W_ret (je0 ?_)
  simp only [typeKnownW]
end Go.Proofs
namespace Go.Proofs
open Go Go.Ev


theorem cb_spec_l06List : Callable Tryz.prog 92 := ⟨_, Tryz.func92, by kernel_rfl, by kernel_rfl⟩
theorem ct_spec_l06List {t : Typ} : Ct Tryz.prog 92 [eT t] [] (.bool (decide (t.k = 4 ∨ t.k = 5))) [] := by
  refine Ct_bodyS tok Tryz.func92 rfl 11 (by kernel_rfl) (by kernel_rfl) fun X hX => ?_
  refine jq [1] ?_
  refine W_rseqK [2] (jt 4 (k:=(jm 4 6 [10] (p:=fun b1_4 => by (try simp at b1_4); exact (jh hX (by simp [-atD_lt, -atL_lt]; rfl))) (q:=fun b1_4 => by (try simp at b1_4); exact (jh hX (by simp [-atD_lt, -atL_lt]; rfl))) (k:=jr)))) ?_
  refine W_ret (je0 ?_)
  simp
end Go.Proofs
namespace Go.Proofs
open Go Go.Ev


theorem cb_spec_l05Super : Callable Tryz.prog 157 := ⟨_, Tryz.func157, by kernel_rfl, by kernel_rfl⟩
theorem ct_spec_l05Super {l : List Cls} {n : Str} (hl : l.length ≤ 1099511627776) : Ct Tryz.prog 157 [.lst false 6 (l.map eC), .str n] [] (.str (superOf l n)) [] := by
  refine Ct_bodyS tok Tryz.func157 rfl 24 (by kernel_rfl) (by kernel_rfl) fun X hX => ?_
  refine jq [0, 1] ?_
  refine W_rseqK [0, 1, 5] (jt 1 (k:=(jc [] (c:=(by apply ct_spec_l05Built <;> first | assumption | omega | (simp at *; omega) | simp_all)) (a:=cb_spec_l05Built) (k:=jr)))) ?_
  refine W_seq (jq [0, 1, 5, 9] ?_)
  refine jd (fun h2 => ?_) (fun h2 => ?_)
  · try simp at h2
    refine jq [4] ?_
    refine W_ret (je0 ?_)
    simp only [superOf, sObject, sError]
    (try simp_all) <;> grind
  · try simp at h2
    refine W_skip (W_seq (jq [0, 1, 5, 11] ?_))
    refine jd (fun h4 => ?_) (fun h4 => ?_)
    · try simp at h4
      refine jq [4] ?_
      refine W_ret (je0 ?_)
      simp only [superOf, sObject, sError]
      (try simp_all) <;> grind
    · try simp at h4
      refine W_skip (W_seq (jq [0, 1, 13] ?_))
      refine jd (fun h6 => ?_) (fun h6 => ?_)
      · try simp at h6
        refine jq [4] ?_
        refine W_ret (je (by simp [h6]; rfl) ?_)
        simp only [superOf, sObject, sError]
        (try simp_all) <;> grind
      · try simp at h6
        refine W_skip (W_rseqK [0, 5] (jt 2 (k:=(jc [] (c:=(by apply ct_spec_l05Find <;> first | assumption | omega | (simp at *; omega) | simp_all)) (a:=cb_spec_l05Find) (k:=jr)))) ?_)
        refine W_seq (jq [0, 5, 18] ?_)
        refine jd (fun h9 => ?_) (fun h9 => ?_)
        · try simp at h9
          refine jq [4] ?_
          refine W_ret (je (by simp [h6, h9]; rfl) ?_)
          simp only [superOf, sObject, sError]
          (try simp_all) <;> grind
        · try simp at h9
          have h9b := findFrom_lt (n := n) (l := l) (by omega)
          have h9c : 0 ≤ findFrom n l 0 := by omega
          refine W_skip (W_rseqK [4] (jh hX (by simp [h6, h9, h9b, h9c]; rfl)) ?_)
          refine W_ret (je (by simp [h6, h9, h9b, h9c]; rfl) ?_)
          simp only [superOf, sObject, sError]
          (try simp_all) <;> grind
end Go.Proofs
namespace Go.Proofs
open Go Go.Ev


theorem cb_spec_l05Sub : Callable Tryz.prog 96 := ⟨_, Tryz.func96, by kernel_rfl, by kernel_rfl⟩
theorem ct_spec_l05Sub {l : List Cls} {a b : Str} (hl : l.length ≤ 1099511627776) (hw : rightW l = true) : Ct Tryz.prog 96 [.lst false 6 (l.map eC), .str a, .str b] [] (.bool (subS l a b)) [] := by
  refine Ct_bodyS tok Tryz.func96 rfl 15 (by kernel_rfl) (by kernel_rfl) fun X hX => ?_
  refine jq [0, 1, 2] ?_
  refine W_seq (W_block (W_loopU (α := Str) [0, 1, 2] (fun x => [(1, .str x)]) (fun x => []) (fun x => subS l x b = subS l a b) (fun x => (chS l x).length) (a) (fun x => by simp; rfl) (by simp) ?_ ?_))
  · rfl
  rintro x hI
  refine W_seq (jq [0, 1, 2, 8] ?_)
  refine jd (fun h1 => ?_) (fun h1 => ?_)
  · try simp at h1
    rw [subS_go hw h1] at hI
    refine W_skip (W_block (W_seq (jq [0, 1, 2, 11] ?_)))
    refine jd (fun h2 => ?_) (fun h2 => ?_)
    · try simp at h2
      refine jq [6] ?_
      refine W_ret (je0 ?_)
      rw [← hI, h2]; simp
    · try simp at h2
      rw [decide_eq_false (fun e => h2 e.symm), Bool.false_or] at hI
      refine W_skip (W_reg (jt 2 (k:=(jc [] (c:=(by apply ct_spec_l05Super <;> first | assumption | omega | (simp at *; omega) | simp_all)) (a:=cb_spec_l05Super) (k:=jr)))) ?_)
      refine round_end (superOf l x) [0, 1, 2] (by simp; try (simp (disch := omega) only [wrap_i64])) ?_ ?_
      · exact hI
      · rw [chS_go hw h1]; simp
  · try simp at h1
    refine W_exit (jq [6] ?_)
    refine W_ret (je0 ?_)
    rw [← hI, h1, subS_nil hw]
end Go.Proofs
namespace Go.Proofs
open Go Go.Ev


theorem cb_spec_l05Common : Callable Tryz.prog 93 := ⟨_, Tryz.func93, by kernel_rfl, by kernel_rfl⟩
theorem ct_spec_l05Common {l : List Cls} (hl : l.length ≤ 1099511627776) (hw : rightW l = true) {a b : Str} : Ct Tryz.prog 93 [.lst false 6 (l.map eC), .str a, .str b] [] (.str (comS l a b)) [] := by
  refine Ct_bodyS tok Tryz.func93 rfl 20 (by kernel_rfl) (by kernel_rfl) fun X hX => ?_
  refine jq [0, 1, 2] ?_
  refine W_seq (W_block (W_loopU (α := Str) [0, 1, 2] (fun x => [(1, .str x)]) (fun x => []) (fun x => comS l x b = comS l a b) (fun x => (chS l x).length) (a) (fun x => by simp; rfl) (by simp) ?_ ?_))
  · rfl
  rintro x hI
  refine W_seq (W_rseqK [0, 1, 2, 15] (jt 3 (k:=(jm 6 9 [0, 1, 2, 15] (p:=fun b1_3 => by (try simp at b1_3); exact (js hX 3 (by simp [-atD_lt, -atL_lt]; rfl) (Runs.call [] rfl (by simp) rfl (by simp [-atD_lt, -atL_lt]; rfl) (by simp; rfl) (by apply ct_spec_l05Sub <;> first | assumption | omega | (simp at *; omega) | simp_all) cb_spec_l05Sub (by simp) (by simp) (by simp [-atD_lt, -atL_lt]; rfl) (jh hX (by simp [-atD_lt, -atL_lt]; rfl))))) (q:=fun b1_3 => by (try simp at b1_3); exact (jh hX (by simp [-atD_lt, -atL_lt]; rfl))) (k:=jf)))) ?_)
  refine jd (fun h1 => ?_) (fun h1 => ?_)
  · try simp at h1
    rw [comS_go hw h1.1, if_neg (by simp [h1.2])] at hI
    refine W_skip (W_block (W_reg (jt 2 (k:=(jc [] (c:=(by apply ct_spec_l05Super <;> first | assumption | omega | (simp at *; omega) | simp_all)) (a:=cb_spec_l05Super) (k:=jr)))) ?_))
    refine round_end (superOf l x) [0, 1, 2] (by simp; try (simp (disch := omega) only [wrap_i64])) ?_ ?_
    · exact hI
    · rw [chS_go hw h1.1]; simp
  · try simp at h1
    refine W_exit (jq [6] ?_)
    refine W_ret (je0 ?_)
    rw [← hI]
    by_cases hx : x = []
    · rw [hx, comS_nil hw]
    · rw [comS_go hw hx, if_pos (by simpa using h1 hx)]
end Go.Proofs
namespace Go.Proofs
open Go Go.Ev


theorem cb_spec_l06Lub : Callable Tryz.prog 43 := ⟨_, Tryz.func43, by kernel_rfl, by kernel_rfl⟩
theorem ct_spec_l06Lub {l : List Cls} (hl : l.length ≤ 1099511627776) (hw : rightW l = true) {a b : Typ} : Ct Tryz.prog 43 [.lst false 6 (l.map eC), eT a, eT b] [] (eT (lubT l a b)) [] := by
  refine Ct_bodyS tok Tryz.func43 rfl 78 (by kernel_rfl) (by kernel_rfl) fun X hX => ?_
  refine jq [0, 4, 5, 6] ?_
  refine jq [0, 4, 5, 6, 7] ?_
  refine W_rseqK [0, 4, 5, 6, 7, 8] (jt 4 (k:=(jm 3 14 [0, 4, 5, 6, 7, 17] (p:=fun b2_4 => by (try simp at b2_4); exact (jh hX (by simp [-atD_lt, -atL_lt]; rfl))) (q:=fun b2_4 => by (try simp at b2_4); exact (js hX 1 (by simp [-atD_lt, -atL_lt]; rfl) (Runs.call [] rfl (by simp) rfl (by simp [-atD_lt, -atL_lt]; rfl) (by simp; rfl) (by apply ct_spec_l06List <;> first | assumption | omega | (simp at *; omega) | simp_all) cb_spec_l06List (by simp) (by simp) (by simp [-atD_lt, -atL_lt]; rfl) (jh hX (by simp [-atD_lt, -atL_lt]; rfl))))) (k:=jr)))) ?_
  refine W_rseqK [0, 4, 5, 6, 7, 8, 9] (jt 4 (k:=(jm 3 21 [0, 4, 5, 6, 7, 8, 24] (p:=fun b3_4 => by (try simp at b3_4); exact (jh hX (by simp [-atD_lt, -atL_lt]; rfl))) (q:=fun b3_4 => by (try simp at b3_4); exact (js hX 1 (by simp [-atD_lt, -atL_lt]; rfl) (Runs.call [] rfl (by simp) rfl (by simp [-atD_lt, -atL_lt]; rfl) (by simp; rfl) (by apply ct_spec_l06List <;> first | assumption | omega | (simp at *; omega) | simp_all) cb_spec_l06List (by simp) (by simp) (by simp [-atD_lt, -atL_lt]; rfl) (jh hX (by simp [-atD_lt, -atL_lt]; rfl))))) (k:=jr)))) ?_
  refine W_seq (W_block (jq [0, 4, 5, 6, 7, 8, 9, 25] ?_))
  refine jd (fun h4 => ?_) (fun h4 => ?_)
  · try simp at h4
    refine jq [6] ?_
    refine W_ret (je0 ?_)
    cases a; cases b; simp only [lubT, objT, zT, sObject, eT] at *
    (try simp_all) <;> grind
  · try simp at h4
    refine W_rseqK [0, 4, 5, 6, 7, 8, 9, 30] (jt 4 (k:=(jm 2 34 [0, 4, 5, 6, 7, 8, 9, 36] (p:=fun b6_4 => by (try simp at b6_4); exact (jh hX (by simp [-atD_lt, -atL_lt]; rfl))) (q:=fun b6_4 => by (try simp at b6_4); exact (jh hX (by simp [-atD_lt, -atL_lt]; rfl))) (k:=jr)))) ?_
    refine jd (fun h6 => ?_) (fun h6 => ?_)
    · try simp at h6
      refine jq [6] ?_
      refine W_ret (je0 ?_)
      cases a; cases b; simp only [lubT, objT, zT, sObject, eT] at *
      (try simp_all) <;> grind
    · try simp at h6
      refine W_rseqK [0, 4, 5, 6, 7, 8, 9, 38] (jt 4 (k:=(jm 2 42 [0, 4, 5, 6, 7, 8, 9, 44] (p:=fun b8_4 => by (try simp at b8_4); exact (jh hX (by simp [-atD_lt, -atL_lt]; rfl))) (q:=fun b8_4 => by (try simp at b8_4); exact (jh hX (by simp [-atD_lt, -atL_lt]; rfl))) (k:=jr)))) ?_
      refine jd (fun h8 => ?_) (fun h8 => ?_)
      · try simp at h8
        refine jq [6] ?_
        refine W_ret (je0 ?_)
        cases a; cases b; simp only [lubT, objT, zT, sObject, eT] at *
        (try simp_all) <;> grind
      · try simp at h8
        refine W_rseqK [0, 4, 5, 6, 7, 8, 9, 46] (jt 6 (k:=(jm 9 52 [0, 4, 5, 6, 7, 8, 9, 61] (p:=fun b10_6 => by (try simp at b10_6); exact (js hX 4 (by simp [-atD_lt, -atL_lt]; rfl) (jm 4 56 [0, 4, 5, 6, 7, 8, 9, 52, 60] (p:=fun b10_10 => by (try simp at b10_10); exact (jh hX (by simp [-atD_lt, -atL_lt]; rfl))) (q:=fun b10_10 => by (try simp at b10_10); exact (jh hX (by simp [-atD_lt, -atL_lt]; rfl))) (k:=(jh hX (by simp [-atD_lt, -atL_lt]; rfl)))))) (q:=fun b10_6 => by (try simp at b10_6); exact (jh hX (by simp [-atD_lt, -atL_lt]; rfl))) (k:=jr)))) ?_
        refine jd (fun h10 => ?_) (fun h10 => ?_)
        · try simp at h10
          refine jL 8 [0, 1, 2, 3, 4, 5, 6] [7] [6] ([0, 1]) hX (by simp; rfl) (jH (p:=fun X hX => (jc [] (c:=(by apply ct_spec_l05Common <;> first | assumption | omega | (simp at *; omega) | simp_all)) (a:=cb_spec_l05Common) (k:=jf))) (k:=.nil)) jr ?_
          refine W_ret (je0 ?_)
          cases a; cases b; simp only [lubT, objT, zT, sObject, eT] at *
          (try simp_all) <;> grind
        · try simp at h10
          refine W_rseqK [6, 7, 71] (jt 2 (k:=(jm 2 73 [6, 7, 75] (p:=fun b12_2 => by (try simp at b12_2); exact (jh hX (by simp [-atD_lt, -atL_lt]; rfl))) (q:=fun b12_2 => by (try simp at b12_2); exact (jh hX (by simp [-atD_lt, -atL_lt]; rfl))) (k:=jr)))) ?_
          refine jd (fun h12 => ?_) (fun h12 => ?_)
          · try simp at h12
            refine jq [6] ?_
            refine W_ret (je0 ?_)
            cases a; cases b; simp only [lubT, objT, zT, sObject, eT] at *
            (try simp_all) <;> grind
          · try simp at h12
            refine W_skip (jq [6] ?_)
            refine W_ret (je0 ?_)
            cases a; cases b; simp only [lubT, objT, zT, sObject, eT] at *
            (try simp_all) <;> grind
end Go.Proofs
namespace Go.Proofs
open Go Go.Ev


theorem cb_spec_TypeLub : Callable Tryz.prog 9 := ⟨_, Tryz.func9, by kernel_rfl, by kernel_rfl⟩
theorem ct_spec_TypeLub {l : List Cls} {a b : Typ} (hl : sizeL l ≤ 1099511627776) : Ct Tryz.prog 9 [.lst false 6 (l.map eC), eT a, eT b] [] (eT (lubW l a b)) [] := by
  have hll : l.length ≤ 1099511627776 := by unfold sizeL at hl; omega
  refine Ct_bodyS tok Tryz.func9 rfl 22 (by kernel_rfl) (by kernel_rfl) fun X hX => ?_
  refine jq [0, 4, 5, 6] ?_
  refine W_seq (W_rseqK [0, 4, 5, 6, 16] (jt 2 (k:=(jc [] (c:=(by apply ct_spec_TypeKnown <;> first | assumption | omega | exact right_of_known (t := a) (by simp_all))) (a:=cb_spec_TypeKnown) (k:=(jt 2 (k:=(jm 5 11 [0, 4, 5, 6, 16] (p:=fun b1_5 => by (try simp at b1_5); exact (jh hX (by simp [-atD_lt, -atL_lt]; rfl))) (q:=fun b1_5 => by (try simp at b1_5); exact (js hX 2 (by simp [-atD_lt, -atL_lt]; rfl) (Runs.call [] rfl (by simp) rfl (by simp [-atD_lt, -atL_lt]; rfl) (by simp; rfl) (by apply ct_spec_l06Known <;> first | assumption | omega | exact right_of_known (t := a) (by simp_all)) cb_spec_l06Known (by simp) (by simp) (by simp [-atD_lt, -atL_lt]; rfl) (jh hX (by simp [-atD_lt, -atL_lt]; rfl))))) (k:=jf)))))))) ?_)
  refine jd (fun h1 => ?_) (fun h1 => ?_)
  · try simp at h1
    refine jq [6] ?_
    refine W_ret (je0 ?_)
    simp only [lubW, typeKnownW, zT] at *
    (try simp_all) <;> grind
  · try simp at h1
    refine W_skip (W_rseqK [6] (jt 3 (k:=(jc [] (c:=(by apply ct_spec_l06Lub <;> first | assumption | omega | exact right_of_known (t := a) (by simp_all))) (a:=cb_spec_l06Lub) (k:=jr)))) ?_)
    refine W_ret (je0 ?_)
    simp only [lubW, typeKnownW, zT] at *
    (try simp_all) <;> grind
end Go.Proofs
namespace Go.Proofs
open Go Go.Ev


theorem cb_impl_world_typeLe : Callable Tryz.prog 45 := ⟨_, Tryz.func45, by kernel_rfl, by kernel_rfl⟩
theorem ct_impl_world_typeLe {l : List Cls} (hl : l.length ≤ 1048576) {a b : Typ} : Ct Tryz.prog 45 [wv l, eT a, eT b] [] (.bool (leI l a b)) [] := by
  refine Ct_bodyS tok Tryz.func45 rfl 60 (by kernel_rfl) (by kernel_rfl) fun X hX => ?_
  refine jq [0, 4, 5] ?_
  refine W_seq (W_block (W_rseqK [0, 4, 5, 7] (jt 4 (k:=(jm 4 11 [0, 4, 5, 15] (p:=fun b1_4 => by (try simp at b1_4); exact (jh hX (by simp [-atD_lt, -atL_lt]; rfl))) (q:=fun b1_4 => by (try simp at b1_4); exact (jh hX (by simp [-atD_lt, -atL_lt]; rfl))) (k:=jr)))) ?_))
  refine jd (fun h1 => ?_) (fun h1 => ?_)
  · try simp at h1
    refine jq [6] ?_
    refine W_ret (je0 ?_)
    cases a; cases b; simp only [leI, isObj, objT, sObject] at *
    (try simp_all) <;> grind
  · try simp at h1
    refine jq [0, 4, 5, 16] ?_
    refine jd (fun h3 => ?_) (fun h3 => ?_)
    · try simp at h3
      refine W_rseqK [6] (jt 1 (k:=(jc [] (c:=(by apply ct_impl_Type_isObject <;> first | assumption | omega | (simp at *; omega) | simp_all)) (a:=cb_impl_Type_isObject) (k:=jr)))) ?_
      refine W_ret (je0 ?_)
      cases a; cases b; simp only [leI, isObj, objT, sObject] at *
      (try simp_all) <;> grind
    · try simp at h3
      refine W_rseqK [0, 4, 5, 22] (jt 4 (k:=(jm 4 26 [0, 4, 5, 30] (p:=fun b5_4 => by (try simp at b5_4); exact (jh hX (by simp [-atD_lt, -atL_lt]; rfl))) (q:=fun b5_4 => by (try simp at b5_4); exact (jh hX (by simp [-atD_lt, -atL_lt]; rfl))) (k:=(jt 1 (k:=(jm 9 31 [0, 4, 5, 40] (p:=fun b5_9 => by (try simp at b5_9); exact (jh hX (by simp [-atD_lt, -atL_lt]; rfl))) (q:=fun b5_9 => by (try simp at b5_9); exact (js hX 4 (by simp [-atD_lt, -atL_lt]; rfl) (jm 4 35 [0, 4, 5, 31, 39] (p:=fun b5_13 => by (try simp at b5_13); exact (jh hX (by simp [-atD_lt, -atL_lt]; rfl))) (q:=fun b5_13 => by (try simp at b5_13); exact (jh hX (by simp [-atD_lt, -atL_lt]; rfl))) (k:=(jh hX (by simp [-atD_lt, -atL_lt]; rfl)))))) (k:=jr)))))))) ?_
      refine jd (fun h5 => ?_) (fun h5 => ?_)
      · try simp at h5
        refine W_rseqK [6] (jt 5 (k:=(jc [] (c:=(by apply ct_impl_world_isSub <;> first | assumption | omega | (simp at *; omega) | simp_all)) (a:=cb_impl_world_isSub) (k:=jr)))) ?_
        refine W_ret (je0 ?_)
        cases a; cases b; simp only [leI, isObj, objT, sObject] at *
        (try simp_all) <;> grind
      · try simp at h5
        refine W_skip (jD [6] (jS 4 (by simp; rfl) (jM 4 50 [5, 54] (p:=fun b7_4 => by (try simp at b7_4); exact (jQ (by simp [-atD_lt, -atL_lt]; rfl))) (q:=fun b7_4 => by (try simp at b7_4); exact (jQ (by simp [-atD_lt, -atL_lt]; rfl))) (k:=(jS 1 (by simp; rfl) (jM 4 55 [59] (p:=fun b7_9 => by (try simp at b7_9); exact (jS 1 (by simp [-atD_lt, -atL_lt]; rfl) (jC (c:=by apply ct_impl_ref <;> first | assumption | omega | (simp at *; omega) | simp_all) (a:=cb_impl_ref) (k:=(jQ (by simp [-atD_lt, -atL_lt]; rfl)))))) (q:=fun b7_9 => by (try simp at b7_9); exact (jQ (by simp [-atD_lt, -atL_lt]; rfl))) (k:=(jQ (by simp; rfl)))))))) ?_)
        refine W_ret (je0 ?_)
        cases a; cases b; simp only [leI, isObj, objT, sObject] at *
        (try simp_all) <;> grind
end Go.Proofs
namespace Go.Proofs
open Go Go.Ev


theorem cb_impl_TypeLe : Callable Tryz.prog 11 := ⟨_, Tryz.func11, by kernel_rfl, by kernel_rfl⟩
theorem ct_impl_TypeLe {l : List Cls} (hl : l.length ≤ 1048576) (hs : sizeL l ≤ 1099511627776) {a b : Typ} : Ct Tryz.prog 11 [.lst false 6 (l.map eC), eT a, eT b] [] (.bool (leW l a b)) [] := by
  refine Ct_bodyS tok Tryz.func11 rfl 31 (by kernel_rfl) (by kernel_rfl) fun X hX => ?_
  refine jq [0, 4, 5] ?_
  refine W_rseqK [4, 5, 7, 8] (jt 1 (k:=(jc [] (c:=(by apply ct_impl_rightWorld <;> first | assumption | omega | (simp at *; omega) | simp_all)) (a:=cb_impl_rightWorld) (k:=jr)))) ?_
  refine W_rseqK [6] (jt 2 (k:=(jm 4 15 [4, 5, 7, 19] (p:=fun b2_2 => by (try simp at b2_2); exact (js hX 2 (by simp [-atD_lt, -atL_lt]; rfl) (Runs.call [] rfl (by simp) rfl (by simp [-atD_lt, -atL_lt]; rfl) (by simp; rfl) (by apply ct_impl_world_typeKnown <;> first | assumption | omega | (simp at *; omega) | simp_all) cb_impl_world_typeKnown (by simp) (by simp) (by simp [-atD_lt, -atL_lt]; rfl) (jh hX (by simp [-atD_lt, -atL_lt]; rfl))))) (q:=fun b2_2 => by (try simp at b2_2); exact (jh hX (by simp [-atD_lt, -atL_lt]; rfl))) (k:=(jt 1 (k:=(jm 4 20 [4, 5, 7, 24] (p:=fun b2_7 => by (try simp at b2_7); exact (js hX 2 (by simp [-atD_lt, -atL_lt]; rfl) (Runs.call [] rfl (by simp) rfl (by simp [-atD_lt, -atL_lt]; rfl) (by simp; rfl) (by apply ct_impl_world_typeKnown <;> first | assumption | omega | (simp at *; omega) | simp_all) cb_impl_world_typeKnown (by simp) (by simp) (by simp [-atD_lt, -atL_lt]; rfl) (jh hX (by simp [-atD_lt, -atL_lt]; rfl))))) (q:=fun b2_7 => by (try simp at b2_7); exact (jh hX (by simp [-atD_lt, -atL_lt]; rfl))) (k:=(jt 1 (k:=(jm 5 25 [30] (p:=fun b2_12 => by (try simp at b2_12); exact (js hX 3 (by simp [-atD_lt, -atL_lt]; rfl) (Runs.call [] rfl (by simp) rfl (by simp [-atD_lt, -atL_lt]; rfl) (by simp; rfl) (by apply ct_impl_world_typeLe <;> first | assumption | omega | (simp at *; omega) | simp_all) cb_impl_world_typeLe (by simp) (by simp) (by simp [-atD_lt, -atL_lt]; rfl) (jh hX (by simp [-atD_lt, -atL_lt]; rfl))))) (q:=fun b2_12 => by (try simp at b2_12); exact (jh hX (by simp [-atD_lt, -atL_lt]; rfl))) (k:=jr)))))))))))) ?_
  refine W_ret (je0 ?_)
  rw [← leW_of]
  (try simp [Bool.and_assoc])
end Go.Proofs
namespace Go.Proofs
open Go Go.Ev


theorem cb_spec_l06Le : Callable Tryz.prog 46 := ⟨_, Tryz.func46, by kernel_rfl, by kernel_rfl⟩
theorem ct_spec_l06Le {l : List Cls} (hl : l.length ≤ 1099511627776) (hw : rightW l = true) {a b : Typ} : Ct Tryz.prog 46 [.lst false 6 (l.map eC), eT a, eT b] [] (.bool (leT l a b)) [] := by
  refine Ct_bodyS tok Tryz.func46 rfl 61 (by kernel_rfl) (by kernel_rfl) fun X hX => ?_
  refine jq [0, 4, 5] ?_
  refine W_seq (W_block (W_rseqK [0, 4, 5, 7] (jt 4 (k:=(jm 4 11 [0, 4, 5, 15] (p:=fun b1_4 => by (try simp at b1_4); exact (jh hX (by simp [-atD_lt, -atL_lt]; rfl))) (q:=fun b1_4 => by (try simp at b1_4); exact (jh hX (by simp [-atD_lt, -atL_lt]; rfl))) (k:=jr)))) ?_))
  refine jd (fun h1 => ?_) (fun h1 => ?_)
  · try simp at h1
    refine jq [6] ?_
    refine W_ret (je0 ?_)
    cases a; cases b; simp only [leT, sObject] at *
    (try simp_all) <;> grind
  · try simp at h1
    refine jq [0, 4, 5, 16] ?_
    refine jd (fun h3 => ?_) (fun h3 => ?_)
    · try simp at h3
      refine W_rseqK [6] (jt 4 (k:=(jm 3 23 [26] (p:=fun b4_4 => by (try simp at b4_4); exact (jh hX (by simp [-atD_lt, -atL_lt]; rfl))) (q:=fun b4_4 => by (try simp at b4_4); exact (js hX 1 (by simp [-atD_lt, -atL_lt]; rfl) (Runs.call [] rfl (by simp) rfl (by simp [-atD_lt, -atL_lt]; rfl) (by simp; rfl) (by apply ct_spec_l06List <;> first | assumption | omega | (simp at *; omega) | simp_all) cb_spec_l06List (by simp) (by simp) (by simp [-atD_lt, -atL_lt]; rfl) (jh hX (by simp [-atD_lt, -atL_lt]; rfl))))) (k:=jr)))) ?_
      refine W_ret (je0 ?_)
      cases a; cases b; simp only [leT, sObject] at *
      (try simp_all) <;> grind
    · try simp at h3
      refine W_seq (W_rseqK [0, 4, 5, 27] (jt 4 (k:=(jm 4 31 [0, 4, 5, 35] (p:=fun b5_4 => by (try simp at b5_4); exact (jh hX (by simp [-atD_lt, -atL_lt]; rfl))) (q:=fun b5_4 => by (try simp at b5_4); exact (jh hX (by simp [-atD_lt, -atL_lt]; rfl))) (k:=jr)))) ?_)
      refine jd (fun h5 => ?_) (fun h5 => ?_)
      · try simp at h5
        refine W_skip (jd (fun h5_1 => ?_) (fun h5_1 => ?_))
        · try simp at h5_1
          refine W_rseqK [6] (jt 5 (k:=(jc [] (c:=(by apply ct_spec_l05Sub <;> first | assumption | omega | (simp at *; omega) | simp_all)) (a:=cb_spec_l05Sub) (k:=jr)))) ?_
          refine W_ret (je0 ?_)
          cases a; cases b; simp only [leT, sObject] at *
          (try simp_all) <;> grind
        · try simp at h5_1
          refine W_rseqK [5, 50] (jt 1 (k:=(jc [] (c:=(by apply ct_spec_l06List <;> first | assumption | omega | (simp at *; omega) | simp_all)) (a:=cb_spec_l06List) (k:=(jt 1 (k:=(jm 4 53 [5, 57] (p:=fun b8_3 => by (try simp at b8_3); exact (jh hX (by simp [-atD_lt, -atL_lt]; rfl))) (q:=fun b8_3 => by (try simp at b8_3); exact (jh hX (by simp [-atD_lt, -atL_lt]; rfl))) (k:=jr)))))))) ?_
          refine jd (fun h8 => ?_) (fun h8 => ?_)
          · try simp at h8
            refine jq [6] ?_
            refine W_ret (je0 ?_)
            cases a; cases b; simp only [leT, sObject] at *
            (try simp_all) <;> grind
          · try simp at h8
            refine W_skip (jq [6] ?_)
            refine W_ret (je0 ?_)
            cases a; cases b; simp only [leT, sObject] at *
            (try simp_all) <;> grind
      · try simp at h5
        refine W_reg (jt 4 (k:=(jm 4 39 [0, 4, 5, 43] (p:=fun b6_4 => by (try simp at b6_4); exact (jh hX (by simp [-atD_lt, -atL_lt]; rfl))) (q:=fun b6_4 => by (try simp at b6_4); exact (jh hX (by simp [-atD_lt, -atL_lt]; rfl))) (k:=jr)))) ?_
        refine jd (fun h6 => ?_) (fun h6 => ?_)
        · try simp at h6
          refine W_rseqK [6] (jt 5 (k:=(jc [] (c:=(by apply ct_spec_l05Sub <;> first | assumption | omega | (simp at *; omega) | simp_all)) (a:=cb_spec_l05Sub) (k:=jr)))) ?_
          refine W_ret (je0 ?_)
          cases a; cases b; simp only [leT, sObject] at *
          (try simp_all) <;> grind
        · try simp at h6
          refine W_rseqK [5, 50] (jt 1 (k:=(jc [] (c:=(by apply ct_spec_l06List <;> first | assumption | omega | (simp at *; omega) | simp_all)) (a:=cb_spec_l06List) (k:=(jt 1 (k:=(jm 4 53 [5, 57] (p:=fun b8_3 => by (try simp at b8_3); exact (jh hX (by simp [-atD_lt, -atL_lt]; rfl))) (q:=fun b8_3 => by (try simp at b8_3); exact (jh hX (by simp [-atD_lt, -atL_lt]; rfl))) (k:=jr)))))))) ?_
          refine jd (fun h8 => ?_) (fun h8 => ?_)
          · try simp at h8
            refine jq [6] ?_
            refine W_ret (je0 ?_)
            cases a; cases b; simp only [leT, sObject] at *
            (try simp_all) <;> grind
          · try simp at h8
            refine W_skip (jq [6] ?_)
            refine W_ret (je0 ?_)
            cases a; cases b; simp only [leT, sObject] at *
            (try simp_all) <;> grind
end Go.Proofs
namespace Go.Proofs
open Go Go.Ev


theorem cb_spec_TypeLe : Callable Tryz.prog 12 := ⟨_, Tryz.func12, by kernel_rfl, by kernel_rfl⟩
theorem ct_spec_TypeLe {l : List Cls} {a b : Typ} (hl : sizeL l ≤ 1099511627776) : Ct Tryz.prog 12 [.lst false 6 (l.map eC), eT a, eT b] [] (.bool (leW l a b)) [] := by
  have hll : l.length ≤ 1099511627776 := by unfold sizeL at hl; omega
  refine Ct_bodyS tok Tryz.func12 rfl 21 (by kernel_rfl) (by kernel_rfl) fun X hX => ?_
  refine jq [0, 4, 5] ?_
  refine W_rseqK [6] (jt 2 (k:=(jc [] (c:=(by apply ct_spec_TypeKnown <;> first | assumption | omega | exact right_of_known (t := a) (by simp_all))) (a:=cb_spec_TypeKnown) (k:=(jt 1 (k:=(jm 4 10 [0, 4, 5, 14] (p:=fun b1_4 => by (try simp at b1_4); exact (js hX 2 (by simp [-atD_lt, -atL_lt]; rfl) (Runs.call [] rfl (by simp) rfl (by simp [-atD_lt, -atL_lt]; rfl) (by simp; rfl) (by apply ct_spec_l06Known <;> first | assumption | omega | exact right_of_known (t := a) (by simp_all)) cb_spec_l06Known (by simp) (by simp) (by simp [-atD_lt, -atL_lt]; rfl) (jh hX (by simp [-atD_lt, -atL_lt]; rfl))))) (q:=fun b1_4 => by (try simp at b1_4); exact (jh hX (by simp [-atD_lt, -atL_lt]; rfl))) (k:=(jt 1 (k:=(jm 5 15 [20] (p:=fun b1_9 => by (try simp at b1_9); exact (js hX 3 (by simp [-atD_lt, -atL_lt]; rfl) (Runs.call [] rfl (by simp) rfl (by simp [-atD_lt, -atL_lt]; rfl) (by simp; rfl) (by apply ct_spec_l06Le <;> first | assumption | omega | exact right_of_known (t := a) (by simp_all)) cb_spec_l06Le (by simp) (by simp) (by simp [-atD_lt, -atL_lt]; rfl) (jh hX (by simp [-atD_lt, -atL_lt]; rfl))))) (q:=fun b1_9 => by (try simp at b1_9); exact (jh hX (by simp [-atD_lt, -atL_lt]; rfl))) (k:=jr)))))))))))) ?_
  refine W_ret (je0 ?_)
  simp only [leW, typeKnownW] at *
  (try simp_all) <;> grind
end Go.Proofs
namespace Go.Proofs
open Go Go.Ev

attribute [local irreducible] nS nV wordS wordV ltyS ltyV pickV l06T
theorem cb_laws_FnLub : Callable Tryz.prog 3 := ⟨_, Tryz.func3, by kernel_rfl, by kernel_rfl⟩
theorem ct_laws_FnLub {c0 c1 : List Int} (hc0 : c0.length < 4611686018427387904) (hc1 : c1.length < 4611686018427387904) : Ct Tryz.prog 3 [.lst false 1 (c0.map bV), .lst false 1 (c1.map bV)] [] (.bool true) [] := by
  refine Ct_bodyS tok Tryz.func3 rfl 101 (by kernel_rfl) (by kernel_rfl) fun X hX => ?_
  refine jq [0, 1] ?_
  refine W_seq (W_rseqK [0, 1, 19] (jt 4 (k:=(jm 4 15 [0, 1, 19] (p:=fun b1_4 => by (try simp at b1_4); exact (jh hX (by simp [-atD_lt, -atL_lt, b1_4]; rfl))) (q:=fun b1_4 => by (try simp at b1_4); exact (jh hX (by simp [-atD_lt, -atL_lt, b1_4]; rfl))) (k:=jf)))) ?_)
  refine jd (fun h1 => ?_) (fun h1 => ?_)
  · try simp at h1
    refine W_rseqK [4] (jh hX (by simp [h1]; rfl)) ?_
    refine W_ret (je (by simp [h1]; rfl) ?_)
    simp_all
  · try simp at h1
    refine W_skip (W_rseqL [1, 5, 6, 7] ?_)
    refine WL_go 1 ((jh hX (by simp [h1]; rfl))) ?_
    refine WL_cE [] rfl (by simp) rfl (by simp; rfl) (by simp; rfl) (by apply ct_spec_DrawTypeLub <;> first | omega | assumption) cb_spec_DrawTypeLub (by simp) (by simp) ?_
    rintro _ _ ⟨l, a, b, rfl, rfl, hl, hli, ha, hb⟩
    refine WL_le' (Le.of_eq (by simp; rfl)) ?_
    refine WL_fin ((jh hX (by simp [h1]; rfl))) ?_
    refine W_rseqL [5, 6, 7, 9] ?_
    refine WL_go 1 ((jh hX (by simp [h1]; rfl))) ?_
    refine WL_cE [] rfl (by simp) rfl (by simp; rfl) (by simp; rfl) (by apply ct_spec_DrawTypeLub <;> first | omega | assumption) cb_spec_DrawTypeLub (by simp) (by simp) ?_
    rintro _ _ ⟨l2, c, d, rfl, rfl, hl2, hli2, hc, hd⟩
    refine WL_le' (Le.of_eq (by simp; rfl)) ?_
    refine WL_fin ((jh hX (by simp [h1]; rfl))) ?_
    have hs := world_size hl hli
    have hcm := lubW_comm l a b
    refine W_rseqK [5, 6, 7, 9, 11] (js hX 3 (by simp [h1, hcm]; rfl) (jB (c:=(by apply ct_impl_TypeLub <;> first | omega | assumption)) (a:=cb_impl_TypeLub) (k:=(jh hX (by simp [h1, hcm]; rfl))))) ?_
    refine W_seq ?_
    first | (refine jD [5, 6, 7, 9, 11, 49] (jS 4 (by simp [h1, hcm]; rfl) (jC (c:=by apply ct_spec_TypeLub <;> first | omega | assumption) (a:=cb_spec_TypeLub) (k:=(jS 5 (by simp [h1, hcm]; rfl) (jC (c:=by apply ct_impl_TypeLub <;> first | omega | assumption) (a:=cb_impl_TypeLub) (k:=(jQ (by simp [h1, hcm]; rfl)))))))) ?_)
    refine jd (fun h6 => ?_) (fun h6 => ?_)
    · try simp at h6
      all_goals
        all_goals skip --done
    · try simp at h6
      all_goals
        refine W_skip (W_seq (W_rseqK [5, 6, 7, 9, 11, 59] (js hX 2 (by simp [h1, hcm]; rfl) (jB (c:=(by apply ct_spec_TypeKnown <;> first | omega | assumption)) (a:=cb_spec_TypeKnown) (k:=(js hX 2 (by simp [h1, hcm]; rfl) (jm 5 54 [5, 6, 7, 9, 11, 59] (p:=fun b8_5 => by (try simp at b8_5); exact (jh hX (by simp [-atD_lt, -atL_lt, h1, hcm]; rfl))) (q:=fun b8_5 => by (try simp at b8_5); exact (js hX 2 (by simp [-atD_lt, -atL_lt, h1, hcm]; rfl) (Runs.callB rfl (by simp) rfl (by simp [-atD_lt, -atL_lt]; rfl) (by apply ct_spec_TypeKnown <;> first | omega | assumption) cb_spec_TypeKnown (by simp) (by simp [-atD_lt, -atL_lt]; rfl) (jh hX (by simp [-atD_lt, -atL_lt, h1, hcm]; rfl))))) (k:=jf)))))) ?_))
        refine jd (fun h8 => ?_) (fun h8 => ?_)
        · try simp at h8
          have hu := lubW_un (l := l) (a := a) (b := b) (by first | exact h8 | simpa using h8 | (rcases h8 with h | h <;> simp_all))
          refine W_rseqK [4] (jh hX (by simp [h1, hcm]; rfl)) ?_
          refine W_ret (je (by simp [h1, hcm]; rfl) ?_)
          rw [hu]; rfl
        · try simp at h8
          obtain ⟨hka, hkb⟩ : typeKnownW l a = true ∧ typeKnownW l b = true := by simpa using h8
          obtain ⟨hu1, hu2⟩ := lubW_up hka hkb
          have hu3 := lubW_self hka
          refine W_skip (W_seq ?_)
          first | (refine jD [5, 6, 7, 9, 11, 82] (jS 3 (by simp [h1, hcm, hu1, hu2, hu3]; rfl) (jC (c:=by apply ct_impl_TypeLe <;> first | omega | assumption) (a:=cb_impl_TypeLe) (k:=(jS 5 (by simp [h1, hcm, hu1, hu2, hu3]; rfl) (jC (c:=by apply ct_impl_TypeLe <;> first | omega | assumption) (a:=cb_impl_TypeLe) (k:=(jS 6 (by simp [h1, hcm, hu1, hu2, hu3]; rfl) (jC (c:=by apply ct_impl_TypeLub <;> first | omega | assumption) (a:=cb_impl_TypeLub) (k:=(jQ (by simp [h1, hcm, hu1, hu2, hu3]; rfl))))))))))) ?_)
          refine jd (fun h10 => ?_) (fun h10 => ?_)
          · try simp at h10
            all_goals
              all_goals skip --done
          · try simp at h10
            all_goals
              refine W_skip (W_rseqK [4] (js hX 3 (by simp [h1, hcm, hu1, hu2, hu3]; rfl) (jB (c:=(by apply ct_spec_TypeLe <;> first | omega | assumption)) (a:=cb_spec_TypeLe) (k:=(js hX 2 (by simp [h1, hcm, hu1, hu2, hu3]; rfl) (jm 6 88 [5, 9, 11, 94] (p:=fun b12_6 => by (try simp at b12_6); exact (jh hX (by simp [-atD_lt, -atL_lt, h1, hcm, hu1, hu2, hu3]; rfl))) (q:=fun b12_6 => by (try simp at b12_6); exact (js hX 3 (by simp [-atD_lt, -atL_lt, h1, hcm, hu1, hu2, hu3]; rfl) (Runs.callB rfl (by simp) rfl (by simp [-atD_lt, -atL_lt]; rfl) (by apply ct_spec_TypeLe <;> first | omega | assumption) cb_spec_TypeLe (by simp) (by simp [-atD_lt, -atL_lt]; rfl) (jh hX (by simp [-atD_lt, -atL_lt, h1, hcm, hu1, hu2, hu3]; rfl))))) (k:=(js hX 1 (by simp [h1, hcm, hu1, hu2, hu3]; rfl) (jm 5 95 [100] (p:=fun b12_13 => by (try simp at b12_13); exact (jh hX (by simp [-atD_lt, -atL_lt, h1, hcm, hu1, hu2, hu3]; rfl))) (q:=fun b12_13 => by (try simp at b12_13); exact (js hX 3 (by simp [-atD_lt, -atL_lt, h1, hcm, hu1, hu2, hu3]; rfl) (Runs.callB rfl (by simp) rfl (by simp [-atD_lt, -atL_lt]; rfl) (by apply ct_impl_TypeLe <;> first | omega | assumption) cb_impl_TypeLe (by simp) (by simp [-atD_lt, -atL_lt]; rfl) (jh hX (by simp [-atD_lt, -atL_lt, h1, hcm, hu1, hu2, hu3]; rfl))))) (k:=(jh hX (by simp [h1, hcm, hu1, hu2, hu3]; rfl))))))))))) ?_)
              refine W_ret (je (by simp [h1, hcm, hu1, hu2, hu3]; rfl) ?_)
              have hle := @lubW_least l a b c
              cases h9 : leW l a c <;> cases h99 : leW l b c <;> simp_all
end Go.Proofs
namespace Go.Proofs
open Go Go.Ev

abbrev tcF : List Tc := [.str, .str, .bool]
abbrev tcI : List Tc := [.int .i64, .int .i64, .str, .str, .str]
abbrev tcH : List Tc := [.int .i64, .int .i64, .int .i64, .str]
abbrev tcM : List Tc := [.str, .str, .bool, .bool, .bool, .int .i64, .int .i64, .lst false tcI, .lst false tcH]
abbrev tcC : List Tc := [.str, .str, .bool, .bool, .lst false tcF, .lst false tcM]

theorem dec_list {α : Type} {enc : α → V} {Q : α → Prop} : ∀ {xs : List V}, (∀ x ∈ xs, ∃ a, x = enc a ∧ Q a) → ∃ l : List α, xs = l.map enc ∧ ∀ a ∈ l, Q a
  | [], _ => ⟨[], rfl, fun _ h => by cases h⟩
  | x :: xs, h => by
    obtain ⟨a, rfl, ha⟩ := h x (by simp)
    obtain ⟨l, rfl, hl⟩ := dec_list (enc := enc) (Q := Q) (xs := xs) fun y hy => h y (by simp [hy])
    exact ⟨a :: l, rfl, fun b hb => by
      rcases List.mem_cons.1 hb with rfl | hb
      · exact ha
      · exact hl b hb⟩

theorem okL_cons {c : Tc} {cs : List Tc} {vs : List V} (h : okL (c :: cs) vs) : ∃ v ws, vs = v :: ws ∧ okC c v ∧ okL cs ws := by
  cases vs with
  | nil => simp [okL] at h
  | cons v ws => exact ⟨v, ws, rfl, h⟩
theorem okL_nil {vs : List V} (h : okL [] vs) : vs = [] := by
  cases vs with
  | nil => rfl
  | cons v ws => simp [okL] at h
theorem okC_str {v : V} (h : okC .str v) : ∃ l, v = .str l ∧ l.length ≤ 140737488351232 := h
theorem okC_bool {v : V} (h : okC .bool v) : ∃ b, v = .bool b := h
theorem okC_int {v : V} (h : okC (.int .i64) v) : ∃ n, v = .int .i64 n ∧ -9223372036854775808 ≤ n ∧ n < 9223372036854775808 := by
  obtain ⟨n, rfl, hn⟩ := h
  refine ⟨n, rfl, ?_⟩
  simp [Lit.wf, IntKind.min, IntKind.max, IntKind.signed, IntKind.bits] at hn
  omega
theorem okC_lst {α : Type} {enc : α → V} {Q : α → Prop} {cs : List Tc} {v : V} (h : okC (.lst false cs) v) (hd : ∀ vs, okL cs vs → ∃ a, V.agg vs = enc a ∧ Q a) :
    ∃ l : List α, v = .lst false cs.length (l.map enc) ∧ l.length ≤ 140737488351232 ∧ ∀ a ∈ l, Q a := by
  obtain ⟨xs, rfl, hl, hx⟩ := h
  obtain ⟨l, rfl, hq⟩ := dec_list (enc := enc) (Q := Q) (xs := xs) fun x hx' => by
    have := hx x hx'
    simp only [Bool.false_eq_true, if_false] at this
    obtain ⟨vs, rfl, hv⟩ := this
    exact hd vs hv
  exact ⟨l, rfl, by rw [List.length_map] at hl; exact hl, hq⟩

theorem decF {vs : List V} (h : okL tcF vs) : ∃ x : Fld, V.agg vs = eF x ∧ bigF x := by
  obtain ⟨_, _, rfl, h0, h⟩ := okL_cons h
  obtain ⟨_, _, rfl, h1, h⟩ := okL_cons h
  obtain ⟨_, _, rfl, h2, h⟩ := okL_cons h
  obtain rfl := okL_nil h
  obtain ⟨a, rfl, ha⟩ := okC_str h0
  obtain ⟨b, rfl, hb⟩ := okC_str h1
  obtain ⟨c, rfl⟩ := okC_bool h2
  exact ⟨⟨a, b, c⟩, rfl, by simp only [bigF]; omega⟩

theorem decI {vs : List V} (h : okL tcI vs) : ∃ x : Ins, V.agg vs = eI x ∧ bigI x := by
  obtain ⟨_, _, rfl, h0, h⟩ := okL_cons h
  obtain ⟨_, _, rfl, h1, h⟩ := okL_cons h
  obtain ⟨_, _, rfl, h2, h⟩ := okL_cons h
  obtain ⟨_, _, rfl, h3, h⟩ := okL_cons h
  obtain ⟨_, _, rfl, h4, h⟩ := okL_cons h
  obtain rfl := okL_nil h
  obtain ⟨a, rfl, ha⟩ := okC_int h0
  obtain ⟨b, rfl, hb⟩ := okC_int h1
  obtain ⟨c, rfl, hc⟩ := okC_str h2
  obtain ⟨d, rfl, hd⟩ := okC_str h3
  obtain ⟨e, rfl, he⟩ := okC_str h4
  exact ⟨⟨a, b, c, d, e⟩, rfl, by simp only [bigI]; omega⟩

theorem decH {vs : List V} (h : okL tcH vs) : ∃ x : Hdl, V.agg vs = eH x ∧ bigH x := by
  obtain ⟨_, _, rfl, h0, h⟩ := okL_cons h
  obtain ⟨_, _, rfl, h1, h⟩ := okL_cons h
  obtain ⟨_, _, rfl, h2, h⟩ := okL_cons h
  obtain ⟨_, _, rfl, h3, h⟩ := okL_cons h
  obtain rfl := okL_nil h
  obtain ⟨a, rfl, ha⟩ := okC_int h0
  obtain ⟨b, rfl, hb⟩ := okC_int h1
  obtain ⟨c, rfl, hc⟩ := okC_int h2
  obtain ⟨d, rfl, hd⟩ := okC_str h3
  exact ⟨⟨a, b, c, d⟩, rfl, by simp only [bigH]; omega⟩

theorem decM {vs : List V} (h : okL tcM vs) : ∃ x : Mth, V.agg vs = eM x ∧ bigM x := by
  obtain ⟨_, _, rfl, h0, h⟩ := okL_cons h
  obtain ⟨_, _, rfl, h1, h⟩ := okL_cons h
  obtain ⟨_, _, rfl, h2, h⟩ := okL_cons h
  obtain ⟨_, _, rfl, h3, h⟩ := okL_cons h
  obtain ⟨_, _, rfl, h4, h⟩ := okL_cons h
  obtain ⟨_, _, rfl, h5, h⟩ := okL_cons h
  obtain ⟨_, _, rfl, h6, h⟩ := okL_cons h
  obtain ⟨_, _, rfl, h7, h⟩ := okL_cons h
  obtain ⟨_, _, rfl, h8, h⟩ := okL_cons h
  obtain rfl := okL_nil h
  obtain ⟨a, rfl, ha⟩ := okC_str h0
  obtain ⟨b, rfl, hb⟩ := okC_str h1
  obtain ⟨c, rfl⟩ := okC_bool h2
  obtain ⟨d, rfl⟩ := okC_bool h3
  obtain ⟨e, rfl⟩ := okC_bool h4
  obtain ⟨f, rfl, _⟩ := okC_int h5
  obtain ⟨g, rfl, _⟩ := okC_int h6
  obtain ⟨i, rfl, hi, hi2⟩ := okC_lst h7 fun vs => decI
  obtain ⟨j, rfl, hj, hj2⟩ := okC_lst h8 fun vs => decH
  exact ⟨⟨a, b, c, d, e, f, g, i, j⟩, rfl, by simp only [bigM]; exact ⟨by omega, by omega, by omega, hi2, by omega, hj2⟩⟩

theorem decC {vs : List V} (h : okL tcC vs) : ∃ x : Cls, V.agg vs = eC x ∧ bigC x := by
  obtain ⟨_, _, rfl, h0, h⟩ := okL_cons h
  obtain ⟨_, _, rfl, h1, h⟩ := okL_cons h
  obtain ⟨_, _, rfl, h2, h⟩ := okL_cons h
  obtain ⟨_, _, rfl, h3, h⟩ := okL_cons h
  obtain ⟨_, _, rfl, h4, h⟩ := okL_cons h
  obtain ⟨_, _, rfl, h5, h⟩ := okL_cons h
  obtain rfl := okL_nil h
  obtain ⟨a, rfl, ha⟩ := okC_str h0
  obtain ⟨b, rfl, hb⟩ := okC_str h1
  obtain ⟨c, rfl⟩ := okC_bool h2
  obtain ⟨d, rfl⟩ := okC_bool h3
  obtain ⟨i, rfl, hi, hi2⟩ := okC_lst h4 fun vs => decF
  obtain ⟨j, rfl, hj, hj2⟩ := okC_lst h5 fun vs => decM
  exact ⟨⟨a, b, c, d, i, j⟩, rfl, by simp only [bigC]; exact ⟨by omega, by omega, by omega, hi2, by omega, hj2⟩⟩

/-- arguments, one by one -/
theorem okA_cons {x : Bool × List Tc} {r : List (Bool × List Tc)} {vs : List V} (h : okA (x :: r) vs) : ∃ v ws, vs = v :: ws ∧ (if x.1 = true then okL x.2 [v] else ∃ us, v = .agg us ∧ okL x.2 us) ∧ okA r ws := by
  cases vs with
  | nil => simp [okA] at h
  | cons v ws => exact ⟨v, ws, rfl, h⟩
theorem okA_nil {vs : List V} (h : okA [] vs) : vs = [] := by
  cases vs with
  | nil => rfl
  | cons v ws => simp [okA] at h
abbrev aC : Bool × List Tc := (true, [.lst false tcC])
abbrev aS : Bool × List Tc := (true, [.str])
theorem okA_C {r : List (Bool × List Tc)} {vs : List V} (h : okA (aC :: r) vs) : ∃ (l : List Cls) (ws : List V), vs = .lst false 6 (l.map eC) :: ws ∧ l.length < 4611686018427387904 ∧ (∀ y ∈ l, bigC y) ∧ okA r ws := by
  obtain ⟨v, ws, rfl, h1, h2⟩ := okA_cons h
  simp only [if_true] at h1
  obtain ⟨l, rfl, hl, hq⟩ := okC_lst h1.1 fun vs => decC
  exact ⟨l, ws, rfl, by omega, hq, h2⟩
theorem okA_S {r : List (Bool × List Tc)} {vs : List V} (h : okA (aS :: r) vs) : ∃ (l : Str) (ws : List V), vs = .str l :: ws ∧ l.length < 4611686018427387904 ∧ okA r ws := by
  obtain ⟨v, ws, rfl, h1, h2⟩ := okA_cons h
  simp only [if_true] at h1
  obtain ⟨l, rfl, hl⟩ := okC_str h1.1
  exact ⟨l, ws, rfl, by omega, h2⟩
end Go.Proofs
namespace Go.Proofs
open Go Go.Ev
abbrev aB : Bool × List Tc := (true, [.lst true [.int .u8]])
theorem okA_B {r : List (Bool × List Tc)} {vs : List V} (h : okA (aB :: r) vs) : ∃ (l : List Int) (ws : List V), vs = .lst false 1 (l.map bV) :: ws ∧ l.length < 4611686018427387904 ∧ okA r ws := by
  obtain ⟨v, ws, rfl, h1, h2⟩ := okA_cons h
  simp only [if_true] at h1
  obtain ⟨xs, rfl, hl, hx⟩ := h1.1
  obtain ⟨l, rfl, _⟩ := dec_list (enc := bV) (Q := fun _ => True) (xs := xs) fun x hx' => by
    have h9 := hx x hx'
    simp only [if_true] at h9
    obtain ⟨n, rfl, _⟩ := h9.1
    exact ⟨n, rfl, trivial⟩
  rw [List.length_map] at hl
  exact ⟨l, ws, rfl, Nat.lt_of_le_of_lt hl (by decide), h2⟩
end Go.Proofs
namespace Go.Proofs.YtfdanoafhehjnaaGreat
open Go Go.Ev Go.Proofs Go.RowKit Go.ChangeShapes Go.WideShapes
theorem s_k1 : ownKnob Tryz.checked.prog.godebug = none := by kernel_rfl
theorem s_h2 : laidOutB Tryz.checked.prog = true := by kernel_rfl
theorem s_h3 : mapsRowed Tryz.checked.prog = true := by kernel_rfl
theorem s_h6 : ((Rows.fnLubRow.stops == []) && (Tryz.checked.prog.stops == []) && (Rows.fnLubRow.knobs == []) && (Tryz.checked.prog.stopKnobs == [])) = true := by kernel_rfl
theorem s_h20 : (Rows.fnLubRow.plainKeys == Tryz.checked.prog.plainKeys) = true := by kernel_rfl
theorem s_h21 : (Rows.fnLubRow.shortTexts.isNone && Tryz.checked.prog.stopsHeard) = true := by kernel_rfl
theorem s_h21b : Tryz.checked.prog.mayEnter = true := by kernel_rfl
theorem s_h22 : (Rows.fnLubRow.lifted == Tryz.checked.prog.liftsFinal) = true := by kernel_rfl
theorem s_h23 : (Tryz.checked.prog.make == some Rows.fnLubRow.make) = true := by kernel_rfl
end Go.Proofs.YtfdanoafhehjnaaGreat
namespace Go.Proofs
open Go Go.Ev
theorem knownT_zero {l : List Cls} {t : Typ} (h : knownT l t = true) (hk : t.k = 0) : t = ⟨0, [], 0⟩ := by
  unfold knownT at h
  rw [if_neg (by omega), if_neg (by omega)] at h
  simp only [Bool.and_eq_true, decide_eq_true_eq] at h
  cases t
  simp_all
theorem le_antisymm' {l : List Cls} (hw : rightW l = true) {a b : Typ} (ha : knownT l a = true) (hb : knownT l b = true) (h1 : leT l a b = true) (h2 : leT l b a = true) : a = b := by
  rw [le_iff ha hb] at h1
  rw [le_iff hb ha] at h2
  rcases h1 with h1 | h1 | h1 | h1 | h1
  · exact h1
  · rcases h2 with h2 | h2 | h2 | h2 | h2
    · exact h2.symm
    · rw [knownT_zero ha h2, knownT_zero hb h1]
    · omega
    · omega
    · omega
  · rcases h2 with h2 | h2 | h2 | h2 | h2
    · exact h2.symm
    · omega
    · omega
    · omega
    · omega
  · rcases h2 with h2 | h2 | h2 | h2 | h2
    · exact h2.symm
    · omega
    · omega
    · obtain ⟨ka, ca⟩ := known3 ha (by omega)
      obtain ⟨kb, cb⟩ := known3 hb (by omega)
      have hc := in_antisymm hw ka kb h2.2 h1.2
      obtain ⟨k1, c1, t1⟩ := a
      obtain ⟨k2, c2, t2⟩ := b
      simp only at *
      rw [hc, ca, cb, show k1 = k2 from by omega]
    · omega
  · rcases h2 with h2 | h2 | h2 | h2 | h2
    · exact h2.symm
    · omega
    · omega
    · omega
    · omega
theorem le_lub_iff {l : List Cls} (hw : rightW l = true) {a b : Typ} (ha : knownT l a = true) (hb : knownT l b = true) : leT l a b = decide (lubT l a b = b) := by
  rw [Bool.eq_iff_iff, decide_eq_true_eq]
  constructor
  · intro h
    exact le_antisymm' hw (lub_known hw ha hb) hb (lub_least hw ha hb hb h (le_refl' b)) (lub_up hw ha hb).2
  · intro h
    have := (lub_up hw ha hb).1
    rwa [h] at this
theorem lubLs_comm {l : List Cls} (hw : rightW l = true) : ∀ {a b : List Typ}, a.all (knownT l) = true → b.all (knownT l) = true → lubLs (lubT l) a b = lubLs (lubT l) b a
  | [], [], _, _ => rfl
  | [], _ :: _, _, _ => rfl
  | _ :: _, [], _, _ => rfl
  | x :: a, y :: b, ha, hb => by
    simp only [List.all_cons, Bool.and_eq_true] at ha hb
    have := lubLs_comm hw ha.2 hb.2
    unfold lubLs at this ⊢
    simp only [List.zipWith_cons_cons]
    rw [lub_comm hw ha.1 hb.1, this]
theorem lubLs_up {l : List Cls} (hw : rightW l = true) : ∀ {a b : List Typ}, a.all (knownT l) = true → b.all (knownT l) = true → a.length = b.length →
    leLs (leT l) a (lubLs (lubT l) a b) = true ∧ leLs (leT l) b (lubLs (lubT l) a b) = true ∧ (lubLs (lubT l) a b).all (knownT l) = true ∧ leLs (leT l) a b = decide (lubLs (lubT l) a b = b)
  | [], [], _, _, _ => by simp [lubLs, leLs]
  | [], _ :: _, _, _, h => by simp at h
  | _ :: _, [], _, _, h => by simp at h
  | x :: a, y :: b, ha, hb, h => by
    simp only [List.all_cons, Bool.and_eq_true] at ha hb
    obtain ⟨h1, h2, h3, h4⟩ := lubLs_up hw ha.2 hb.2 (by simpa using h)
    obtain ⟨u1, u2⟩ := lub_up hw ha.1 hb.1
    have hk := lub_known hw ha.1 hb.1
    have hi := le_lub_iff hw ha.1 hb.1
    unfold lubLs at h1 h2 h3 h4 ⊢
    simp only [List.zipWith_cons_cons, leLs, List.all_cons]
    rw [u1, u2, h1, h2, h3, hk, hi, h4]
    refine ⟨rfl, rfl, rfl, ?_⟩
    rw [Bool.eq_iff_iff]; simp
theorem frmLubW_comm (l : List Cls) (a b : Frm) : frmLubW l b a = frmLubW l a b := by
  unfold frmLubW
  by_cases h0 : 400 < l.length
  · rw [if_pos h0, if_pos h0]
  · rw [if_neg h0, if_neg h0]
    by_cases h1 : (frmRightW l a && (frmR l b && decide (a.locals.length = b.locals.length))) = true
    · have h2 := h1
      simp only [Bool.and_eq_true, decide_eq_true_eq, frmRightW] at h2
      obtain ⟨⟨hw, ha⟩, hb, hl⟩ := h2
      rw [if_pos h1, if_pos (by simp [frmRightW, hw, ha, hb, hl])]
      have ka := ha
      have kb := hb
      simp only [frmR, Bool.and_eq_true] at ka kb
      by_cases h3 : a.stack.length = b.stack.length
      · rw [if_pos h3, if_pos h3.symm, frmLubT, frmLubT, lubLs_comm hw ka.2.2.1 kb.2.2.1, lubLs_comm hw ka.2.2.2 kb.2.2.2]
      · rw [if_neg h3, if_neg (fun e => h3 e.symm)]
    · rw [if_neg h1, if_neg (fun e => h1 (by
        simp only [Bool.and_eq_true, decide_eq_true_eq, frmRightW] at e ⊢
        exact ⟨⟨e.1.1, e.2.1⟩, e.1.2, e.2.2.symm⟩))]
theorem frmLubW_ok {l : List Cls} {a b : Frm} (h : (frmLubW l a b).code = 0) : frmLeW l a (frmLubW l a b).f = true ∧ frmLeW l b (frmLubW l a b).f = true ∧ frmRightW l (frmLubW l a b).f = true ∧ frmLeW l a b = decide ((frmLubW l a b).f = b) := by
  unfold frmLubW at h ⊢
  split at h
  · cases h
  · rename_i h0
    split at h
    · rename_i h1
      split at h
      · rename_i h3
        rw [if_neg h0, if_pos h1, if_pos h3]
        simp only [Bool.and_eq_true, decide_eq_true_eq, frmRightW] at h1
        obtain ⟨⟨hw, ha⟩, hb, hl⟩ := h1
        have ka := ha
        have kb := hb
        simp only [frmR, Bool.and_eq_true, decide_eq_true_eq] at ka kb
        obtain ⟨s1, s2, s3, s4⟩ := lubLs_up hw ka.2.2.1 kb.2.2.1 h3
        obtain ⟨t1, t2, t3, t4⟩ := lubLs_up hw ka.2.2.2 kb.2.2.2 hl
        have hR : frmR l (frmLubT l a b) = true := by
          simp only [frmR, Bool.and_eq_true]
          exact ⟨decide_eq_true (by show (lubLs (lubT l) a.stack b.stack).length ≤ 16; rw [lubLs_len h3]; exact ka.1), decide_eq_true (by show (lubLs (lubT l) a.locals b.locals).length ≤ 16; rw [lubLs_len hl]; exact ka.2.1), s3, t3⟩
        refine ⟨by simp [frmLeW, frmRightW, hw, ha, hR]; exact ⟨s1, t1⟩, by simp [frmLeW, frmRightW, hw, hb, hR]; exact ⟨s2, t2⟩, by simp [frmRightW, hw, hR], ?_⟩
        rw [frmLeW, frmRightW, hw, ha, hb, s4, t4, Bool.eq_iff_iff]
        simp only [Bool.true_and, Bool.and_eq_true, decide_eq_true_eq, frmLubT]
        cases b
        simp
      · cases h
    · cases h
theorem ixFrom_mem {n : Str} : ∀ (l : List Str) (k : Nat), 0 ≤ ixFrom n l k → n ∈ l
  | [], k, h => by simp [ixFrom] at h
  | x :: l, k, h => by
    unfold ixFrom at h
    split at h
    · rename_i e; simp [e]
    · exact List.mem_cons_of_mem _ (ixFrom_mem l (k + 1) h)
theorem known_len {l : List Cls} {n : Str} (h : isKnown l n = true) : n.length ≤ 20 + sizeL l := by
  unfold isKnown at h
  rw [Bool.or_eq_true, decide_eq_true_eq, decide_eq_true_eq] at h
  rcases h with h | h
  · have h1 : n ∈ builtIn := ixFrom_mem _ _ h
    have h2 : ∀ x ∈ builtIn, x.length ≤ 20 := by decide
    have := h2 n h1; omega
  · obtain ⟨i, hi, _, _, _, h4⟩ := clsOf_found h
    have h5 := sizeL_at hi
    have h6 : n.length ≤ sizeC l[i] := by rw [← h4]; unfold sizeC; omega
    omega
theorem knownT_len {l : List Cls} {t : Typ} (h : knownT l t = true) : t.c.length ≤ 20 + sizeL l := by
  unfold knownT at h
  split at h
  · rw [Bool.and_eq_true] at h; exact known_len h.1
  · split at h
    · rw [Bool.and_eq_true] at h; exact known_len h.1
    · simp only [Bool.and_eq_true, decide_eq_true_eq] at h
      simp [h.2.1]
theorem frmR_size {l : List Cls} {f : Frm} (h : frmRightW l f = true) (hl : sizeL l ≤ 1500000) : sizeFr f ≤ 1099511627776 := by
  simp only [frmRightW, frmR, Bool.and_eq_true, decide_eq_true_eq, List.all_eq_true] at h
  have h1 := sum_le (f := sizeT) (k := 1500020) (l := f.stack) fun t ht => by have := knownT_len (h.2.2.2.1 t ht); simp only [sizeT]; omega
  have h2 := sum_le (f := sizeT) (k := 1500020) (l := f.locals) fun t ht => by have := knownT_len (h.2.2.2.2 t ht); simp only [sizeT]; omega
  have := h.2.1
  have := h.2.2.1
  unfold sizeFr; omega
theorem frm_size {f : Frm} (h1 : f.stack.length ≤ 20) (h2 : f.locals.length ≤ 20) (h3 : ∀ t ∈ f.stack, t.c.length ≤ 9) (h4 : ∀ t ∈ f.locals, t.c.length ≤ 9) : sizeFr f ≤ 1099511627776 := by
  have h5 := sum_le (f := sizeT) (k := 9) (l := f.stack) fun t ht => by have := h3 t ht; simp only [sizeT]; omega
  have h6 := sum_le (f := sizeT) (k := 9) (l := f.locals) fun t ht => by have := h4 t ht; simp only [sizeT]; omega
  unfold sizeFr; omega
end Go.Proofs
namespace Go.Proofs
open Go Go.Ev
def tysF : Nat → Src → List Typ
  | 0, _ => []
  | k + 1, s => (l06T s).1 :: tysF k (l06T s).2
def tysS : Nat → Src → Src
  | 0, s => s
  | k + 1, s => tysS k (l06T s).2
theorem tysF_len : ∀ k s, (tysF k s).length = k
  | 0, _ => rfl
  | k + 1, s => by simp [tysF, tysF_len k]
theorem tysF_take (k : Nat) (s : Src) : ((tysF k s).map eT).take k = (tysF k s).map eT := List.take_of_length_le (by rw [List.length_map, tysF_len]; exact Nat.le_refl _)
theorem tysS_ok : ∀ k {s}, okS s → okS (tysS k s)
  | 0, _, h => h
  | k + 1, _, h => tysS_ok k (l06T_ok h).1
theorem tysF_ok : ∀ k {s}, okS s → ∀ t ∈ tysF k s, t.c.length ≤ 9
  | 0, _, _, t, ht => by simp [tysF] at ht
  | k + 1, s, h, t, ht => by
    simp only [tysF, List.mem_cons] at ht
    rcases ht with rfl | ht
    · exact (l06T_ok h).2
    · exact tysF_ok k (l06T_ok h).1 t ht
end Go.Proofs
namespace Go.Proofs
open Go Go.Ev
theorem map_setT {l : List Typ} {q : Nat} {v : Typ} : (l.map eT).set q (.agg [.int .i64 v.k, .str v.c, .int .i64 v.at']) = (l.set q v).map eT := by rw [List.map_set]; rfl
@[simp] theorem jkL_setT {p : Nat → Bool} {l : List Typ} {q : Nat} {a c : Int} {b : Str} : jkL p ((l.map eT).set q (.agg [.int .i64 a, .str b, .int .i64 c])) = (l.map eT).set q (.agg [.int .i64 a, .str b, .int .i64 c]) := by
  have h := map_setT (l := l) (q := q) (v := ⟨a, b, c⟩)
  rw [h]; exact jkL_mapf p eT (fun _ => rfl) _
theorem set_le {l : List Typ} {q : Nat} {v : Typ} (h : ∀ t ∈ l, t.c.length ≤ 9) (hv : v.c.length ≤ 9) : ∀ t ∈ l.set q v, t.c.length ≤ 9 := set_all h hv
end Go.Proofs
namespace Go.Proofs
open Go Go.Ev

attribute [local irreducible] nS nV wordS wordV ltyS ltyV pickV l06T
theorem cb_spec_l01Src_l07Frame : Callable Tryz.prog 97 := ⟨_, Tryz.func97, by kernel_rfl, by kernel_rfl⟩
theorem ct_spec_l01Src_l07Frame {s0 : Src} (hs0 : okS s0) {k n : Nat} (hk : k ≤ 20) (hn : n ≤ 20) : Ct Tryz.prog 97 [.ptr 0 0 0, .int .i64 k, .int .i64 n] [oSrc s0] (oFr ⟨tysF k s0, tysF n (tysS k s0)⟩) [oSrc (tysS n (tysS k s0))] := by
  refine Ct_bodyS tok Tryz.func97 rfl 32 (by kernel_rfl) (by kernel_rfl) fun X hX => ?_
  refine jq [0, 1, 2, 6] ?_
  refine jq [0, 1, 2, 6, 7] ?_
  refine W_le (Le.trans (Le.nilC 2 0 0 3 (by simp; rfl)) (Le.nilC 2 0 1 3 (by simp; rfl))) ?_
  refine W_seq (W_block (W_loopU (α := Nat × Src × List Typ) [0, 1, 2, 6, 7] (fun p => [(1, .int .i64 p.1)]) (fun p => [(0, oSrc p.2.1), (2, some (2, [.agg [.arr 3 0 p.2.2.length, .arr 4 0 0]])), (3, some (3, p.2.2.map eT))]) (fun p => okS p.2.1 ∧ p.2.2.length + p.1 = k ∧ p.2.2 ++ tysF p.1 p.2.1 = tysF k s0 ∧ tysS p.1 p.2.1 = tysS k s0) (fun p => p.1) ((k, s0, [])) (fun p => by simp; rfl) (by simp) ?_ ?_))
  · exact ⟨hs0, by simp, rfl, rfl⟩
  rintro ⟨j, s, xs⟩ ⟨hs, hj, hx, hS⟩
  simp only at hs hj hx hS
  have w1 : (xs.length + 1) * 32 ≤ 140737488355328 := by omega
  have w2 : xs.length ≤ 1099511627775 := by omega
  have wj : IntKind.i64.wrap ((j : Int) - 1) = ((j - 1 : Nat) : Int) ∨ j = 0 := by
    by_cases h : j = 0
    · exact .inr h
    · left; rw [wrap_i64 (by omega) (by omega)]; omega
  refine W_seq (W_rseqK [0, 1, 2, 6, 7, 10] (jh hX (by simp [w1, w2]; rfl)) ?_)
  refine jd (fun h2 => ?_) (fun h2 => ?_)
  · try simp at h2
    replace wj := wj.resolve_right (by omega)
    refine W_skip (W_seq (W_block (W_held (n := 5) (A := [0, 1, 2]) (B := [3, 4]) (L := [2]) hmo (by kernel_rfl) tok hX (by simp [w1, w2, h2, wj]; rfl) (jH (p:=fun X hX => (jc [0] (c:=(by (try simp only [mapL_T, mapL_F, mapL_I, mapL_H, mapL_M, mapL_C]); apply ct_spec_l01Src_l06Type <;> first | omega | assumption)) (a:=cb_spec_l01Src_l06Type) (k:=jf))) (k:=(jH (p:=fun X hX => (jh hX (by simp [w1, w2, h2, wj]; rfl))) (k:=.nil)))) (jh hX (by simp [w1, w2, h2, wj]; rfl)) ?_)))
    refine W_reg (jh hX (by simp [w1, w2, h2, wj]; (try (simp (disch := omega) only [wrap_i64]; (try simp [w1, w2, h2, wj]))); rfl)) ?_
    refine round_endT ((j - 1, (l06T s).2, xs ++ [(l06T s).1])) [0, 1, 2, 6, 7] 5 (by simp [hX]) (by simp) (by simp [wj]) ?_ ?_
    · obtain ⟨m, rfl⟩ : ∃ m, j = m + 1 := ⟨j - 1, by omega⟩
      exact ⟨(l06T_ok hs).1, by simp; omega, by simp only [Nat.add_sub_cancel]; rw [← hx]; simp [tysF], by rw [← hS]; simp [tysS]⟩
    · simp only; omega
  · try simp at h2
    obtain rfl : j = 0 := by omega
    simp only [tysF, tysS, List.append_nil, Nat.add_zero] at hx hS hj
    subst hS
    subst hx
    rw [tysF_len]
    refine W_exit (W_seq (W_block (W_loopU (α := Nat × Src × List Typ) [0, 2, 6, 7] (fun p => [(2, .int .i64 p.1)]) (fun p => [(0, oSrc p.2.1), (2, some (2, [.agg [.arr 3 0 k, .arr 4 0 p.2.2.length]])), (4, some (3, p.2.2.map eT))]) (fun p => okS p.2.1 ∧ p.2.2.length + p.1 = n ∧ p.2.2 ++ tysF p.1 p.2.1 = tysF n (tysS k s0) ∧ tysS p.1 p.2.1 = tysS n (tysS k s0)) (fun p => p.1) ((n, (tysS k s0), [])) (fun p => by simp; rfl) (by simp) ?_ ?_)))
    · exact ⟨tysS_ok _ hs0, by simp, rfl, rfl⟩
    rintro ⟨j, s, xs⟩ ⟨hs, hj, hx, hS⟩
    simp only at hs hj hx hS
    have w1 : (xs.length + 1) * 32 ≤ 140737488355328 := by omega
    have w2 : xs.length ≤ 1099511627775 := by omega
    have wj : IntKind.i64.wrap ((j : Int) - 1) = ((j - 1 : Nat) : Int) ∨ j = 0 := by
      by_cases h : j = 0
      · exact .inr h
      · left; rw [wrap_i64 (by omega) (by omega)]; omega
    refine W_seq (W_rseqK [0, 2, 6, 7, 21] (jh hX (by simp [w1, w2, h2, w1, w2]; rfl)) ?_)
    refine jd (fun h5 => ?_) (fun h5 => ?_)
    · try simp at h5
      replace wj := wj.resolve_right (by omega)
      refine W_skip (W_seq (W_block (W_held (n := 5) (A := [0, 1, 2]) (B := [3, 4]) (L := [2]) hmo (by kernel_rfl) tok hX (by simp [w1, w2, h2, w1, w2, h5, wj]; rfl) (jH (p:=fun X hX => (jc [0] (c:=(by (try simp only [mapL_T, mapL_F, mapL_I, mapL_H, mapL_M, mapL_C]); apply ct_spec_l01Src_l06Type <;> first | omega | assumption)) (a:=cb_spec_l01Src_l06Type) (k:=jf))) (k:=(jH (p:=fun X hX => (jh hX (by simp [w1, w2, h2, w1, w2, h5, wj]; rfl))) (k:=.nil)))) (jh hX (by simp [w1, w2, h2, w1, w2, h5, wj]; rfl)) ?_)))
      refine W_reg (jh hX (by simp [w1, w2, h2, w1, w2, h5, wj]; (try (simp (disch := omega) only [wrap_i64]; (try simp [w1, w2, h2, w1, w2, h5, wj]))); rfl)) ?_
      refine round_endT ((j - 1, (l06T s).2, xs ++ [(l06T s).1])) [0, 2, 6, 7] 5 (by simp [hX]) (by simp) (by simp [wj]) ?_ ?_
      · obtain ⟨m, rfl⟩ : ∃ m, j = m + 1 := ⟨j - 1, by omega⟩
        exact ⟨(l06T_ok hs).1, by simp; omega, by simp only [Nat.add_sub_cancel]; rw [← hx]; simp [tysF], by rw [← hS]; simp [tysS]⟩
      · simp only; omega
    · try simp at h5
      obtain rfl : j = 0 := by omega
      simp only [tysF, tysS, List.append_nil, Nat.add_zero] at hx hS hj
      subst hS
      subst hx
      rw [tysF_len]
      refine W_exit (W_rseqK [6] (jh hX (by simp [w1, w2, h2, w1, w2, h5, tysF_len, tysF_take]; rfl)) ?_)
      refine W_ret (W_retR2 (by simp [w1, w2, h2, w1, w2, h5, tysF_len, tysF_take]; rfl) (by rfl) (.of_eq ?_) ?_)
      all_goals clear hX
      · skip
        simp [oFr, tysF_len]
      · skip
        simp
theorem ct_spec_l01Src_l07Frame_i {s0 : Src} (hs0 : okS s0) {k n : Int} (hk0 : 0 ≤ k) (hk : k ≤ 20) (hn0 : 0 ≤ n) (hn : n ≤ 20) : Ct Tryz.prog 97 [.ptr 0 0 0, .int .i64 k, .int .i64 n] [oSrc s0] (oFr ⟨tysF k.toNat s0, tysF n.toNat (tysS k.toNat s0)⟩) [oSrc (tysS n.toNat (tysS k.toNat s0))] := by
  obtain ⟨a, rfl⟩ : ∃ a : Nat, k = a := ⟨k.toNat, by omega⟩
  obtain ⟨b, rfl⟩ : ∃ b : Nat, n = b := ⟨n.toNat, by omega⟩
  exact ct_spec_l01Src_l07Frame hs0 (by omega) (by omega)
end Go.Proofs
namespace Go.Proofs
open Go Go.Ev

attribute [local irreducible] nS nV wordS wordV ltyS ltyV pickV l06T
theorem cb_spec_l01Src_l07Two : Callable Tryz.prog 47 := ⟨_, Tryz.func47, by kernel_rfl, by kernel_rfl⟩
theorem ct_spec_l01Src_l07Two {s : Src} (hs : okS s) : CtE Tryz.prog 47 [.ptr 0 0 0] [oSrc s] (fun r ob' => ∃ (s' : Src) (a b : Frm), r = .tup [oFr a, oFr b] ∧ ob' = [oSrc s'] ∧ okS s' ∧ a.stack.length ≤ 20 ∧ a.locals.length ≤ 20 ∧ b.stack.length ≤ 20 ∧ b.locals.length ≤ 20 ∧ (∀ t ∈ a.stack, t.c.length ≤ 9) ∧ (∀ t ∈ a.locals, t.c.length ≤ 9) ∧ (∀ t ∈ b.stack, t.c.length ≤ 9) ∧ (∀ t ∈ b.locals, t.c.length ≤ 9)) := by
  refine Ct_bodyE tok Tryz.func47 rfl 83 (by kernel_rfl) (by kernel_rfl) fun X hX => ?_
  refine jq [0, 2, 3] ?_
  refine W_rseqK [0, 2, 3, 4] (jt 1 (k:=(jc [0] (c:=(by (try simp only [mapL_T, mapL_F, mapL_I, mapL_H, mapL_M, mapL_C]); apply ct_spec_l01Src_n <;> first | omega | assumption | ((repeat first | apply nS_ok | apply tysS_ok); assumption))) (a:=cb_spec_l01Src_n) (k:=jr)))) ?_
  have h9 := nV_r s (m := 4) (by decide)
  have h8 := h9.2.1 (by decide)
  obtain ⟨k, hk0⟩ : ∃ k : Nat, nV s 4 = k := ⟨(nV s 4).toNat, by omega⟩
  rw [hk0]
  refine W_rseqK [0, 2, 3, 4, 5] (jt 1 (k:=(jc [0] (c:=(by (try simp only [mapL_T, mapL_F, mapL_I, mapL_H, mapL_M, mapL_C]); apply ct_spec_l01Src_n <;> first | omega | assumption | ((repeat first | apply nS_ok | apply tysS_ok); assumption))) (a:=cb_spec_l01Src_n) (k:=jr)))) ?_
  have h9b := nV_r (nS s 4) (m := 4) (by decide)
  have h8b := h9b.2.1 (by decide)
  obtain ⟨n, hn0⟩ : ∃ n : Nat, nV (nS s 4) 4 = n := ⟨(nV (nS s 4) 4).toNat, by omega⟩
  rw [hn0]
  have hn : n ≤ 4 := by omega
  refine W_seq (W_rseqK [0, 2, 3, 4, 5, 15] (jt 1 (k:=(jc [0] (c:=(by (try simp only [mapL_T, mapL_F, mapL_I, mapL_H, mapL_M, mapL_C]); apply ct_spec_l01Src_one <;> first | omega | assumption | ((repeat first | apply nS_ok | apply tysS_ok); assumption))) (a:=cb_spec_l01Src_one) (k:=jf)))) ?_)
  refine W_cutT (α := Src × Nat) [0, 2, 3, 4, 5] (fun p => [(4, .int .i64 (p.2 : Nat))]) (fun p => [(0, oSrc p.1)]) (fun p => okS p.1 ∧ p.2 ≤ 20) (fun p => by simp; rfl) ?_ ?_
  · skip
    refine jd (fun h3 => ?_) (fun h3 => ?_)
    · try simp at h3
      refine W_reg (jt 1 (k:=(jc [0] (c:=(by (try simp only [mapL_T, mapL_F, mapL_I, mapL_H, mapL_M, mapL_C]); apply ct_spec_l01Src_n <;> first | omega | assumption | ((repeat first | apply nS_ok | apply tysS_ok); assumption))) (a:=cb_spec_l01Src_n) (k:=(jh hX (by simp; (try (simp (disch := omega) only [wrap_i64]; (try simp))); rfl)))))) ?_
      have h9c := nV_r (nS (nS (nS s 4) 4) 30) (m := 3) (by decide)
      have h8c := h9c.2.1 (by decide)
      obtain ⟨k2, hk2, hk3⟩ : ∃ k2 : Nat, IntKind.i64.wrap (15 + nV (nS (nS (nS s 4) 4) 30) 3) = k2 ∧ k2 ≤ 20 := ⟨(15 + nV (nS (nS (nS s 4) 4) 30) 3).toNat, by rw [wrap_i64 (by omega) (by omega)]; omega, by omega⟩
      rw [hk2]
      refine cut_end ((⟨_, _, _, _⟩, _)) [0, 2, 3, 4, 5] (Eq.trans (by simp; rfl) (by rfl)) ?_
      exact ⟨by (first | assumption | ((repeat (first | apply nS_ok | apply wordS_ok | apply ltyS_ok)) <;> assumption)), by simp only; omega⟩
    · try simp at h3
      refine W_skip (cut_end ((⟨_, _, _, _⟩, _)) [0, 2, 3, 4, 5] (Eq.trans (by simp; rfl) (by rfl)) ?_)
      exact ⟨by (first | assumption | ((repeat (first | apply nS_ok | apply wordS_ok | apply ltyS_ok)) <;> assumption)), by simp only; omega⟩
  · rintro ⟨s, k⟩ ⟨hs, hk⟩
    simp only at hs hk
    refine W_rseqK [0, 2, 3, 4, 5, 6] (jt 3 (k:=(jc [0] (c:=(by (try simp only [mapL_T, mapL_F, mapL_I, mapL_H, mapL_M, mapL_C]); apply (ct_spec_l01Src_l07Frame (k := k) (n := n)) <;> first | omega | assumption | ((repeat first | apply nS_ok | apply tysS_ok); assumption))) (a:=cb_spec_l01Src_l07Frame) (k:=jr)))) ?_
    have ha1c := tysF_ok k hs
    have ha2c := tysF_ok n (tysS_ok k hs)
    have hs1 := tysS_ok n (tysS_ok k hs)
    have ha1l := tysF_len k s
    have ha2l := tysF_len n (tysS k s)
    simp only [tysF_len]
    generalize tysF n (tysS k s) = a2 at *
    generalize tysF k s = a1 at *
    generalize tysS n (tysS k s) = s1 at *
    have ha1t : (a1.map eT).take k = a1.map eT := List.take_of_length_le (by rw [List.length_map]; omega)
    have ha2t : (a2.map eT).take n = a2.map eT := List.take_of_length_le (by rw [List.length_map]; omega)
    refine W_seq (W_rseqK [0, 2, 3, 4, 5, 6, 24] (js hX 1 (by simp [ha1l, ha2l, ha1t, ha2t]; rfl) (jc [0] (c:=(by (try simp only [mapL_T, mapL_F, mapL_I, mapL_H, mapL_M, mapL_C]); apply ct_spec_l01Src_one <;> first | omega | assumption | ((repeat first | apply nS_ok | apply tysS_ok); assumption))) (a:=cb_spec_l01Src_one) (k:=jf))) ?_)
    refine jd (fun h6 => ?_) (fun h6 => ?_)
    · try simp at h6
      have h9d := nV_r (nS s1 12) (m := 4) (by decide)
      have h8d := h9d.2.1 (by decide)
      have h9e := nV_r (nS (nS s1 12) 4) (m := 2) (by decide)
      have h8e := h9e.2.1 (by decide)
      have wn : IntKind.i64.wrap ((n : Int) + nV (nS (nS s1 12) 4) 2) = n + nV (nS (nS s1 12) 4) 2 := wrap_i64 (by omega) (by omega)
      refine jL 9 [0, 1, 2, 4, 5] [3, 6, 7, 8] [2, 3] ([5]) hX (by simp [ha1l, ha2l, ha1t, ha2t, wn, tysF_len, tysF_take]; rfl) (jH (p:=fun X hX => (jc [0] (c:=(by (try simp only [mapL_T, mapL_F, mapL_I, mapL_H, mapL_M, mapL_C]); apply ct_spec_l01Src_n <;> first | omega | assumption | ((repeat first | apply nS_ok | apply tysS_ok); assumption))) (a:=cb_spec_l01Src_n) (k:=jf))) (k:=(jH (p:=fun X hX => (jc [0] (c:=(by (try simp only [mapL_T, mapL_F, mapL_I, mapL_H, mapL_M, mapL_C]); apply ct_spec_l01Src_n <;> first | omega | assumption | ((repeat first | apply nS_ok | apply tysS_ok); assumption))) (a:=cb_spec_l01Src_n) (k:=jf))) (k:=(jH (p:=fun X hX => (jh hX (by simp [ha1l, ha2l, ha1t, ha2t, wn, tysF_len, tysF_take]; (try (simp (disch := omega) only [wrap_i64]; (try simp [ha1l, ha2l, ha1t, ha2t, wn, tysF_len, tysF_take]))); rfl))) (k:=(jH (p:=fun X hX => (jc [0] (c:=(by (try simp only [mapL_T, mapL_F, mapL_I, mapL_H, mapL_M, mapL_C]); apply ct_spec_l01Src_l07Frame_i <;> first | omega | assumption | ((repeat first | apply nS_ok | apply tysS_ok); assumption))) (a:=cb_spec_l01Src_l07Frame) (k:=jf))) (k:=.nil)))))))) (jh hX (by simp [ha1l, ha2l, ha1t, ha2t, wn, tysF_len, tysF_take]; rfl)) ?_
      refine W_ret (DoneE.ret (Eq.trans (by simp [ha1l, ha2l, ha1t, ha2t, wn, tysF_len, tysF_take]; rfl) (by rfl)) ?_)
      refine ⟨_, ⟨a1, a2⟩, ⟨tysF (nV (nS s1 12) 4).toNat (nS (nS (nS s1 12) 4) 2), tysF (n + nV (nS (nS s1 12) 4) 2).toNat (tysS (nV (nS s1 12) 4).toNat (nS (nS (nS s1 12) 4) 2))⟩, rfl, rfl, tysS_ok _ (tysS_ok _ (nS_ok (nS_ok (nS_ok hs1 12) 4) 2)), by simp only; omega, by simp only; omega, by simp only [tysF_len]; omega, by simp only [tysF_len]; omega, ha1c, ha2c, tysF_ok _ (nS_ok (nS_ok (nS_ok hs1 12) 4) 2), tysF_ok _ (tysS_ok _ (nS_ok (nS_ok (nS_ok hs1 12) 4) 2))⟩
    · try simp at h6
      refine W_skip (W_rseqK [0, 2, 3, 6, 7] (js hX 3 (by simp [ha1l, ha2l, ha1t, ha2t]; rfl) (jc [0] (c:=(by (try simp only [mapL_T, mapL_F, mapL_I, mapL_H, mapL_M, mapL_C]); apply (ct_spec_l01Src_l07Frame (k := k) (n := n)) <;> first | omega | assumption | ((repeat first | apply nS_ok | apply tysS_ok); assumption))) (a:=cb_spec_l01Src_l07Frame) (k:=(jh hX (by simp [ha1l, ha2l, ha1t, ha2t]; rfl))))) ?_)
      have hb1c := tysF_ok k (nS_ok hs1 12)
      have hb2c := tysF_ok n (tysS_ok k (nS_ok hs1 12))
      have hs2 := tysS_ok n (tysS_ok k (nS_ok hs1 12))
      have hb1l := tysF_len k (nS s1 12)
      have hb2l := tysF_len n (tysS k (nS s1 12))
      simp only [tysF_len]
      generalize tysF n (tysS k (nS s1 12)) = b2 at *
      generalize tysF k (nS s1 12) = b1 at *
      generalize tysS n (tysS k (nS s1 12)) = s2 at *
      refine W_seq (W_rseqK [0, 2, 3, 6, 7, 8] (jh hX (by simp [ha1l, ha2l, ha1t, ha2t]; rfl)) ?_)
      refine W_block (W_loopU (α := Nat × Src × List Typ) [0, 2, 3, 6, 7, 8] (fun p => [(8, .int .i64 p.1)]) (fun p => [(0, oSrc p.2.1), (6, some (3, p.2.2.map eT))]) (fun p => p.1 ≤ k ∧ okS p.2.1 ∧ p.2.2.length = k ∧ ∀ t ∈ p.2.2, t.c.length ≤ 9) (fun p => k - p.1) ((0, s2, b1)) (fun p => by simp; rfl) (by simp) ?_ ?_)
      · exact ⟨Nat.zero_le _, by assumption, by assumption, by assumption⟩
      rintro ⟨i, s, ys⟩ ⟨hi, hs, hy, hyc8⟩
      simp only at hi hs hy hyc8
      have wi : IntKind.i64.wrap ((i : Int) + 1) = i + 1 := wrap_i64 (by omega) (by omega)
      refine W_seq (W_rseqK [0, 2, 3, 6, 7, 8, 42] (jh hX (by simp [ha1l, ha2l, ha1t, ha2t, wi]; rfl)) ?_)
      refine jd (fun h10 => ?_) (fun h10 => ?_)
      · try simp at h10
        have hi1 : i < a1.length := by omega
        have hi2 : i < ys.length := by omega
        refine W_skip (W_seq (W_block (W_rseqK [0, 2, 3, 6, 7, 8, 46] (js hX 1 (by simp [ha1l, ha2l, ha1t, ha2t, wi, h10, hi1, hi2]; rfl) (jc [0] (c:=(by (try simp only [mapL_T, mapL_F, mapL_I, mapL_H, mapL_M, mapL_C]); apply ct_spec_l01Src_one <;> first | omega | assumption | ((repeat first | apply nS_ok | apply tysS_ok); assumption))) (a:=cb_spec_l01Src_one) (k:=jf))) ?_)))
        refine jd (fun h12 => ?_) (fun h12 => ?_)
        · try simp at h12
          refine W_held (n := 8) (A := [0, 1, 2, 3, 4, 5, 6, 7]) (B := []) (L := [3, 5, 8]) hmo (by kernel_rfl) tok hX (by simp [ha1l, ha2l, ha1t, ha2t, wi, h10, hi1, hi2]; rfl) .nil (jh hX (by simp [ha1l, ha2l, ha1t, ha2t, wi, h10, hi1, hi2]; rfl)) ?_
          refine W_reg (jh hX (by simp [ha1l, ha2l, ha1t, ha2t, wi, h10, hi1, hi2]; (try (simp (disch := omega) only [wrap_i64]; (try simp [ha1l, ha2l, ha1t, ha2t, wi, h10, hi1, hi2]))); rfl)) ?_
          first
            | (refine round_endT (i + 1, nS s 2, ys) [0, 2, 3, 5, 6, 7, 8] 9 (by simp [hX]) (by simp) ?_ ?_ ?_; (solve | simp [wi]); exact ⟨by simp only; omega, by (first | assumption | ((repeat (first | apply nS_ok | apply wordS_ok | apply ltyS_ok)) <;> assumption)), by simp [hy], hyc8⟩; (simp only; omega))
            | (refine round_endT (i + 1, nS s 2, ys.set i a1[i]) [0, 2, 3, 5, 6, 7, 8] 9 (by simp [hX]) (by simp) ?_ ?_ ?_; (solve | simp [wi]); exact ⟨by simp only; omega, by (first | assumption | ((repeat (first | apply nS_ok | apply wordS_ok | apply ltyS_ok)) <;> assumption)), by simp [hy], set_le hyc8 (ha1c _ (List.getElem_mem _))⟩; (simp only; omega))
        · try simp at h12
          refine W_skip (W_reg (jh hX (by simp [ha1l, ha2l, ha1t, ha2t, wi, h10, hi1, hi2]; (try (simp (disch := omega) only [wrap_i64]; (try simp [ha1l, ha2l, ha1t, ha2t, wi, h10, hi1, hi2]))); rfl)) ?_)
          first
            | (refine round_endT (i + 1, nS s 2, ys) [0, 2, 3, 5, 6, 7, 8] 9 (by simp [hX]) (by simp) ?_ ?_ ?_; (solve | simp [wi]); exact ⟨by simp only; omega, by (first | assumption | ((repeat (first | apply nS_ok | apply wordS_ok | apply ltyS_ok)) <;> assumption)), by simp [hy], hyc8⟩; (simp only; omega))
            | (refine round_endT (i + 1, nS s 2, ys.set i a1[i]) [0, 2, 3, 5, 6, 7, 8] 9 (by simp [hX]) (by simp) ?_ ?_ ?_; (solve | simp [wi]); exact ⟨by simp only; omega, by (first | assumption | ((repeat (first | apply nS_ok | apply wordS_ok | apply ltyS_ok)) <;> assumption)), by simp [hy], set_le hyc8 (ha1c _ (List.getElem_mem _))⟩; (simp only; omega))
      · try simp at h10
        have hyt : (ys.map eT).take k = ys.map eT := List.take_of_length_le (by rw [List.length_map]; omega)
        have hyk := hy
        have hyc0 := hyc8
        refine W_exit (W_seq (W_rseqK [0, 2, 3, 6, 7, 9] (jh hX (by simp [ha1l, ha2l, ha1t, ha2t, wi, h10, hyt, hyk]; rfl)) ?_))
        refine W_block (W_loopU (α := Nat × Src × List Typ) [0, 2, 3, 6, 7, 9] (fun p => [(9, .int .i64 p.1)]) (fun p => [(0, oSrc p.2.1), (7, some (3, p.2.2.map eT))]) (fun p => p.1 ≤ n ∧ okS p.2.1 ∧ p.2.2.length = n ∧ ∀ t ∈ p.2.2, t.c.length ≤ 9) (fun p => n - p.1) ((0, s, b2)) (fun p => by simp; rfl) (by simp) ?_ ?_)
        · exact ⟨Nat.zero_le _, by assumption, by assumption, by assumption⟩
        rintro ⟨i, s, zs⟩ ⟨hi, hs, hy, hyc9⟩
        simp only at hi hs hy hyc9
        have wi : IntKind.i64.wrap ((i : Int) + 1) = i + 1 := wrap_i64 (by omega) (by omega)
        refine W_seq (W_rseqK [0, 2, 3, 6, 7, 9, 60] (jh hX (by simp [ha1l, ha2l, ha1t, ha2t, wi, h10, hyt, hyk, wi]; rfl)) ?_)
        refine jd (fun h15 => ?_) (fun h15 => ?_)
        · try simp at h15
          have hi1 : i < a2.length := by omega
          have hi2 : i < zs.length := by omega
          refine W_skip (W_seq (W_block (W_seq (W_rseqK [0, 2, 3, 6, 7, 9, 64] (js hX 1 (by simp [ha1l, ha2l, ha1t, ha2t, wi, h10, hyt, hyk, wi, h15, hi1, hi2]; rfl) (jc [0] (c:=(by (try simp only [mapL_T, mapL_F, mapL_I, mapL_H, mapL_M, mapL_C]); apply ct_spec_l01Src_one <;> first | omega | assumption | ((repeat first | apply nS_ok | apply tysS_ok); assumption))) (a:=cb_spec_l01Src_one) (k:=jf))) ?_))))
          refine jd (fun h17 => ?_) (fun h17 => ?_)
          · try simp at h17
            refine W_held (n := 8) (A := [0, 1, 2, 3, 4, 5, 6, 7]) (B := []) (L := [4, 5, 8]) hmo (by kernel_rfl) tok hX (by simp [ha1l, ha2l, ha1t, ha2t, wi, h10, hyt, hyk, wi, h15, hi1, hi2]; rfl) .nil (jh hX (by simp [ha1l, ha2l, ha1t, ha2t, wi, h10, hyt, hyk, wi, h15, hi1, hi2]; rfl)) ?_
            refine W_rseqK [0, 2, 3, 6, 7, 9, 75] (js hX 1 (by simp [ha1l, ha2l, ha1t, ha2t, wi, h10, hyt, hyk, wi, h15, hi1, hi2]; rfl) (jc [0] (c:=(by (try simp only [mapL_T, mapL_F, mapL_I, mapL_H, mapL_M, mapL_C]); apply ct_spec_l01Src_one <;> first | omega | assumption | ((repeat first | apply nS_ok | apply tysS_ok); assumption))) (a:=cb_spec_l01Src_one) (k:=jf))) ?_
            refine jd (fun h19 => ?_) (fun h19 => ?_)
            · try simp at h19
              refine W_reg (jh hX (by simp [ha1l, ha2l, ha1t, ha2t, wi, h10, hyt, hyk, wi, h15, hi1, hi2]; rfl)) ?_
              refine W_reg (jh hX (by simp [ha1l, ha2l, ha1t, ha2t, wi, h10, hyt, hyk, wi, h15, hi1, hi2]; (try (simp (disch := omega) only [wrap_i64]; (try simp [ha1l, ha2l, ha1t, ha2t, wi, h10, hyt, hyk, wi, h15, hi1, hi2]))); rfl)) ?_
              first
                | (refine round_endT (i + 1, nS (nS s 2) 3, zs) [0, 2, 3, 6, 7, 9] 9 (by simp [hX]) (by simp) ?_ ?_ ?_; (solve | simp [wi]); exact ⟨by simp only; omega, by (first | assumption | ((repeat (first | apply nS_ok | apply wordS_ok | apply ltyS_ok)) <;> assumption)), by simp [hy], hyc9⟩; (simp only; omega))
                | (refine round_endT (i + 1, nS (nS s 2) 3, zs.set i a2[i]) [0, 2, 3, 6, 7, 9] 9 (by simp [hX]) (by simp) ?_ ?_ ?_; (solve | simp [wi]); exact ⟨by simp only; omega, by (first | assumption | ((repeat (first | apply nS_ok | apply wordS_ok | apply ltyS_ok)) <;> assumption)), by simp [hy], set_le hyc9 (ha2c _ (List.getElem_mem _))⟩; (simp only; omega))
                | (refine round_endT (i + 1, nS (nS s 2) 3, zs.set i ⟨0, [], 0⟩) [0, 2, 3, 6, 7, 9] 9 (by simp [hX]) (by simp) ?_ ?_ ?_; (solve | simp [wi]); exact ⟨by simp only; omega, by (first | assumption | ((repeat (first | apply nS_ok | apply wordS_ok | apply ltyS_ok)) <;> assumption)), by simp [hy], set_le hyc9 (by decide)⟩; (simp only; omega))
                | (refine round_endT (i + 1, nS (nS s 2) 3, (zs.set i a2[i]).set i ⟨0, [], 0⟩) [0, 2, 3, 6, 7, 9] 9 (by simp [hX]) (by simp) ?_ ?_ ?_; (solve | simp [wi]); exact ⟨by simp only; omega, by (first | assumption | ((repeat (first | apply nS_ok | apply wordS_ok | apply ltyS_ok)) <;> assumption)), by simp [hy], set_le (set_le hyc9 (ha2c _ (List.getElem_mem _))) (by decide)⟩; (simp only; omega))
            · try simp at h19
              refine W_skip (W_reg (jh hX (by simp [ha1l, ha2l, ha1t, ha2t, wi, h10, hyt, hyk, wi, h15, hi1, hi2]; (try (simp (disch := omega) only [wrap_i64]; (try simp [ha1l, ha2l, ha1t, ha2t, wi, h10, hyt, hyk, wi, h15, hi1, hi2]))); rfl)) ?_)
              first
                | (refine round_endT (i + 1, nS (nS s 2) 3, zs) [0, 2, 3, 6, 7, 9] 9 (by simp [hX]) (by simp) ?_ ?_ ?_; (solve | simp [wi]); exact ⟨by simp only; omega, by (first | assumption | ((repeat (first | apply nS_ok | apply wordS_ok | apply ltyS_ok)) <;> assumption)), by simp [hy], hyc9⟩; (simp only; omega))
                | (refine round_endT (i + 1, nS (nS s 2) 3, zs.set i a2[i]) [0, 2, 3, 6, 7, 9] 9 (by simp [hX]) (by simp) ?_ ?_ ?_; (solve | simp [wi]); exact ⟨by simp only; omega, by (first | assumption | ((repeat (first | apply nS_ok | apply wordS_ok | apply ltyS_ok)) <;> assumption)), by simp [hy], set_le hyc9 (ha2c _ (List.getElem_mem _))⟩; (simp only; omega))
                | (refine round_endT (i + 1, nS (nS s 2) 3, zs.set i ⟨0, [], 0⟩) [0, 2, 3, 6, 7, 9] 9 (by simp [hX]) (by simp) ?_ ?_ ?_; (solve | simp [wi]); exact ⟨by simp only; omega, by (first | assumption | ((repeat (first | apply nS_ok | apply wordS_ok | apply ltyS_ok)) <;> assumption)), by simp [hy], set_le hyc9 (by decide)⟩; (simp only; omega))
                | (refine round_endT (i + 1, nS (nS s 2) 3, (zs.set i a2[i]).set i ⟨0, [], 0⟩) [0, 2, 3, 6, 7, 9] 9 (by simp [hX]) (by simp) ?_ ?_ ?_; (solve | simp [wi]); exact ⟨by simp only; omega, by (first | assumption | ((repeat (first | apply nS_ok | apply wordS_ok | apply ltyS_ok)) <;> assumption)), by simp [hy], set_le (set_le hyc9 (ha2c _ (List.getElem_mem _))) (by decide)⟩; (simp only; omega))
          · try simp at h17
            refine W_skip (W_rseqK [0, 2, 3, 6, 7, 9, 75] (js hX 1 (by simp [ha1l, ha2l, ha1t, ha2t, wi, h10, hyt, hyk, wi, h15, hi1, hi2]; rfl) (jc [0] (c:=(by (try simp only [mapL_T, mapL_F, mapL_I, mapL_H, mapL_M, mapL_C]); apply ct_spec_l01Src_one <;> first | omega | assumption | ((repeat first | apply nS_ok | apply tysS_ok); assumption))) (a:=cb_spec_l01Src_one) (k:=jf))) ?_)
            refine jd (fun h19 => ?_) (fun h19 => ?_)
            · try simp at h19
              refine W_reg (jh hX (by simp [ha1l, ha2l, ha1t, ha2t, wi, h10, hyt, hyk, wi, h15, hi1, hi2]; rfl)) ?_
              refine W_reg (jh hX (by simp [ha1l, ha2l, ha1t, ha2t, wi, h10, hyt, hyk, wi, h15, hi1, hi2]; (try (simp (disch := omega) only [wrap_i64]; (try simp [ha1l, ha2l, ha1t, ha2t, wi, h10, hyt, hyk, wi, h15, hi1, hi2]))); rfl)) ?_
              first
                | (refine round_endT (i + 1, nS (nS s 2) 3, zs) [0, 2, 3, 6, 7, 9] 9 (by simp [hX]) (by simp) ?_ ?_ ?_; (solve | simp [wi]); exact ⟨by simp only; omega, by (first | assumption | ((repeat (first | apply nS_ok | apply wordS_ok | apply ltyS_ok)) <;> assumption)), by simp [hy], hyc9⟩; (simp only; omega))
                | (refine round_endT (i + 1, nS (nS s 2) 3, zs.set i a2[i]) [0, 2, 3, 6, 7, 9] 9 (by simp [hX]) (by simp) ?_ ?_ ?_; (solve | simp [wi]); exact ⟨by simp only; omega, by (first | assumption | ((repeat (first | apply nS_ok | apply wordS_ok | apply ltyS_ok)) <;> assumption)), by simp [hy], set_le hyc9 (ha2c _ (List.getElem_mem _))⟩; (simp only; omega))
                | (refine round_endT (i + 1, nS (nS s 2) 3, zs.set i ⟨0, [], 0⟩) [0, 2, 3, 6, 7, 9] 9 (by simp [hX]) (by simp) ?_ ?_ ?_; (solve | simp [wi]); exact ⟨by simp only; omega, by (first | assumption | ((repeat (first | apply nS_ok | apply wordS_ok | apply ltyS_ok)) <;> assumption)), by simp [hy], set_le hyc9 (by decide)⟩; (simp only; omega))
                | (refine round_endT (i + 1, nS (nS s 2) 3, (zs.set i a2[i]).set i ⟨0, [], 0⟩) [0, 2, 3, 6, 7, 9] 9 (by simp [hX]) (by simp) ?_ ?_ ?_; (solve | simp [wi]); exact ⟨by simp only; omega, by (first | assumption | ((repeat (first | apply nS_ok | apply wordS_ok | apply ltyS_ok)) <;> assumption)), by simp [hy], set_le (set_le hyc9 (ha2c _ (List.getElem_mem _))) (by decide)⟩; (simp only; omega))
            · try simp at h19
              refine W_skip (W_reg (jh hX (by simp [ha1l, ha2l, ha1t, ha2t, wi, h10, hyt, hyk, wi, h15, hi1, hi2]; (try (simp (disch := omega) only [wrap_i64]; (try simp [ha1l, ha2l, ha1t, ha2t, wi, h10, hyt, hyk, wi, h15, hi1, hi2]))); rfl)) ?_)
              first
                | (refine round_endT (i + 1, nS (nS s 2) 3, zs) [0, 2, 3, 6, 7, 9] 9 (by simp [hX]) (by simp) ?_ ?_ ?_; (solve | simp [wi]); exact ⟨by simp only; omega, by (first | assumption | ((repeat (first | apply nS_ok | apply wordS_ok | apply ltyS_ok)) <;> assumption)), by simp [hy], hyc9⟩; (simp only; omega))
                | (refine round_endT (i + 1, nS (nS s 2) 3, zs.set i a2[i]) [0, 2, 3, 6, 7, 9] 9 (by simp [hX]) (by simp) ?_ ?_ ?_; (solve | simp [wi]); exact ⟨by simp only; omega, by (first | assumption | ((repeat (first | apply nS_ok | apply wordS_ok | apply ltyS_ok)) <;> assumption)), by simp [hy], set_le hyc9 (ha2c _ (List.getElem_mem _))⟩; (simp only; omega))
                | (refine round_endT (i + 1, nS (nS s 2) 3, zs.set i ⟨0, [], 0⟩) [0, 2, 3, 6, 7, 9] 9 (by simp [hX]) (by simp) ?_ ?_ ?_; (solve | simp [wi]); exact ⟨by simp only; omega, by (first | assumption | ((repeat (first | apply nS_ok | apply wordS_ok | apply ltyS_ok)) <;> assumption)), by simp [hy], set_le hyc9 (by decide)⟩; (simp only; omega))
                | (refine round_endT (i + 1, nS (nS s 2) 3, (zs.set i a2[i]).set i ⟨0, [], 0⟩) [0, 2, 3, 6, 7, 9] 9 (by simp [hX]) (by simp) ?_ ?_ ?_; (solve | simp [wi]); exact ⟨by simp only; omega, by (first | assumption | ((repeat (first | apply nS_ok | apply wordS_ok | apply ltyS_ok)) <;> assumption)), by simp [hy], set_le (set_le hyc9 (ha2c _ (List.getElem_mem _))) (by decide)⟩; (simp only; omega))
        · try simp at h15
          have hzt : (zs.map eT).take n = zs.map eT := List.take_of_length_le (by rw [List.length_map]; omega)
          refine W_exit (jL 3 [0, 1] [2] [2, 3] ([5, 8]) hX (by simp [ha1l, ha2l, ha1t, ha2t, wi, h10, hyt, hyk, wi, h15, hzt, hy]; rfl) (jH (p:=fun X hX => (jh hX (by simp [ha1l, ha2l, ha1t, ha2t, wi, h10, hyt, hyk, wi, h15, hzt, hy]; rfl))) (k:=.nil)) (jh hX (by simp [ha1l, ha2l, ha1t, ha2t, wi, h10, hyt, hyk, wi, h15, hzt, hy]; rfl)) ?_)
          refine W_ret (DoneE.ret (Eq.trans (by simp [ha1l, ha2l, ha1t, ha2t, wi, h10, hyt, hyk, wi, h15, hzt, hy]; rfl) (by rfl)) ?_)
          exact ⟨s, ⟨a1, a2⟩, ⟨ys, zs⟩, rfl, rfl, hs, by simp only; omega, by simp only; omega, by simp only; omega, by simp only; omega, ha1c, ha2c, hyc0, hyc9⟩
end Go.Proofs
namespace Go.Proofs
open Go Go.Ev

attribute [local irreducible] nS nV wordS wordV ltyS ltyV pickV l06T
theorem cb_spec_DrawFrameLub : Callable Tryz.prog 13 := ⟨_, Tryz.func13, by kernel_rfl, by kernel_rfl⟩
theorem ct_spec_DrawFrameLub {c : List Int} (hc : c.length ≤ 1099511627776) : CtE Tryz.prog 13 [.lst false 1 (c.map bV)] [] (fun r ob' => ∃ (l : List Cls) (a b : Frm), r = .tup [.lst true 6 (l.map oC), oFr a, oFr b] ∧ ob' = [] ∧ l.length ≤ 12 ∧ (∀ x ∈ l, sizeC x ≤ 100000) ∧ a.stack.length ≤ 20 ∧ a.locals.length ≤ 20 ∧ b.stack.length ≤ 20 ∧ b.locals.length ≤ 20 ∧ (∀ t ∈ a.stack, t.c.length ≤ 9) ∧ (∀ t ∈ a.locals, t.c.length ≤ 9) ∧ (∀ t ∈ b.stack, t.c.length ≤ 9) ∧ (∀ t ∈ b.locals, t.c.length ≤ 9)) := by
  refine Ct_bodyE tok Tryz.func13 rfl 21 (by kernel_rfl) (by kernel_rfl) fun X hX => ?_
  refine jq [0, 3, 4] ?_
  refine W_rseqL [3, 4, 5] ?_
  refine WL_go 1 (jr) ?_
  refine WL_cE [] rfl (by simp) rfl (by simp; rfl) (by simp; rfl) (by apply ct_spec_l01Source <;> first | omega | assumption) cb_spec_l01Source (by simp) (by simp) ?_
  rintro _ _ ⟨s, rfl, rfl, hs⟩
  refine WL_le' (Le.of_eq (by simp; rfl)) ?_
  refine WL_fin (jr) ?_
  refine W_rseqL [3, 4, 5, 6] ?_
  refine WL_go 1 (jr) ?_
  refine WL_cE [2] rfl (by simp) rfl (by simp; rfl) (by simp; rfl) (by apply ct_spec_l01Src_l05World <;> first | omega | assumption) cb_spec_l01Src_l05World (by simp) (by simp) ?_
  rintro _ _ ⟨s1, l, rfl, rfl, hs1, hl, hli⟩
  refine WL_le' (Le.of_eq (by simp; rfl)) ?_
  refine WL_fin (jr) ?_
  refine W_rseqL [3, 4, 6, 7, 8] ?_
  refine WL_go 1 (jr) ?_
  refine WL_cE [2] rfl (by simp) rfl (by simp; rfl) (by simp; rfl) (by apply ct_spec_l01Src_l07Two <;> first | omega | assumption) cb_spec_l01Src_l07Two (by simp) (by simp) ?_
  rintro _ _ ⟨s2, ⟨a1, a2⟩, ⟨b1, b2⟩, rfl, rfl, hs2, h9⟩
  refine WL_le' (Le.of_eq (by simp; rfl)) ?_
  refine WL_fin (jr) ?_
  refine jL 5 [0, 1, 2, 3] [4] [2, 3, 4] ([8, 9]) hX (by simp; rfl) (jH (p:=fun X hX => jr) (k:=.nil)) jr ?_
  refine W_ret (DoneE.ret (Eq.trans (by simp; rfl) (by rfl)) ?_)
  exact ⟨l, ⟨a1, a2⟩, ⟨b1, b2⟩, rfl, rfl, hl, hli, h9⟩
end Go.Proofs
namespace Go.Proofs
open Go Go.Ev


theorem cb_spec_l07Frame : Callable Tryz.prog 49 := ⟨_, Tryz.func49, by kernel_rfl, by kernel_rfl⟩
theorem ct_spec_l07Frame {l : List Cls} {f : Frm} (hl : l.length ≤ 1099511627776) : Ct Tryz.prog 49 [.lst false 6 (l.map eC), eFr f] [] (.bool (frmR l f)) [] := by
  refine Ct_bodyS tok Tryz.func49 rfl 47 (by kernel_rfl) (by kernel_rfl) fun X hX => ?_
  refine jq [0, 3] ?_
  refine W_seq (W_rseqK [0, 3, 16] (jt 5 (k:=(jm 5 11 [0, 3, 16] (p:=fun b1_5 => by (try simp at b1_5); exact (jh hX (by simp [-atD_lt, -atL_lt]; rfl))) (q:=fun b1_5 => by (try simp at b1_5); exact (jh hX (by simp [-atD_lt, -atL_lt, b1_5]; rfl))) (k:=jf)))) ?_)
  refine jd (fun h1 => ?_) (fun h1 => ?_)
  · try simp at h1
    refine jq [4] ?_
    refine W_ret (je (by simp [h1]; rfl) ?_)
    unfold frmR; grind
  · try simp at h1
    refine W_skip (W_seq (jq [0, 3, 5] ?_))
    refine W_block (W_loopU (α := Nat) [0, 3, 5] (fun i => [(5, .int .i64 i)]) (fun i => []) (fun i => i ≤ f.stack.length ∧ (f.stack.drop i).all (knownT l) = f.stack.all (knownT l)) (fun i => f.stack.length - i) (0) (fun i => by simp; rfl) (by simp) ?_ ?_)
    · simp
    rintro i ⟨hi, hI⟩
    refine W_seq (W_rseqK [0, 3, 5, 21] (jh hX (by simp [h1]; rfl)) ?_)
    refine jd (fun h4 => ?_) (fun h4 => ?_)
    · try simp at h4
      rw [all_drop h4] at hI
      refine W_skip (W_seq (W_block (W_rseqK [0, 3, 5, 31] (js hX 6 (by simp [h1, h4]; rfl) (jc [] (c:=(by apply ct_spec_l06Known <;> first | assumption | omega | (simp at *; omega) | simp_all)) (a:=cb_spec_l06Known) (k:=jr))) ?_)))
      refine jd (fun h6 => ?_) (fun h6 => ?_)
      · try simp at h6
        refine jq [4] ?_
        refine W_ret (je (by simp [h1, h4]; rfl) ?_)
        unfold frmR; rw [← hI, h6]; simp
      · try simp at h6
        rw [h6, Bool.true_and] at hI
        refine W_skip (W_reg (jh hX (by simp; (try (simp (disch := omega) only [wrap_i64]; (try simp))); rfl)) ?_)
        refine round_end (i + 1) [0, 3, 5] (by simp [h1, h4]; try (simp (disch := omega) only [wrap_i64])) ?_ ?_
        · exact ⟨by omega, hI⟩
        · omega
    · try simp at h4
      rw [List.drop_eq_nil_of_le h4] at hI
      refine W_exit (W_seq (jq [0, 3, 6] ?_))
      refine W_block (W_loopU (α := Nat) [0, 3, 6] (fun i => [(6, .int .i64 i)]) (fun i => []) (fun i => i ≤ f.locals.length ∧ (f.locals.drop i).all (knownT l) = f.locals.all (knownT l)) (fun i => f.locals.length - i) (0) (fun i => by simp; rfl) (by simp) ?_ ?_)
      · simp
      rintro i ⟨hj, hJ⟩
      refine W_seq (W_rseqK [0, 3, 6, 36] (jh hX (by simp [h1, h4]; rfl)) ?_)
      refine jd (fun h9 => ?_) (fun h9 => ?_)
      · try simp at h9
        rw [all_drop h9] at hJ
        refine W_skip (W_seq (W_block (W_rseqK [0, 3, 6, 46] (js hX 6 (by simp [h1, h4, h9]; rfl) (jc [] (c:=(by apply ct_spec_l06Known <;> first | assumption | omega | (simp at *; omega) | simp_all)) (a:=cb_spec_l06Known) (k:=jr))) ?_)))
        refine jd (fun h11 => ?_) (fun h11 => ?_)
        · try simp at h11
          refine jq [4] ?_
          refine W_ret (je (by simp [h1, h4, h9]; rfl) ?_)
          unfold frmR; rw [← hJ, h11]; simp
        · try simp at h11
          rw [h11, Bool.true_and] at hJ
          refine W_skip (W_reg (jh hX (by simp; (try (simp (disch := omega) only [wrap_i64]; (try simp))); rfl)) ?_)
          refine round_end (i + 1) [0, 3, 6] (by simp [h1, h4, h9]; try (simp (disch := omega) only [wrap_i64])) ?_ ?_
          · exact ⟨by omega, hJ⟩
          · omega
      · try simp at h9
        rw [List.drop_eq_nil_of_le h9] at hJ
        refine W_exit (jq [4] ?_)
        refine W_ret (je (by simp [h1, h4, h9]; rfl) ?_)
        unfold frmR; rw [← hI, ← hJ]; grind
end Go.Proofs
namespace Go.Proofs
open Go Go.Ev


theorem cb_spec_FrameRight : Callable Tryz.prog 48 := ⟨_, Tryz.func48, by kernel_rfl, by kernel_rfl⟩
theorem ct_spec_FrameRight {l : List Cls} {f : Frm} (hl : sizeL l ≤ 1099511627776) : Ct Tryz.prog 48 [.lst false 6 (l.map eC), eFr f] [] (.bool (frmRightW l f)) [] := by
  have hll : l.length ≤ 1099511627776 := by unfold sizeL at hl; omega
  refine Ct_bodyS tok Tryz.func48 rfl 12 (by kernel_rfl) (by kernel_rfl) fun X hX => ?_
  refine jq [0, 3] ?_
  refine W_rseqK [4] (jt 1 (k:=(jc [] (c:=(by apply ct_spec_l05Right <;> first | assumption | omega | (simp at *; omega) | simp_all)) (a:=cb_spec_l05Right) (k:=(jt 1 (k:=(jm 4 7 [11] (p:=fun b1_3 => by (try simp at b1_3); exact (js hX 2 (by simp [-atD_lt, -atL_lt]; rfl) (Runs.call [] rfl (by simp) rfl (by simp [-atD_lt, -atL_lt]; rfl) (by simp; rfl) (by apply ct_spec_l07Frame <;> first | assumption | omega | (simp at *; omega) | simp_all) cb_spec_l07Frame (by simp) (by simp) (by simp [-atD_lt, -atL_lt]; rfl) (jh hX (by simp [-atD_lt, -atL_lt]; rfl))))) (q:=fun b1_3 => by (try simp at b1_3); exact (jh hX (by simp [-atD_lt, -atL_lt]; rfl))) (k:=jr)))))))) ?_
  refine W_ret (je0 ?_)
  simp only [frmRightW]
end Go.Proofs
namespace Go.Proofs
open Go Go.Ev


theorem cb_spec_l07Lubs : Callable Tryz.prog 98 := ⟨_, Tryz.func98, by kernel_rfl, by kernel_rfl⟩
theorem ct_spec_l07Lubs {l : List Cls} (hl : l.length ≤ 1099511627776) (hw : rightW l = true) {x y : List Typ} (hx : x.length ≤ 1048576) (e : x.length = y.length) : Ct Tryz.prog 98 [.lst false 6 (l.map eC), .lst false 3 (x.map eT), .lst false 3 (y.map eT)] [] (.lst true 3 ((lubLs (lubT l) x y).map eT)) [] := by
  refine Ct_bodyS tok Tryz.func98 rfl 30 (by kernel_rfl) (by kernel_rfl) fun X hX => ?_
  refine jq [0, 1, 2] ?_
  refine jq [0, 1, 2, 7] ?_
  refine W_seq (jq [0, 1, 2, 7, 8] ?_)
  refine W_block (W_loopU (α := List Typ × Nat) [0, 1, 2, 7, 8] (fun p => [(7, .arr 0 0 p.1.length), (8, .int .i64 p.2)]) (fun p => [(0, some (3, p.1.map eT))]) (fun p => p.2 ≤ x.length ∧ p.1.length = p.2 ∧ p.1 = lubLs (lubT l) (x.take p.2) (y.take p.2)) (fun p => x.length - p.2) (([], 0)) (fun p => by simp; rfl) (by simp) ?_ ?_)
  · simp [lubLs]
  rintro ⟨o, i⟩ ⟨hi, hn, hI⟩
  simp only at hi hn hI
  have w0 : o.length ≤ 1099511627776 := by omega
  have w1 : (o.length + 1) * 32 ≤ 140737488355328 := by omega
  have w2 : o.length ≤ 1099511627775 := by omega
  refine W_seq (W_rseqK [0, 1, 2, 7, 8, 13] (jh hX (by simp [w0, w1, w2]; rfl)) ?_)
  refine jd (fun h3 => ?_) (fun h3 => ?_)
  · try simp at h3
    have h3b : i < y.length := by omega
    refine W_skip (W_seq (W_block (W_held (n := 12) (A := [0, 1, 2, 3, 4, 5, 6, 7, 8, 9]) (B := [10, 11]) (L := []) hmo (by kernel_rfl) tok hX (by simp [w0, w1, w2, h3, h3b]; rfl) (jH (p:=fun X hX => (jc [] (c:=(by apply ct_spec_l06Lub <;> first | assumption | omega | (simp at *; omega) | simp_all)) (a:=cb_spec_l06Lub) (k:=jf))) (k:=(jH (p:=fun X hX => jr) (k:=.nil)))) (jh hX (by simp [w0, w1, w2, h3, h3b]; rfl)) ?_)))
    refine W_reg (jh hX (by simp; (try (simp (disch := omega) only [wrap_i64]; (try simp))); rfl)) ?_
    refine round_endT ((o ++ [lubT l x[i] y[i]], i + 1)) [0, 1, 2, 7, 8] 1 (by simp [hX]) (by simp) (by simp [w0, w1, w2, h3, h3b]; try (simp (disch := omega) only [wrap_i64])) ?_ ?_
    · exact ⟨by simp only; omega, by simp [hn], by simp only; rw [lubLs_snoc h3 e, hI]⟩
    · simp only; omega
  · try simp at h3
    refine W_exit (jq [6] ?_)
    refine W_ret (W_retR (by simp [w0, w1, w2, h3]; rfl) ?_ rfl)
    obtain rfl : i = x.length := by omega
    rw [List.take_of_length_le (Nat.le_refl _), List.take_of_length_le (by omega)] at hI
    rw [← hI]
    exact Wk.refl _
end Go.Proofs
namespace Go.Proofs
open Go Go.Ev


theorem cb_spec_l07Lub : Callable Tryz.prog 50 := ⟨_, Tryz.func50, by kernel_rfl, by kernel_rfl⟩
theorem ct_spec_l07Lub {l : List Cls} (hl : l.length ≤ 1099511627776) (hw : rightW l = true) {a b : Frm} (ha : a.stack.length ≤ 1048576) (hb : a.locals.length ≤ 1048576) (e : a.locals.length = b.locals.length) : Ct Tryz.prog 50 [.lst false 6 (l.map eC), eFr a, eFr b] [] (oFo (if a.stack.length = b.stack.length then ⟨frmLubT l a b, 0⟩ else zFo 11)) [] := by
  refine Ct_bodyS tok Tryz.func50 rfl 29 (by kernel_rfl) (by kernel_rfl) fun X hX => ?_
  refine jq [0, 4, 5, 6] ?_
  refine W_seq (jq [0, 4, 5, 6, 13] ?_)
  refine jd (fun h1 => ?_) (fun h1 => ?_)
  · try simp at h1
    refine jq [6] ?_
    refine W_ret (W_retR (by simp; rfl) ?_ rfl)
    rw [if_neg (by omega)]
    simp only [zFo]
    exact Wk.agg (.cons (Wk.nilSlice _ _) (.cons (Wk.nilSlice _ _) (.cons (Wk.refl _) .nil)))
  · try simp at h1
    have h1b : a.stack.length = b.stack.length := by omega
    refine W_skip (jL 11 [0, 1, 2, 3, 4, 6, 7, 8, 9, 10] [5] [6] ([0, 1]) hX (by simp; rfl) (jH (p:=fun X hX => (jc [] (c:=(by apply ct_spec_l07Lubs <;> first | assumption | omega | (simp at *; omega) | simp_all)) (a:=cb_spec_l07Lubs) (k:=jf))) (k:=.nil)) (jc [] (c:=(by apply ct_spec_l07Lubs <;> first | assumption | omega | (simp at *; omega) | simp_all)) (a:=cb_spec_l07Lubs) (k:=jr)) ?_)
    refine W_ret (W_retR (by simp; rfl) ?_ rfl)
    rw [if_pos (by omega)]
    exact Wk.refl _
end Go.Proofs
