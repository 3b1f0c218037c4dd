/- Part 9 of what the proofs lean on: what the functions of the program and of the reference compute. Conditions: none. -/
import Derived.Test.YtfannbjeleonkaaGreatK07
set_option linter.all false
set_option linter.unusedVariables false
set_option linter.unusedSimpArgs false
set_option maxHeartbeats 2000000
set_option maxRecDepth 100000
namespace Go.Proofs
open Go Go.Ev


theorem cb_spec_l05Access : Callable Tryz.prog 164 := ⟨_, Tryz.func164, by kernel_rfl, by kernel_rfl⟩
theorem ct_spec_l05Access {l : List Cls} {i : Nat} (hl : sizeL l ≤ 1099511627776) (hi : i < l.length) (hu : findFrom l[i].name l 0 = i) (hEn : ∀ j : Nat, j < l.length → Ends l (l.length + 1) j) : Ct Tryz.prog 164 [.lst false 6 (l.map eC), eC l[i]] [] (.bool (accOK l i)) [] := by
  have hll : l.length ≤ 1099511627776 := by unfold sizeL at hl; omega
  have hsz : ∀ {k : Nat} (h : k < l.length), sizeC l[k] ≤ 1099511627776 := fun h => Nat.le_trans (sizeL_at h) hl
  have hE0 : Ends l l.length (nxt l i) := by obtain ⟨g, h1, h2⟩ := Ends_nat (hEn i hi); rw [show l.length = g from by omega]; exact h2
  refine Ct_bodyS tok Tryz.func164 rfl 112 (by kernel_rfl) (by kernel_rfl) fun X hX => ?_
  refine jq [0, 3] ?_
  refine W_seq (W_rseqK [0, 3, 5] (jt 3 (k:=(jc [] (c:=(by apply ct_spec_l05Find <;> first | assumption | omega | exact hsz (by assumption) | (rw [atL_lt (by assumption)]; exact hsz (by assumption)) | (have := hsz hp; simp only [sizeC] at this; omega) | (have := hsz hq; simp only [sizeC] at this; omega))) (a:=cb_spec_l05Find) (k:=jr)))) ?_)
  refine W_block (W_loopU (α := Nat × Int) [0, 3, 5] (fun a => [(5, .int .i64 a.2)]) (fun a => []) (fun a => Ends l a.1 a.2 ∧ (-1 ≤ a.2 ∧ a.2 < l.length) ∧ (∀ u ∈ ups l a.1 a.2, u ∈ ups l (l.length + 1) i) ∧ (ups l a.1 a.2).all (fun u => (atL l u).methods.all (okPair l l[i] i)) = accOK l i) (fun a => a.1) ((l.length, nxt l i)) (fun a => by simp; rfl) (by simp [nxt_nat, atL_lt hi]) ?_ ?_)
  · exact ⟨hE0, @nxt_ge l i, fun u h => by rw [ups_nat]; exact List.mem_cons_of_mem _ h, by simp only [accOK, atL_lt hi]⟩
  rintro ⟨f, up⟩ ⟨hE, hup, hS, hI⟩
  simp only at hE hup hS hI
  refine W_seq (jq [0, 3, 5, 15] ?_)
  refine jd (fun h2 => ?_) (fun h2 => ?_)
  · try simp at h2
    obtain ⟨p, rfl⟩ : ∃ k : Nat, up = k := ⟨up.toNat, by omega⟩
    have hp : p < l.length := by omega
    obtain ⟨f, rfl, hE2⟩ := Ends_nat hE
    rw [ups_nat] at hI
    simp only [List.all_cons, atL_lt hp] at hI
    have hml : l[p].methods.length ≤ 1099511627776 := by have := hsz hp; simp only [sizeC] at this; omega
    refine W_skip (W_seq (W_block (jq [0, 3, 5, 6] ?_)))
    refine W_block (W_loopU (α := Nat) [0, 3, 5, 6] (fun j => [(6, .int .i64 j)]) (fun j => []) (fun j => j ≤ l[p].methods.length ∧ (l[p].methods.drop j).all (okPair l l[i] i) = l[p].methods.all (okPair l l[i] i)) (fun j => l[p].methods.length - j) (0) (fun j => by simp; rfl) (by simp) ?_ ?_)
    · simp
    rintro j ⟨hj, hJ⟩
    refine W_seq (W_rseqK [0, 3, 5, 6, 30] (jh hX (by simp [h2, hp]; rfl)) ?_)
    refine jd (fun h5 => ?_) (fun h5 => ?_)
    · try simp at h5
      rw [all_drop h5] at hJ
      refine W_skip (W_seq (W_block (W_rseqK [0, 3, 5, 6, 7] (jh hX (by simp [h2, hp, h5]; rfl)) ?_)))
      refine W_seq (W_rseqK [0, 3, 5, 6, 7, 43] (jh hX (by simp [h2, hp, h5]; rfl)) ?_)
      refine jd (fun h8 => ?_) (fun h8 => ?_)
      · try simp at h8
        have hq8 : okPair l l[i] i l[p].methods[j] = true := by simp [okPair, h8, init]
        have hJ2 := hJ
        rw [hq8, Bool.true_and] at hJ2
        refine W_exit (W_reg (jh hX (by simp; (try (simp (disch := omega) only [wrap_i64]; (try simp))); rfl)) ?_)
        refine round_endT (j + 1) [0, 3, 5, 6] 1 (by simp [hX]) (by simp) (by simp; try (simp (disch := omega) only [wrap_i64])) ?_ ?_
        · exact ⟨by omega, hJ2⟩
        · omega
      · try simp at h8
        refine W_skip (W_rseqK [0, 3, 5, 6, 7, 8] (js hX 5 (by simp [h2, hp, h5]; rfl) (jc [] (c:=(by apply ct_spec_l05Method <;> first | assumption | omega | exact hsz (by assumption) | (rw [atL_lt (by assumption)]; exact hsz (by assumption)) | (have := hsz hp; simp only [sizeC] at this; omega) | (have := hsz hq; simp only [sizeC] at this; omega))) (a:=cb_spec_l05Method) (k:=jr))) ?_)
        refine W_seq (jD [0, 3, 5, 6, 7, 66] (jS 3 (by simp; rfl) (jM 14 52 [0, 3, 5, 6, 7, 66] (p:=fun b10_3 => by (try simp at b10_3); (have hk8 := mthFrom_lt b10_3); exact (jS 3 (by simp [-atD_lt, -atL_lt, h2, hp, h5, b10_3, hk8, hi]; rfl) (jM 10 55 [0, 3, 5, 6, 7, 52, 65] (p:=fun b10_6 => by (try simp at b10_6); exact (jQ (by simp [-atD_lt, -atL_lt]; rfl))) (q:=fun b10_6 => by (try simp at b10_6); exact (jQ (by simp [-atD_lt, -atL_lt, h2, hp, h5, b10_3, hk8, hi]; rfl))) (k:=(jQ (by simp [-atD_lt, -atL_lt]; rfl)))))) (q:=fun b10_3 => by (try simp at b10_3); exact (jQ (by simp [-atD_lt, -atL_lt]; rfl))) (k:=(RunsQ.fin (by (try simp); rfl))))) ?_)
        refine jd (fun h10 => ?_) (fun h10 => ?_)
        · try simp at h10
          have hq10 : okPair l l[i] i l[p].methods[j] = false := by simp only [okPair, decide_eq_false (show ¬ l[p].methods[j].name = init from h8)]; simp; grind
          refine jq [4] ?_
          refine W_ret (je (by simp [h2, hp, h5, h10]; rfl) ?_)
          rw [← hI, ← hJ, hq10]; simp
        · try simp at h10
          have hq10 : okPair l l[i] i l[p].methods[j] = !(l[p].methods[j].abstr && !l[i].abstr && near l l[p].methods[j].name l[p].methods[j].desc (l.length + 1) i) := by simp only [okPair, decide_eq_false (show ¬ l[p].methods[j].name = init from h8)]; simp; grind
          refine W_skip (W_rseqK [0, 3, 5, 6, 7, 73] (js hX 3 (by simp [h2, hp, h5, h10]; rfl) (jm 4 69 [0, 3, 5, 6, 7, 73] (p:=fun b12_3 => by (try simp at b12_3); exact (jh hX (by simp [-atD_lt, -atL_lt, h2, hp, h5, h10]; rfl))) (q:=fun b12_3 => by (try simp at b12_3); exact (jh hX (by simp [-atD_lt, -atL_lt]; rfl))) (k:=jf))) ?_)
          refine jd (fun h12 => ?_) (fun h12 => ?_)
          · try simp at h12
            refine W_rseqK [0, 3, 5, 6, 7, 9] (js hX 3 (by simp [h2, hp, h5, h10]; rfl) (jc [] (c:=(by apply ct_spec_l05Find <;> first | assumption | omega | exact hsz (by assumption) | (rw [atL_lt (by assumption)]; exact hsz (by assumption)) | (have := hsz hp; simp only [sizeC] at this; omega) | (have := hsz hq; simp only [sizeC] at this; omega))) (a:=cb_spec_l05Find) (k:=jr))) ?_
            refine W_seq (W_block (W_loopU (α := Nat × Int) [0, 3, 5, 6, 7, 9] (fun a => [(9, .int .i64 a.2)]) (fun a => []) (fun a => Ends l a.1 a.2 ∧ (0 ≤ a.2 ∧ a.2 < l.length) ∧ near l l[p].methods[j].name l[p].methods[j].desc a.1 a.2 = near l l[p].methods[j].name l[p].methods[j].desc (l.length + 1) i ∧ ∃ u ∈ ups l a.1 a.2, 0 ≤ mthFrom l[p].methods[j].name l[p].methods[j].desc (atL l u).methods 0) (fun a => a.1) ((l.length + 1, (i : Int))) (fun a => by simp; rfl) (by simp [hu]) ?_ ?_))
            · exact ⟨hEn i hi, by omega, rfl, p, hS p (by rw [ups_nat]; simp), by rw [atL_lt hp]; exact mthFrom_has h5⟩
            rintro ⟨g, q⟩ ⟨gE, gq, gN, gU⟩
            simp only at gE gq gN gU
            obtain ⟨q, rfl⟩ : ∃ k : Nat, q = k := ⟨q.toNat, by omega⟩
            have hq : q < l.length := by omega
            obtain ⟨g, rfl, gE2⟩ := Ends_nat gE
            rw [near_nat, atL_lt hq] at gN
            rw [ups_nat] at gU
            refine W_seq (jD [0, 3, 5, 6, 7, 9, 87] (jS 8 (by simp [h2, hp, h5, h10, hq]; rfl) (jC (c:=by apply ct_spec_l05Method <;> first | assumption | omega | exact hsz (by assumption) | (rw [atL_lt (by assumption)]; exact hsz (by assumption)) | (have := hsz hp; simp only [sizeC] at this; omega) | (have := hsz hq; simp only [sizeC] at this; omega)) (a:=cb_spec_l05Method) (k:=(jQ (by simp; rfl))))) ?_)
            refine jd (fun h14 => ?_) (fun h14 => ?_)
            · try simp at h14
              rw [if_neg (by (try simp only [atL_lt hq] at h14); omega)] at gN
              have gU2 : ∃ u ∈ ups l g (nxt l q), 0 ≤ mthFrom l[p].methods[j].name l[p].methods[j].desc (atL l u).methods 0 := by
                obtain ⟨u, h1, h2⟩ := gU
                rcases List.mem_cons.1 h1 with rfl | h1
                · rw [atL_lt hq] at h2; (try simp only [atL_lt hq] at h14); omega
                · exact ⟨u, h1, h2⟩
              have gP : 0 ≤ nxt l q := by
                obtain ⟨u, h1, _⟩ := gU2
                rcases Int.lt_or_le (nxt l q) 0 with h | h
                · cases g <;> simp [ups, h] at h1
                · exact h
              refine W_skip (W_block (W_reg (js hX 6 (by simp [h2, hp, h5, h10, hq, h14]; rfl) (jc [] (c:=(by apply ct_spec_l05Find <;> first | assumption | omega | exact hsz (by assumption) | (rw [atL_lt (by assumption)]; exact hsz (by assumption)) | (have := hsz hp; simp only [sizeC] at this; omega) | (have := hsz hq; simp only [sizeC] at this; omega))) (a:=cb_spec_l05Find) (k:=jr))) ?_))
              refine round_end ((g, nxt l q)) [0, 3, 5, 6, 7, 9] (by simp [nxt_nat, hq]) ?_ ?_
              · exact ⟨gE2, ⟨gP, (@nxt_ge l q).2⟩, gN, gU2⟩
              · simp
            · try simp at h14
              have h14b := mthFrom_lt h14
              rw [if_pos h14, atL_lt h14b] at gN
              refine W_exit (jD [0, 3, 5, 6, 111] (jS 13 (by simp [h2, hp, h5, h10, hq, h14, hq, h14b, h14]; rfl) (jC (c:=by apply ct_spec_l05Method <;> first | assumption | omega | exact hsz (by assumption) | (rw [atL_lt (by assumption)]; exact hsz (by assumption)) | (have := hsz hp; simp only [sizeC] at this; omega) | (have := hsz hq; simp only [sizeC] at this; omega)) (a:=cb_spec_l05Method) (k:=(jQ (by simp [h2, hp, h5, h10, hq, h14, hq, h14b, h14]; rfl))))) ?_)
              refine jd (fun h16 => ?_) (fun h16 => ?_)
              · try simp at h16
                have hq16 : okPair l l[i] i l[p].methods[j] = false := by rw [hq10, ← gN, h16]; grind
                refine jq [4] ?_
                refine W_ret (je (by simp [h2, hp, h5, h10, hq, h14, hq, h14b, h14]; rfl) ?_)
                rw [← hI, ← hJ, hq16]; simp
              · try simp at h16
                have hq16 : okPair l l[i] i l[p].methods[j] = true := by rw [hq10, ← gN, h16]; simp
                have hJ2 := hJ
                rw [hq16, Bool.true_and] at hJ2
                refine W_skip (W_reg (jh hX (by simp; (try (simp (disch := omega) only [wrap_i64]; (try simp))); rfl)) ?_)
                refine round_endT (j + 1) [0, 3, 5, 6] 1 (by simp [hX]) (by simp) (by simp; try (simp (disch := omega) only [wrap_i64])) ?_ ?_
                · exact ⟨by omega, hJ2⟩
                · omega
          · try simp at h12
            have hJ2 := hJ
            rw [hq10, show (l[p].methods[j].abstr && !l[i].abstr) = false from by grind] at hJ2
            simp only [Bool.false_and, Bool.not_false, Bool.true_and] at hJ2
            refine W_skip (W_reg (jh hX (by simp; (try (simp (disch := omega) only [wrap_i64]; (try simp))); rfl)) ?_)
            refine round_endT (j + 1) [0, 3, 5, 6] 1 (by simp [hX]) (by simp) (by simp; try (simp (disch := omega) only [wrap_i64])) ?_ ?_
            · exact ⟨by omega, hJ2⟩
            · omega
    · try simp at h5
      rw [List.drop_eq_nil_of_le h5] at hJ
      simp only [List.all_nil] at hJ
      rw [← hJ, Bool.true_and] at hI
      refine W_exit (W_reg (js hX 6 (by simp [h2, hp, h5]; rfl) (jc [] (c:=(by apply ct_spec_l05Find <;> first | assumption | omega | exact hsz (by assumption) | (rw [atL_lt (by assumption)]; exact hsz (by assumption)) | (have := hsz hp; simp only [sizeC] at this; omega) | (have := hsz hq; simp only [sizeC] at this; omega))) (a:=cb_spec_l05Find) (k:=jr))) ?_)
      refine round_end ((f, nxt l p)) [0, 3, 5] (by simp [nxt_nat, hp]) ?_ ?_
      · exact ⟨hE2, @nxt_ge l p, fun u h => hS u (by rw [ups_nat]; exact List.mem_cons_of_mem _ h), hI⟩
      · simp
  · try simp at h2
    have hnil : ups l f up = [] := by cases f <;> simp [ups, h2]
    rw [hnil] at hI
    refine W_exit (jq [4] ?_)
    refine W_ret (je (by simp [h2]; rfl) ?_)
    simp [← hI]
end Go.Proofs
namespace Go.Proofs
open Go Go.Ev


theorem cb_spec_WorldCheck : Callable Tryz.prog 110 := ⟨_, Tryz.func110, by kernel_rfl, by kernel_rfl⟩
theorem ct_spec_WorldCheck {l : List Cls} (hl : sizeL l ≤ 1099511627776) : Ct Tryz.prog 110 [.lst false 6 (l.map eC)] [] (.agg [.int .i64 (worldCheck l).1, .int .i64 (worldCheck l).2]) [] := by
  have hll : l.length ≤ 1099511627776 := by unfold sizeL at hl; omega
  have hsz : ∀ {k : Nat} (h : k < l.length), sizeC l[k] ≤ 1099511627776 := fun h => Nat.le_trans (sizeL_at h) hl
  refine Ct_bodyS tok Tryz.func110 rfl 162 (by kernel_rfl) (by kernel_rfl) fun X hX => ?_
  refine jq [0, 2] ?_
  refine W_seq (jq [0, 2, 13] ?_)
  refine jd (fun h1 => ?_) (fun h1 => ?_)
  · try simp at h1
    refine W_rseqK [2] (jh hX (by simp [h1]; rfl)) ?_
    refine W_ret (je (by simp [h1]; rfl) ?_)
    simp [worldCheck, h1]
  · try simp at h1
    refine W_skip (W_seq (W_rseqK [0, 2, 17] (jh hX (by simp [h1]; rfl)) ?_))
    refine jd (fun h3 => ?_) (fun h3 => ?_)
    · try simp at h3
      refine W_rseqK [2] (jh hX (by simp [h1, h3]; rfl)) ?_
      refine W_ret (je (by simp [h1, h3]; rfl) ?_)
      have h1b : ¬ 400 < l.length := by omega
      simp [worldCheck, h1b, h3]
    · try simp at h3
      rw [show worldCheck l = checkAll l from by unfold worldCheck; rw [if_neg (by omega), if_neg (by omega)]]
      refine W_skip (W_seq (jq [0, 2, 3] ?_))
      refine W_block (W_loopU (α := Nat) [0, 2, 3] (fun i => [(3, .int .i64 i)]) (fun i => []) (fun i => i ≤ l.length ∧ firstBad (pass1 l) (l.length - i) i = firstBad (pass1 l) l.length 0) (fun i => l.length - i) (0) (fun i => by simp; rfl) (by simp) ?_ ?_)
      · simp
      rintro i ⟨hi1, hI1⟩
      refine W_seq (W_rseqK [0, 2, 3, 22] (jh hX (by simp [h1, h3]; rfl)) ?_)
      refine jd (fun h6 => ?_) (fun h6 => ?_)
      · try simp at h6
        rw [show l.length - i = (l.length - (i + 1)) + 1 from by omega] at hI1
        simp only [firstBad] at hI1
        refine W_skip (W_seq (W_block (W_seq (W_rseqK [0, 2, 3, 30] (js hX 4 (by simp [h1, h3, h6]; rfl) (jc [] (c:=(by apply ct_spec_ClassRight <;> first | assumption | omega | exact hsz (by assumption) | (rw [atL_lt (by assumption)]; exact hsz (by assumption)) | (have := hsz h22; simp only [sizeC] at this; omega) | (have := hsz h13; simp only [sizeC] at this; omega) | (have := hsz h6; simp only [sizeC] at this; (try simp only [atL_lt h6]); omega)| (have := hsz h26; simp only [sizeC] at this; (try simp only [atL_lt h26]); omega) | (have := hsz h30q; simp only [sizeC] at this; omega))) (a:=cb_spec_ClassRight) (k:=jr))) ?_))))
        refine jd (fun h8 => ?_) (fun h8 => ?_)
        · try simp at h8
          refine W_rseqK [2] (jh hX (by simp [h1, h3, h6]; rfl)) ?_
          refine W_ret (je (by simp [h1, h3, h6]; rfl) ?_)
          have hp : pass1 l i = 1 := by simp [pass1, atL_lt h6, h8]
          rw [if_neg (by rw [hp]; simp), hp] at hI1
          simp [checkAll, ← hI1]
        · try simp at h8
          refine W_skip (W_rseqK [0, 2, 3, 50] (js hX 5 (by simp [h1, h3, h6]; rfl) (jc [] (c:=(by apply ct_spec_l05Built <;> first | assumption | omega | exact hsz (by assumption) | (rw [atL_lt (by assumption)]; exact hsz (by assumption)) | (have := hsz h22; simp only [sizeC] at this; omega) | (have := hsz h13; simp only [sizeC] at this; omega) | (have := hsz h6; simp only [sizeC] at this; (try simp only [atL_lt h6]); omega)| (have := hsz h26; simp only [sizeC] at this; (try simp only [atL_lt h26]); omega) | (have := hsz h30q; simp only [sizeC] at this; omega))) (a:=cb_spec_l05Built) (k:=(jt 2 (k:=(jm 10 40 [0, 2, 3, 50] (p:=fun b10_8 => by (try simp at b10_8); exact (jh hX (by simp [-atD_lt, -atL_lt]; rfl))) (q:=fun b10_8 => by (try simp at b10_8); exact (js hX 6 (by simp [-atD_lt, -atL_lt, h1, h3, h6, b10_8]; rfl) (Runs.call [] rfl (by simp) rfl (by simp [-atD_lt, -atL_lt]; rfl) (by simp; rfl) (by apply ct_spec_l05Find <;> first | assumption | omega | exact hsz (by assumption) | (rw [atL_lt (by assumption)]; exact hsz (by assumption)) | (have := hsz h22; simp only [sizeC] at this; omega) | (have := hsz h13; simp only [sizeC] at this; omega) | (have := hsz h6; simp only [sizeC] at this; (try simp only [atL_lt h6]); omega)| (have := hsz h26; simp only [sizeC] at this; (try simp only [atL_lt h26]); omega) | (have := hsz h30q; simp only [sizeC] at this; omega)) cb_spec_l05Find (by simp) (by simp) (by simp [-atD_lt, -atL_lt]; rfl) (jh hX (by simp [-atD_lt, -atL_lt]; rfl))))) (k:=jf))))))) ?_)
          refine jd (fun h10 => ?_) (fun h10 => ?_)
          · try simp at h10
            refine W_rseqK [2] (jh hX (by simp [h1, h3, h6, h10]; rfl)) ?_
            refine W_ret (je (by simp [h1, h3, h6, h10]; rfl) ?_)
            have hp : pass1 l i = 7 := by simp only [pass1, atL_lt h6, h8, if_true]; rw [if_pos (by simpa [atL_lt h6] using h10)]
            rw [if_neg (by rw [hp]; simp), hp] at hI1
            simp [checkAll, ← hI1]
          · try simp at h10
            have hp : pass1 l i = 0 := by simp only [pass1, atL_lt h6, h8, if_true]; rw [if_neg (by simp [atL_lt h6] at h10 ⊢; omega)]
            rw [if_pos hp] at hI1
            have hJ := hI1
            refine W_skip (W_reg (jh hX (by simp; (try (simp (disch := omega) only [wrap_i64]; (try simp))); rfl)) ?_)
            refine round_end (i + 1) [0, 2, 3] (by simp [h1, h3, h6, h10]; try (simp (disch := omega) only [wrap_i64])) ?_ ?_
            · exact ⟨by omega, hJ⟩
            · omega
      · try simp at h6
        rw [show l.length - i = 0 from by omega] at hI1
        simp only [firstBad] at hI1
        refine W_exit (W_seq (jq [0, 2, 4] ?_))
        refine W_block (W_loopU (α := Nat) [0, 2, 4] (fun i => [(4, .int .i64 i)]) (fun i => []) (fun i => i ≤ l.length ∧ firstBad (pass2 l) (l.length - i) i = firstBad (pass2 l) l.length 0) (fun i => l.length - i) (0) (fun i => by simp; rfl) (by simp) ?_ ?_)
        · simp
        rintro i ⟨hi2, hI2⟩
        refine W_seq (W_rseqK [0, 2, 4, 56] (jh hX (by simp [h1, h3, h6]; rfl)) ?_)
        refine jd (fun h13 => ?_) (fun h13 => ?_)
        · try simp at h13
          rw [show l.length - i = (l.length - (i + 1)) + 1 from by omega] at hI2
          simp only [firstBad] at hI2
          refine W_skip (W_seq (W_block (W_rseqK [0, 2, 4, 5] (js hX 6 (by simp [h1, h3, h6, h13]; rfl) (jc [] (c:=(by apply ct_spec_l05Find <;> first | assumption | omega | exact hsz (by assumption) | (rw [atL_lt (by assumption)]; exact hsz (by assumption)) | (have := hsz h22; simp only [sizeC] at this; omega) | (have := hsz h13; simp only [sizeC] at this; omega) | (have := hsz h6; simp only [sizeC] at this; (try simp only [atL_lt h6]); omega)| (have := hsz h26; simp only [sizeC] at this; (try simp only [atL_lt h26]); omega) | (have := hsz h30q; simp only [sizeC] at this; omega))) (a:=cb_spec_l05Find) (k:=jr))) ?_)))
          refine W_seq (W_rseqK [0, 2, 4, 5, 73] (js hX 6 (by simp [h1, h3, h6, h13]; rfl) (jc [] (c:=(by apply ct_spec_l05Known <;> first | assumption | omega | exact hsz (by assumption) | (rw [atL_lt (by assumption)]; exact hsz (by assumption)) | (have := hsz h22; simp only [sizeC] at this; omega) | (have := hsz h13; simp only [sizeC] at this; omega) | (have := hsz h6; simp only [sizeC] at this; (try simp only [atL_lt h6]); omega)| (have := hsz h26; simp only [sizeC] at this; (try simp only [atL_lt h26]); omega) | (have := hsz h30q; simp only [sizeC] at this; omega))) (a:=cb_spec_l05Known) (k:=jr))) ?_)
          refine jd (fun h16 => ?_) (fun h16 => ?_)
          · try simp at h16
            refine W_rseqK [2] (jh hX (by simp [h1, h3, h6, h13]; rfl)) ?_
            refine W_ret (je (by simp [h1, h3, h6, h13]; rfl) ?_)
            have hp : pass2 l i = 8 := by simp [pass2, atL_lt h13, h16]
            rw [if_neg (by rw [hp]; simp), hp] at hI2
            simp [checkAll, ← hI1, ← hI2]
          · try simp at h16
            refine W_skip (W_rseqK [0, 2, 4, 93] (js hX 5 (by simp [h1, h3, h6, h13]; rfl) (jc [] (c:=(by apply ct_spec_l05Built <;> first | assumption | omega | exact hsz (by assumption) | (rw [atL_lt (by assumption)]; exact hsz (by assumption)) | (have := hsz h22; simp only [sizeC] at this; omega) | (have := hsz h13; simp only [sizeC] at this; omega) | (have := hsz h6; simp only [sizeC] at this; (try simp only [atL_lt h6]); omega)| (have := hsz h26; simp only [sizeC] at this; (try simp only [atL_lt h26]); omega) | (have := hsz h30q; simp only [sizeC] at this; omega))) (a:=cb_spec_l05Built) (k:=(jt 2 (k:=(jm 10 83 [0, 2, 4, 93] (p:=fun b18_8 => by (try simp at b18_8); exact (jh hX (by simp [-atD_lt, -atL_lt]; rfl))) (q:=fun b18_8 => by (try simp at b18_8); exact (js hX 3 (by simp [-atD_lt, -atL_lt]; rfl) (jm 6 86 [0, 2, 4, 83, 92] (p:=fun b18_11 => by (try simp at b18_11); (have hfl := findFrom_lt (l := l) b18_11); exact (jh hX (by simp [-atD_lt, -atL_lt, h1, h3, h6, h13, b18_8, b18_11, hfl, b18_11]; rfl))) (q:=fun b18_11 => by (try simp at b18_11); exact (jh hX (by simp [-atD_lt, -atL_lt]; rfl))) (k:=(jh hX (by simp [-atD_lt, -atL_lt]; rfl)))))) (k:=jf))))))) ?_)
            refine jd (fun h18 => ?_) (fun h18 => ?_)
            · try simp at h18
              refine W_rseqK [2] (jh hX (by simp [h1, h3, h6, h13, h18]; rfl)) ?_
              refine W_ret (je (by simp [h1, h3, h6, h13, h18]; rfl) ?_)
              have hp : pass2 l i = 14 := by simp only [pass2, atL_lt h13, h16, if_true]; rw [if_pos (by simpa using h18)]
              rw [if_neg (by rw [hp]; simp), hp] at hI2
              simp [checkAll, ← hI1, ← hI2]
            · try simp at h18
              have hp : pass2 l i = 0 := by simp only [pass2, atL_lt h13, h16, if_true]; rw [if_neg (by simp at h18 ⊢; exact h18)]
              rw [if_pos hp] at hI2
              have hJ := hI2
              refine W_skip (W_reg (jh hX (by simp; (try (simp (disch := omega) only [wrap_i64]; (try simp))); rfl)) ?_)
              refine round_end (i + 1) [0, 2, 4] (by simp [h1, h3, h6, h13, h18]; try (simp (disch := omega) only [wrap_i64])) ?_ ?_
              · exact ⟨by omega, hJ⟩
              · omega
        · try simp at h13
          rw [show l.length - i = 0 from by omega] at hI2
          simp only [firstBad] at hI2
          refine W_exit (W_seq (jq [0, 2, 6] ?_))
          refine W_block (W_loopU (α := Nat) [0, 2, 6] (fun i => [(6, .int .i64 i)]) (fun i => []) (fun i => i ≤ l.length ∧ firstBad (pass3 l) (l.length - i) i = firstBad (pass3 l) l.length 0) (fun i => l.length - i) (0) (fun i => by simp; rfl) (by simp) ?_ ?_)
          · simp
          rintro i ⟨hi3, hI3⟩
          refine W_seq (W_rseqK [0, 2, 6, 99] (jh hX (by simp [h1, h3, h6, h13]; rfl)) ?_)
          refine jd (fun h21 => ?_) (fun h21 => ?_)
          · try simp at h21
            rw [show l.length - i = (l.length - (i + 1)) + 1 from by omega] at hI3
            simp only [firstBad] at hI3
            refine W_skip (W_seq (W_block (W_rseqK [0, 2, 6, 108] (js hX 5 (by simp [h1, h3, h6, h13, h21]; rfl) (jc [] (c:=(by apply ct_spec_l05Types <;> first | assumption | omega | exact hsz (by assumption) | (rw [atL_lt (by assumption)]; exact hsz (by assumption)) | (have := hsz h22; simp only [sizeC] at this; omega) | (have := hsz h13; simp only [sizeC] at this; omega) | (have := hsz h6; simp only [sizeC] at this; (try simp only [atL_lt h6]); omega)| (have := hsz h26; simp only [sizeC] at this; (try simp only [atL_lt h26]); omega) | (have := hsz h30q; simp only [sizeC] at this; omega))) (a:=cb_spec_l05Types) (k:=jr))) ?_)))
            refine jd (fun h23 => ?_) (fun h23 => ?_)
            · try simp at h23
              refine W_rseqK [2] (jh hX (by simp [h1, h3, h6, h13, h21]; rfl)) ?_
              refine W_ret (je (by simp [h1, h3, h6, h13, h21]; rfl) ?_)
              have hp : pass3 l i = 6 := by simp [pass3, atL_lt h21, h23]
              rw [if_neg (by rw [hp]; simp), hp] at hI3
              simp [checkAll, ← hI1, ← hI2, ← hI3]
            · try simp at h23
              have hp : pass3 l i = 0 := by simp [pass3, atL_lt h21, h23]
              rw [if_pos hp] at hI3
              have hJ := hI3
              refine W_skip (W_reg (jh hX (by simp; (try (simp (disch := omega) only [wrap_i64]; (try simp))); rfl)) ?_)
              refine round_end (i + 1) [0, 2, 6] (by simp [h1, h3, h6, h13, h21]; try (simp (disch := omega) only [wrap_i64])) ?_ ?_
              · exact ⟨by omega, hJ⟩
              · omega
          · try simp at h21
            rw [show l.length - i = 0 from by omega] at hI3
            simp only [firstBad] at hI3
            refine W_exit (W_seq (jq [0, 2, 7] ?_))
            refine W_block (W_loopU (α := Nat) [0, 2, 7] (fun i => [(7, .int .i64 i)]) (fun i => []) (fun i => i ≤ l.length ∧ firstBad (pass4 l) (l.length - i) i = firstBad (pass4 l) l.length 0) (fun i => l.length - i) (0) (fun i => by simp; rfl) (by simp) ?_ ?_)
            · simp
            rintro i ⟨hi4, hI4⟩
            refine W_seq (W_rseqK [0, 2, 7, 114] (jh hX (by simp [h1, h3, h6, h13, h21]; rfl)) ?_)
            refine jd (fun h26 => ?_) (fun h26 => ?_)
            · try simp at h26
              rw [show l.length - i = (l.length - (i + 1)) + 1 from by omega] at hI4
              simp only [firstBad] at hI4
              refine W_skip (W_seq (W_block (W_rseqK [0, 2, 7, 8] (js hX 6 (by simp [h1, h3, h6, h13, h21, h26]; rfl) (jc [] (c:=(by apply ct_spec_l05Find <;> first | assumption | omega | exact hsz (by assumption) | (rw [atL_lt (by assumption)]; exact hsz (by assumption)) | (have := hsz h22; simp only [sizeC] at this; omega) | (have := hsz h13; simp only [sizeC] at this; omega) | (have := hsz h6; simp only [sizeC] at this; (try simp only [atL_lt h6]); omega)| (have := hsz h26; simp only [sizeC] at this; (try simp only [atL_lt h26]); omega) | (have := hsz h30q; simp only [sizeC] at this; omega))) (a:=cb_spec_l05Find) (k:=jr))) ?_)))
              refine jq [0, 2, 7, 8, 9] ?_
              refine W_block (W_loopU (α := Nat × Int) [0, 2, 7, 8, 9] (fun a => [(8, .int .i64 a.2), (9, .int .i64 a.1)]) (fun a => []) (fun a => a.1 ≤ l.length + 1 ∧ (-1 ≤ a.2 ∧ a.2 < l.length) ∧ cycF l i (l.length + 1 - a.1) a.2 = cyc l i) (fun a => l.length + 1 - a.1) ((0, nxt l i)) (fun a => by simp; rfl) (by simp [nxt_nat, atL_lt h26]) ?_ ?_)
              · exact ⟨by simp, @nxt_ge l i, rfl⟩
              rintro ⟨s, up⟩ ⟨hs, hup, hC⟩
              simp only at hs hup hC
              refine W_seq (W_rseqK [0, 2, 7, 8, 9, 131] (js hX 5 (by simp [h1, h3, h6, h13, h21, h26]; rfl) (jm 3 128 [0, 2, 7, 8, 9, 131] (p:=fun b30_5 => by (try simp at b30_5); exact (jh hX (by simp [-atD_lt, -atL_lt]; rfl))) (q:=fun b30_5 => by (try simp at b30_5); exact (jh hX (by simp [-atD_lt, -atL_lt]; rfl))) (k:=jf))) ?_)
              refine jd (fun h30 => ?_) (fun h30 => ?_)
              · try simp at h30
                obtain ⟨p, rfl⟩ : ∃ k : Nat, up = k := ⟨up.toNat, by omega⟩
                have h30q : p < l.length := by omega
                rw [show l.length + 1 - s = (l.length + 1 - (s + 1)) + 1 from by omega] at hC
                simp only [cycF] at hC
                rw [if_neg (by omega)] at hC
                refine W_skip (W_seq (W_block (W_seq (jq [0, 2, 7, 8, 9, 136] ?_))))
                refine jd (fun h32 => ?_) (fun h32 => ?_)
                · try simp at h32
                  refine W_rseqK [2] (jh hX (by simp [h1, h3, h6, h13, h21, h26, h30, h30q]; rfl)) ?_
                  refine W_ret (je (by simp [h1, h3, h6, h13, h21, h26, h30, h30q]; rfl) ?_)
                  rw [if_pos (by simpa using h32)] at hC
                  have hp : pass4 l i = 9 := by simp [pass4, ← hC]
                  rw [if_neg (by rw [hp]; simp), hp] at hI4
                  simp [checkAll, ← hI1, ← hI2, ← hI3, ← hI4]
                · try simp at h32
                  rw [if_neg (by simpa using h32)] at hC
                  refine W_skip (W_reg (js hX 6 (by simp [h1, h3, h6, h13, h21, h26, h30, h30q]; rfl) (jc [] (c:=(by apply ct_spec_l05Find <;> first | assumption | omega | exact hsz (by assumption) | (rw [atL_lt (by assumption)]; exact hsz (by assumption)) | (have := hsz h22; simp only [sizeC] at this; omega) | (have := hsz h13; simp only [sizeC] at this; omega) | (have := hsz h6; simp only [sizeC] at this; (try simp only [atL_lt h6]); omega)| (have := hsz h26; simp only [sizeC] at this; (try simp only [atL_lt h26]); omega) | (have := hsz h30q; simp only [sizeC] at this; omega))) (a:=cb_spec_l05Find) (k:=jr))) ?_)
                  refine W_reg (jh hX (by simp; (try (simp (disch := omega) only [wrap_i64]; (try simp))); rfl)) ?_
                  refine round_end ((s + 1, nxt l p)) [0, 2, 7, 8, 9] (by simp [nxt_nat, h30q]; (try (simp (disch := omega) only [wrap_i64]))) ?_ ?_
                  · exact ⟨by omega, @nxt_ge l p, hC⟩
                  · simp; omega
              · try simp at h30
                have hcy : cyc l i = false := by
                  rw [← hC]
                  rcases Nat.lt_or_ge s (l.length + 1) with h | h
                  · rw [show l.length + 1 - s = (l.length - s) + 1 from by omega, cycF, if_pos (by omega)]
                  · rw [show l.length + 1 - s = 0 from by omega, cycF]
                have hp : pass4 l i = 0 := by simp [pass4, hcy]
                rw [if_pos hp] at hI4
                have hJ := hI4
                refine W_exit (W_reg (jh hX (by simp; (try (simp (disch := omega) only [wrap_i64]; (try simp))); rfl)) ?_)
                refine round_end (i + 1) [0, 2, 7] (by simp [h1, h3, h6, h13, h21, h26, h30]; try (simp (disch := omega) only [wrap_i64])) ?_ ?_
                · exact ⟨by omega, hJ⟩
                · omega
            · try simp at h26
              rw [show l.length - i = 0 from by omega] at hI4
              simp only [firstBad] at hI4
              have hu : ∀ {j : Nat} (h : j < l.length), findFrom l[j].name l 0 = j := fun h => uniq_of_pass1 h (firstBad_none hI1.symm _ (Nat.zero_le _) (by omega))
              have hEn : ∀ j : Nat, j < l.length → Ends l (l.length + 1) j := fun j h => ends_of_noCyc (fun k hk => by have := firstBad_none hI4.symm k (Nat.zero_le _) (by omega); simp only [pass4] at this; split at this <;> simp_all) h
              refine W_exit (W_seq (jq [0, 2, 10] ?_))
              refine W_block (W_loopU (α := Nat) [0, 2, 10] (fun i => [(10, .int .i64 i)]) (fun i => []) (fun i => i ≤ l.length ∧ firstBad (pass5 l) (l.length - i) i = firstBad (pass5 l) l.length 0) (fun i => l.length - i) (0) (fun i => by simp; rfl) (by simp) ?_ ?_)
              · simp
              rintro i ⟨hi5, hI5⟩
              refine W_seq (W_rseqK [0, 2, 10, 149] (jh hX (by simp [h1, h3, h6, h13, h21, h26]; rfl)) ?_)
              refine jd (fun h36 => ?_) (fun h36 => ?_)
              · try simp at h36
                rw [show l.length - i = (l.length - (i + 1)) + 1 from by omega] at hI5
                simp only [firstBad] at hI5
                have hu36 := hu h36
                refine W_skip (W_seq (W_block (W_rseqK [0, 2, 10, 158] (js hX 5 (by simp [h1, h3, h6, h13, h21, h26, h36]; rfl) (jc [] (c:=(by apply ct_spec_l05Access <;> first | assumption | omega | exact hsz (by assumption) | (rw [atL_lt (by assumption)]; exact hsz (by assumption)) | (have := hsz h22; simp only [sizeC] at this; omega) | (have := hsz h13; simp only [sizeC] at this; omega) | (have := hsz h6; simp only [sizeC] at this; (try simp only [atL_lt h6]); omega)| (have := hsz h26; simp only [sizeC] at this; (try simp only [atL_lt h26]); omega) | (have := hsz h30q; simp only [sizeC] at this; omega))) (a:=cb_spec_l05Access) (k:=jr))) ?_)))
                refine jd (fun h38 => ?_) (fun h38 => ?_)
                · try simp at h38
                  refine W_rseqK [2] (jh hX (by simp [h1, h3, h6, h13, h21, h26, h36]; rfl)) ?_
                  refine W_ret (je (by simp [h1, h3, h6, h13, h21, h26, h36]; rfl) ?_)
                  have hp : pass5 l i = 14 := by simp [pass5, h38]
                  rw [if_neg (by rw [hp]; simp), hp] at hI5
                  simp [checkAll, ← hI1, ← hI2, ← hI3, ← hI4, ← hI5]
                · try simp at h38
                  have hp : pass5 l i = 0 := by simp [pass5, h38]
                  rw [if_pos hp] at hI5
                  have hJ := hI5
                  refine W_skip (W_reg (jh hX (by simp; (try (simp (disch := omega) only [wrap_i64]; (try simp))); rfl)) ?_)
                  refine round_end (i + 1) [0, 2, 10] (by simp [h1, h3, h6, h13, h21, h26, h36]; try (simp (disch := omega) only [wrap_i64])) ?_ ?_
                  · exact ⟨by omega, hJ⟩
                  · omega
              · try simp at h36
                rw [show l.length - i = 0 from by omega] at hI5
                simp only [firstBad] at hI5
                refine W_exit (W_rseqK [2] (jh hX (by simp [h1, h3, h6, h13, h21, h26, h36]; rfl)) ?_)
                refine W_ret (je (by simp [h1, h3, h6, h13, h21, h26, h36]; rfl) ?_)
                simp [checkAll, ← hI1, ← hI2, ← hI3, ← hI4, ← hI5]
end Go.Proofs
namespace Go.Proofs
open Go Go.Ev


theorem cb_spec_l05Right : Callable Tryz.prog 61 := ⟨_, Tryz.func61, by kernel_rfl, by kernel_rfl⟩
theorem ct_spec_l05Right {l : List Cls} (hl : sizeL l ≤ 1099511627776) : Ct Tryz.prog 61 [.lst false 6 (l.map eC)] [] (.bool (rightW l)) [] := by
  refine Ct_bodyS tok Tryz.func61 rfl 7 (by kernel_rfl) (by kernel_rfl) fun X hX => ?_
  refine jq [0] ?_
  refine W_rseqK [2] (jt 1 (k:=(jc [] (c:=(by apply ct_spec_WorldCheck <;> first | assumption | omega | (simp at *; omega) | simp_all)) (a:=cb_spec_WorldCheck) (k:=jr)))) ?_
  refine W_ret (je0 ?_)
  simp [rightW]
end Go.Proofs
namespace Go.Proofs
open Go Go.Ev


theorem cb_spec_l07There : Callable Tryz.prog 98 := ⟨_, Tryz.func98, by kernel_rfl, by kernel_rfl⟩
theorem ct_spec_l07There {l : List Cls} {c m : Int} (hl : l.length ≤ 1099511627776) : Ct Tryz.prog 98 [.lst false 6 (l.map eC), .int .i64 c, .int .i64 m] [] (.bool (thereW l c m)) [] := by
  rcases there_split l c m with ⟨p1, p2, hT⟩ | ⟨i, rfl, p1, p2, hT⟩ | ⟨i, rfl, p1, p2, hT⟩ | ⟨i, j, rfl, rfl, p1, p2, hT⟩ | ⟨i, j, rfl, rfl, p1, p2, hT⟩
  all_goals
    refine Ct_bodyS tok Tryz.func98 rfl 29 (by kernel_rfl) (by kernel_rfl) fun X hX => ?_
    refine W_rseqK [0, 1, 2] (jh hX (by simp [p1, p2, hT]; rfl)) ?_
    first | (refine W_rseqK [6] (jh hX (by simp [p1, p2, hT]; rfl)) ?_) | (refine W_rseqK [6] (jh hX (by simp [p1, p2, hT]; rfl)) ?_) | (refine W_rseqK [6] (jh hX (by simp [p1, p2, hT]; rfl)) ?_) | (refine W_rseqK [6] (jh hX (by simp [p1, p2, hT]; rfl)) ?_)
    refine W_ret (je (by simp [p1, p2, hT]; rfl) ?_)
    simp [hT]
end Go.Proofs
namespace Go.Proofs
open Go Go.Ev


theorem cb_spec_l06From : Callable Tryz.prog 149 := ⟨_, Tryz.func149, by kernel_rfl, by kernel_rfl⟩
theorem ct_spec_l06From {t : Str} (ht : t.length ≤ 1099511627776) : Ct Tryz.prog 149 [.str t] [] (eT (tyFrom t)) [] := by
  refine Ct_bodyS tok Tryz.func149 rfl 30 (by kernel_rfl) (by kernel_rfl) fun X hX => ?_
  refine jq [0, 2] ?_
  refine W_rseqK [0, 2, 3] (jt 1 (k:=(jc [] (c:=(by apply ct_spec_TypeClass <;> first | assumption | omega | (simp at *; omega) | simp_all)) (a:=cb_spec_TypeClass) (k:=jr)))) ?_
  refine W_seq (W_block (jq [0, 2, 3, 6] ?_))
  refine jd (fun h2 => ?_) (fun h2 => ?_)
  · try simp at h2
    refine jq [2] ?_
    refine W_ret (je0 ?_)
    rw [h2]; simp [tyFrom, right_I]
  · try simp at h2
    refine jq [0, 2, 3, 10] ?_
    refine jd (fun h4 => ?_) (fun h4 => ?_)
    · try simp at h4
      refine jq [2] ?_
      refine W_ret (je0 ?_)
      rw [h4]; simp [tyFrom, right_A]
    · try simp at h4
      refine W_rseqK [2, 3, 14] (jt 3 (k:=(jm 4 17 [2, 3, 21] (p:=fun b6_3 => by (try simp at b6_3); (have hlt := (len_of_typeRight (typeClass_or b6_3).1).1); exact (jh hX (by simp [-atD_lt, -atL_lt, hlt]; rfl))) (q:=fun b6_3 => by (try simp at b6_3); exact (jh hX (by simp [-atD_lt, -atL_lt]; rfl))) (k:=jr)))) ?_
      refine jd (fun h6 => ?_) (fun h6 => ?_)
      · try simp at h6
        refine jq [2] ?_
        refine W_ret (je0 ?_)
        have hb := typeClass_or h6.1
        rw [tyFrom, if_pos hb.1, if_neg hb.2.1, if_neg hb.2.2, if_pos ((is91 (len_of_typeRight hb.1).1).2 h6.2)]; rfl
      · try simp at h6
        refine jq [2, 3, 24] ?_
        refine jd (fun h8 => ?_) (fun h8 => ?_)
        · try simp at h8
          refine jq [2] ?_
          refine W_ret (je0 ?_)
          have hb := typeClass_or h8
          rw [tyFrom, if_pos hb.1, if_neg hb.2.1, if_neg hb.2.2, if_neg (fun e => h6 h8 ((is91 (len_of_typeRight hb.1).1).1 e))]; rfl
        · try simp at h8
          refine W_skip (jq [2] ?_)
          refine W_ret (je0 ?_)
          rw [tyFrom_zero h8 h2 h4]; rfl
end Go.Proofs
namespace Go.Proofs
open Go Go.Ev


theorem cb_spec_l07Start : Callable Tryz.prog 99 := ⟨_, Tryz.func99, by kernel_rfl, by kernel_rfl⟩
theorem ct_spec_l07Start {x : Cls} {m : Mth} (hd : m.desc.length ≤ 1099511627776) (hL : m.locals ≤ 1048576) : Ct Tryz.prog 99 [eC x, eM m] [] (oFr ⟨[], startL x.name (descRead m.desc).params m⟩) [] := by
  have hpl := descRead_le m.desc
  have hpp := (descRead_parts m.desc).2
  refine Ct_bodyS tok Tryz.func99 rfl 61 (by kernel_rfl) (by kernel_rfl) fun X hX => ?_
  refine jq [2, 3, 4] ?_
  refine jq [2, 3, 4, 5] ?_
  refine W_le (Le.nilC 3 0 1 3 (by simp; rfl)) ?_
  refine W_seq (jq [2, 3, 4, 5, 12] ?_)
  refine jd (fun h2 => ?_) (fun h2 => ?_)
  · try simp at h2
    refine jq [3, 4, 5, 6] ?_
    refine W_seq (jq [3, 4, 5, 6, 18] ?_)
    refine jd (fun h4 => ?_) (fun h4 => ?_)
    · try simp at h4
      refine W_reg jr ?_
      refine W_reg jr ?_
      refine W_le (Le.trans (Le.trim 5 (by simp [hX]) _ (by simp)) (Le.of_eq (by simp; rfl))) ?_
      refine W_rseqK [3, 4, 5, 7] (jt 2 (k:=(jF (c:=(by apply ct_spec_DescRead <;> first | assumption | omega | (simp; omega))) (a:=cb_spec_DescRead) (k:=jr)))) ?_
      refine W_seq (jq [3, 4, 5, 7, 8] ?_)
      refine W_block (W_loopU (α := List Typ × Nat) [3, 4, 5, 7, 8] (fun p => [(8, .int .i64 p.2)]) (fun p => [(3, some (2, [.agg [.raw (.slice none 0 0), .arr 4 0 p.1.length]])), (4, some (3, p.1.map eT))]) (fun p => p.2 ≤ (descRead m.desc).params.length ∧ p.1.length ≤ 1 + p.2 ∧ p.1 = thisL x.name m ++ ((descRead m.desc).params.take p.2).map tyFrom) (fun p => (descRead m.desc).params.length - p.2) ((thisL x.name m, 0)) (fun p => by simp; rfl) (by first | (simp [thisL, init, h2, h4]; done) | (simp [thisL, init, h2]; done)) ?_ ?_)
      · exact ⟨by simp, by simpa using thisL_len _ _, by simp⟩
      rintro ⟨o, i⟩ ⟨hi, hn, hI⟩
      simp only at hi hn hI
      have w0 : o.length ≤ 1099511627776 := by omega
      have w1 : (o.length + 1) * 32 ≤ 140737488355328 := by omega
      have w2 : o.length ≤ 1099511627775 := by omega
      refine W_seq (W_rseqK [3, 4, 5, 7, 8, 34] (jh hX (by simp [w0, w1, w2]; rfl)) ?_)
      refine jd (fun h9 => ?_) (fun h9 => ?_)
      · try simp at h9
        have hp : ((descRead m.desc).params[i]).length ≤ 1099511627776 := Nat.le_trans (hpp _ (List.getElem_mem _)) (by omega)
        refine W_skip (W_seq (W_block (W_held (n := 9) (A := [0, 1, 2, 3, 4, 5, 6]) (B := [7, 8]) (L := [3, 5]) hmo (by kernel_rfl) tok hX (by simp [w0, w1, w2, h9, hp]; rfl) (jH (p:=fun X hX => (jc [] (c:=(by apply ct_spec_l06From <;> first | assumption | omega | (simp; omega))) (a:=cb_spec_l06From) (k:=jf))) (k:=(jH (p:=fun X hX => (jh hX (by simp [w0, w1, w2, h9, hp]; rfl))) (k:=.nil)))) (jh hX (by simp [w0, w1, w2, h9, hp]; rfl)) ?_)))
        refine W_reg (jh hX (by simp [w0, w1, w2, h9, hp]; (try (simp (disch := omega) only [wrap_i64]; (try simp [w0, w1, w2, h9, hp]))); rfl)) ?_
        refine round_endT ((o ++ [tyFrom (descRead m.desc).params[i]], i + 1)) [3, 4, 5, 7, 8] 6 (by simp [hX]) (by simp) (by simp [w0, w1, w2, h9, hp]; try (simp (disch := omega) only [wrap_i64])) ?_ ?_
        · exact ⟨by simp only; omega, by simp; omega, by simp only; rw [map_snoc h9, ← List.append_assoc, ← hI]⟩
        · simp only; omega
      · try simp at h9
        have hil : i = (descRead m.desc).params.length := by omega
        subst hil
        rw [List.take_of_length_le (Nat.le_refl _)] at hI
        subst hI
        refine W_exit (W_seq (W_block (W_loopU (α := List Typ) [3, 4, 5] (fun o => []) (fun o => [(3, some (2, [.agg [.raw (.slice none 0 0), .arr 4 0 o.length]])), (4, some (3, o.map eT))]) (fun o => o.length ≤ 1048600 ∧ padL m.locals.toNat o = startL x.name (descRead m.desc).params m) (fun o => m.locals.toNat - o.length) (thisL x.name m ++ (descRead m.desc).params.map tyFrom) (fun o => by simp; rfl) (by simp) ?_ ?_)))
        · exact ⟨by have := thisL_len x.name m; simp; omega, rfl⟩
        rintro o ⟨ho, hJ⟩
        refine W_seq (W_rseqK [3, 4, 5, 53] (jh hX (by simp [w0, w1, w2, h9]; rfl)) ?_)
        refine jd (fun h12 => ?_) (fun h12 => ?_)
        · try simp at h12
          have x1 : (o.length + 1) * 32 ≤ 140737488355328 := by omega
          have x2 : o.length ≤ 1099511627775 := by omega
          refine W_skip (W_block (W_reg (jh hX (by simp [w0, w1, w2, h9, h12, x1, x2]; rfl)) ?_))
          refine round_endT (o ++ [zT]) [3, 4, 5] 6 (by simp [hX]) (by simp) (by simp [zT]; try (simp (disch := omega) only [wrap_i64])) ?_ ?_
          · exact ⟨by simp; omega, by rw [padL_go (by omega)]; exact hJ⟩
          · simp; omega
        · try simp at h12
          rw [padL_end (by omega)] at hJ
          subst hJ
          refine W_exit (W_rseqK [4] (jh hX (by simp [w0, w1, w2, h9, h12]; rfl)) ?_)
          refine W_ret (W_retR (by simp [w0, w1, w2, h9, h12]; rfl) ?_ rfl)
          exact Wk.agg (.cons (Wk.nilSlice _ _) (.cons (Wk.refl _) .nil))
    · try simp at h4
      refine W_skip (W_reg jr ?_)
      refine W_le (Le.trans (Le.trim 5 (by simp [hX]) _ (by simp)) (Le.of_eq (by simp; rfl))) ?_
      refine W_rseqK [3, 4, 5, 7] (jt 2 (k:=(jF (c:=(by apply ct_spec_DescRead <;> first | assumption | omega | (simp; omega))) (a:=cb_spec_DescRead) (k:=jr)))) ?_
      refine W_seq (jq [3, 4, 5, 7, 8] ?_)
      refine W_block (W_loopU (α := List Typ × Nat) [3, 4, 5, 7, 8] (fun p => [(8, .int .i64 p.2)]) (fun p => [(3, some (2, [.agg [.raw (.slice none 0 0), .arr 4 0 p.1.length]])), (4, some (3, p.1.map eT))]) (fun p => p.2 ≤ (descRead m.desc).params.length ∧ p.1.length ≤ 1 + p.2 ∧ p.1 = thisL x.name m ++ ((descRead m.desc).params.take p.2).map tyFrom) (fun p => (descRead m.desc).params.length - p.2) ((thisL x.name m, 0)) (fun p => by simp; rfl) (by first | (simp [thisL, init, h2, h4]; done) | (simp [thisL, init, h2]; done)) ?_ ?_)
      · exact ⟨by simp, by simpa using thisL_len _ _, by simp⟩
      rintro ⟨o, i⟩ ⟨hi, hn, hI⟩
      simp only at hi hn hI
      have w0 : o.length ≤ 1099511627776 := by omega
      have w1 : (o.length + 1) * 32 ≤ 140737488355328 := by omega
      have w2 : o.length ≤ 1099511627775 := by omega
      refine W_seq (W_rseqK [3, 4, 5, 7, 8, 34] (jh hX (by simp [w0, w1, w2]; rfl)) ?_)
      refine jd (fun h9 => ?_) (fun h9 => ?_)
      · try simp at h9
        have hp : ((descRead m.desc).params[i]).length ≤ 1099511627776 := Nat.le_trans (hpp _ (List.getElem_mem _)) (by omega)
        refine W_skip (W_seq (W_block (W_held (n := 9) (A := [0, 1, 2, 3, 4, 5, 6]) (B := [7, 8]) (L := [3, 5]) hmo (by kernel_rfl) tok hX (by simp [w0, w1, w2, h9, hp]; rfl) (jH (p:=fun X hX => (jc [] (c:=(by apply ct_spec_l06From <;> first | assumption | omega | (simp; omega))) (a:=cb_spec_l06From) (k:=jf))) (k:=(jH (p:=fun X hX => (jh hX (by simp [w0, w1, w2, h9, hp]; rfl))) (k:=.nil)))) (jh hX (by simp [w0, w1, w2, h9, hp]; rfl)) ?_)))
        refine W_reg (jh hX (by simp [w0, w1, w2, h9, hp]; (try (simp (disch := omega) only [wrap_i64]; (try simp [w0, w1, w2, h9, hp]))); rfl)) ?_
        refine round_endT ((o ++ [tyFrom (descRead m.desc).params[i]], i + 1)) [3, 4, 5, 7, 8] 6 (by simp [hX]) (by simp) (by simp [w0, w1, w2, h9, hp]; try (simp (disch := omega) only [wrap_i64])) ?_ ?_
        · exact ⟨by simp only; omega, by simp; omega, by simp only; rw [map_snoc h9, ← List.append_assoc, ← hI]⟩
        · simp only; omega
      · try simp at h9
        have hil : i = (descRead m.desc).params.length := by omega
        subst hil
        rw [List.take_of_length_le (Nat.le_refl _)] at hI
        subst hI
        refine W_exit (W_seq (W_block (W_loopU (α := List Typ) [3, 4, 5] (fun o => []) (fun o => [(3, some (2, [.agg [.raw (.slice none 0 0), .arr 4 0 o.length]])), (4, some (3, o.map eT))]) (fun o => o.length ≤ 1048600 ∧ padL m.locals.toNat o = startL x.name (descRead m.desc).params m) (fun o => m.locals.toNat - o.length) (thisL x.name m ++ (descRead m.desc).params.map tyFrom) (fun o => by simp; rfl) (by simp) ?_ ?_)))
        · exact ⟨by have := thisL_len x.name m; simp; omega, rfl⟩
        rintro o ⟨ho, hJ⟩
        refine W_seq (W_rseqK [3, 4, 5, 53] (jh hX (by simp [w0, w1, w2, h9]; rfl)) ?_)
        refine jd (fun h12 => ?_) (fun h12 => ?_)
        · try simp at h12
          have x1 : (o.length + 1) * 32 ≤ 140737488355328 := by omega
          have x2 : o.length ≤ 1099511627775 := by omega
          refine W_skip (W_block (W_reg (jh hX (by simp [w0, w1, w2, h9, h12, x1, x2]; rfl)) ?_))
          refine round_endT (o ++ [zT]) [3, 4, 5] 6 (by simp [hX]) (by simp) (by simp [zT]; try (simp (disch := omega) only [wrap_i64])) ?_ ?_
          · exact ⟨by simp; omega, by rw [padL_go (by omega)]; exact hJ⟩
          · simp; omega
        · try simp at h12
          rw [padL_end (by omega)] at hJ
          subst hJ
          refine W_exit (W_rseqK [4] (jh hX (by simp [w0, w1, w2, h9, h12]; rfl)) ?_)
          refine W_ret (W_retR (by simp [w0, w1, w2, h9, h12]; rfl) ?_ rfl)
          exact Wk.agg (.cons (Wk.nilSlice _ _) (.cons (Wk.refl _) .nil))
  · try simp at h2
    refine W_skip (W_rseqK [3, 4, 5, 7] (jt 2 (k:=(jF (c:=(by apply ct_spec_DescRead <;> first | assumption | omega | (simp; omega))) (a:=cb_spec_DescRead) (k:=jr)))) ?_)
    refine W_seq (jq [3, 4, 5, 7, 8] ?_)
    refine W_block (W_loopU (α := List Typ × Nat) [3, 4, 5, 7, 8] (fun p => [(8, .int .i64 p.2)]) (fun p => [(3, some (2, [.agg [.raw (.slice none 0 0), .arr 4 0 p.1.length]])), (4, some (3, p.1.map eT))]) (fun p => p.2 ≤ (descRead m.desc).params.length ∧ p.1.length ≤ 1 + p.2 ∧ p.1 = thisL x.name m ++ ((descRead m.desc).params.take p.2).map tyFrom) (fun p => (descRead m.desc).params.length - p.2) ((thisL x.name m, 0)) (fun p => by simp; rfl) (by first | (simp [thisL, init, h2, h4]; done) | (simp [thisL, init, h2]; done)) ?_ ?_)
    · exact ⟨by simp, by simpa using thisL_len _ _, by simp⟩
    rintro ⟨o, i⟩ ⟨hi, hn, hI⟩
    simp only at hi hn hI
    have w0 : o.length ≤ 1099511627776 := by omega
    have w1 : (o.length + 1) * 32 ≤ 140737488355328 := by omega
    have w2 : o.length ≤ 1099511627775 := by omega
    refine W_seq (W_rseqK [3, 4, 5, 7, 8, 34] (jh hX (by simp [w0, w1, w2]; rfl)) ?_)
    refine jd (fun h9 => ?_) (fun h9 => ?_)
    · try simp at h9
      have hp : ((descRead m.desc).params[i]).length ≤ 1099511627776 := Nat.le_trans (hpp _ (List.getElem_mem _)) (by omega)
      refine W_skip (W_seq (W_block (W_held (n := 9) (A := [0, 1, 2, 3, 4, 5, 6]) (B := [7, 8]) (L := [3, 5]) hmo (by kernel_rfl) tok hX (by simp [w0, w1, w2, h9, hp]; rfl) (jH (p:=fun X hX => (jc [] (c:=(by apply ct_spec_l06From <;> first | assumption | omega | (simp; omega))) (a:=cb_spec_l06From) (k:=jf))) (k:=(jH (p:=fun X hX => (jh hX (by simp [w0, w1, w2, h9, hp]; rfl))) (k:=.nil)))) (jh hX (by simp [w0, w1, w2, h9, hp]; rfl)) ?_)))
      refine W_reg (jh hX (by simp [w0, w1, w2, h9, hp]; (try (simp (disch := omega) only [wrap_i64]; (try simp [w0, w1, w2, h9, hp]))); rfl)) ?_
      refine round_endT ((o ++ [tyFrom (descRead m.desc).params[i]], i + 1)) [3, 4, 5, 7, 8] 6 (by simp [hX]) (by simp) (by simp [w0, w1, w2, h9, hp]; try (simp (disch := omega) only [wrap_i64])) ?_ ?_
      · exact ⟨by simp only; omega, by simp; omega, by simp only; rw [map_snoc h9, ← List.append_assoc, ← hI]⟩
      · simp only; omega
    · try simp at h9
      have hil : i = (descRead m.desc).params.length := by omega
      subst hil
      rw [List.take_of_length_le (Nat.le_refl _)] at hI
      subst hI
      refine W_exit (W_seq (W_block (W_loopU (α := List Typ) [3, 4, 5] (fun o => []) (fun o => [(3, some (2, [.agg [.raw (.slice none 0 0), .arr 4 0 o.length]])), (4, some (3, o.map eT))]) (fun o => o.length ≤ 1048600 ∧ padL m.locals.toNat o = startL x.name (descRead m.desc).params m) (fun o => m.locals.toNat - o.length) (thisL x.name m ++ (descRead m.desc).params.map tyFrom) (fun o => by simp; rfl) (by simp) ?_ ?_)))
      · exact ⟨by have := thisL_len x.name m; simp; omega, rfl⟩
      rintro o ⟨ho, hJ⟩
      refine W_seq (W_rseqK [3, 4, 5, 53] (jh hX (by simp [w0, w1, w2, h9]; rfl)) ?_)
      refine jd (fun h12 => ?_) (fun h12 => ?_)
      · try simp at h12
        have x1 : (o.length + 1) * 32 ≤ 140737488355328 := by omega
        have x2 : o.length ≤ 1099511627775 := by omega
        refine W_skip (W_block (W_reg (jh hX (by simp [w0, w1, w2, h9, h12, x1, x2]; rfl)) ?_))
        refine round_endT (o ++ [zT]) [3, 4, 5] 6 (by simp [hX]) (by simp) (by simp [zT]; try (simp (disch := omega) only [wrap_i64])) ?_ ?_
        · exact ⟨by simp; omega, by rw [padL_go (by omega)]; exact hJ⟩
        · simp; omega
      · try simp at h12
        rw [padL_end (by omega)] at hJ
        subst hJ
        refine W_exit (W_rseqK [4] (jh hX (by simp [w0, w1, w2, h9, h12]; rfl)) ?_)
        refine W_ret (W_retR (by simp [w0, w1, w2, h9, h12]; rfl) ?_ rfl)
        exact Wk.agg (.cons (Wk.nilSlice _ _) (.cons (Wk.refl _) .nil))
end Go.Proofs
namespace Go.Proofs
open Go Go.Ev


theorem cb_spec_FrameStart : Callable Tryz.prog 50 := ⟨_, Tryz.func50, by kernel_rfl, by kernel_rfl⟩
theorem ct_spec_FrameStart {l : List Cls} {c m : Int} (hl : sizeL l ≤ 1099511627776) : Ct Tryz.prog 50 [.lst false 6 (l.map eC), .int .i64 c, .int .i64 m] [] (oFo (frmStartW l c m)) [] := by
  have hll : l.length ≤ 1099511627776 := by unfold sizeL at hl; omega
  rcases start_split l c m with ⟨hR, hT, p1, p2⟩ | ⟨hR, hT, p1, p2⟩ | ⟨i, j, rfl, rfl, hR, hT, p1, p2⟩
  all_goals try have hM := mth_head (right_mth hR p1 p2)
  all_goals try have hM1 := head_locals hM
  all_goals try have hM2 := head_desc hM
  all_goals
    refine Ct_bodyS tok Tryz.func50 rfl 47 (by kernel_rfl) (by kernel_rfl) fun X hX => ?_
    refine W_rseqK [0, 1, 2, 6] (jh hX (by simp [p1, p2, hT, hR]; rfl)) ?_
    refine W_seq (W_rseqK [0, 1, 2, 6, 9] (jh hX (by simp [p1, p2, hT, hR]; rfl)) ?_)
    refine jd (fun h1 => ?_) (fun h1 => ?_)
    · try simp at h1
      refine W_rseqK [6] (jh hX (by simp [p1, p2, hT, hR, h1]; rfl)) ?_
      refine W_ret (W_retR (by simp [p1, p2, hT, hR, h1]; rfl) ?_ rfl)
      rw [frmStartW, if_pos (by omega)]
      exact Wk.agg (.cons (Wk.nilSlice _ _) (.cons (Wk.nilSlice _ _) (.cons (Wk.refl _) .nil)))
    · try simp at h1
      refine W_skip (W_seq ?_)
      first | (refine W_rseqK [0, 1, 2, 6, 31] (js hX 1 (by simp [p1, p2, hT, hR, h1]; rfl) (jc [] (c:=(by apply ct_spec_l05Right <;> first | assumption | omega)) (a:=cb_spec_l05Right) (k:=(jh hX (by simp [p1, p2, hT, hR, h1]; rfl))))) ?_) | (refine W_rseqK [0, 1, 2, 6, 31] (js hX 1 (by simp [p1, p2, hT, hR, h1]; rfl) (jc [] (c:=(by apply ct_spec_l05Right <;> first | assumption | omega)) (a:=cb_spec_l05Right) (k:=(js hX 5 (by simp [p1, p2, hT, hR, h1]; rfl) (jc [] (c:=(by apply ct_spec_l07There <;> first | assumption | omega)) (a:=cb_spec_l07There) (k:=(jh hX (by simp [p1, p2, hT, hR, h1]; rfl)))))))) ?_) | (refine W_rseqK [0, 1, 2, 6, 31] (js hX 1 (by simp [p1, p2, hT, hR, h1]; rfl) (jc [] (c:=(by apply ct_spec_l05Right <;> first | assumption | omega)) (a:=cb_spec_l05Right) (k:=(js hX 5 (by simp [p1, p2, hT, hR, h1]; rfl) (jc [] (c:=(by apply ct_spec_l07There <;> first | assumption | omega)) (a:=cb_spec_l07There) (k:=(jh hX (by simp [p1, p2, hT, hR, h1]; rfl)))))))) ?_)
      refine jd (fun h3 => ?_) (fun h3 => ?_)
      · try simp at h3
        all_goals
          refine W_rseqK [6] (jh hX (by simp [p1, p2, hT, hR, h1]; rfl)) ?_
          refine W_ret (W_retR (by simp [p1, p2, hT, hR, h1]; rfl) ?_ rfl)
          rw [frmStartW, if_neg (by omega), if_neg (by first | (simp [hR]; done) | (simp [hT]; done) | (rw [mthAt_there hT p1 p2]; simp [h3]; done))]
          exact Wk.agg (.cons (Wk.nilSlice _ _) (.cons (Wk.nilSlice _ _) (.cons (Wk.refl _) .nil)))
      · try simp at h3
        all_goals
          refine W_skip (jL 12 [0, 1, 2, 3, 4, 5, 6, 7, 8, 9, 10, 11] [] [6] ([]) hX (by simp [p1, p2, hT, hR, h1]; rfl) .nil (jc [] (c:=(by apply ct_spec_l07Start <;> first | assumption | omega)) (a:=cb_spec_l07Start) (k:=(jh hX (by simp [p1, p2, hT, hR, h1]; rfl)))) ?_)
          refine W_ret (W_retR (by simp [p1, p2, hT, hR, h1]; rfl) ?_ rfl)
          rw [frmStartW, if_neg (by omega), if_pos (by rw [mthAt_there hT p1 p2]; simp [hR, hT, h3]), mthAt_there hT p1 p2, clsAt_there hT p1]
          exact Wk.refl _
end Go.Proofs
namespace Go.Proofs
open Go Go.Ev
theorem plc_next {l : List Cls} {es : List (Str × Int)} {i : Nat} (h : i < l.length) :
    plc es i (l.drop i) = plc (if (lookM es l[i].name).isSome then es else es ++ [(l[i].name, (i : Int))]) (i + 1) (l.drop (i + 1)) := by
  rw [List.drop_eq_getElem_cons h]; rfl
abbrev wob (l : List Cls) (bm : Nat) : Ob := some (2, [.agg [.lst false 6 (l.map eC), .raw (.map (some bm))]])
abbrev wst (l : List Cls) (bm : Nat) (a : Nat × List (Str × Int)) : St := ⟨sp 40 [(3, .ptr 0 0 0), (12, .lst false 6 (l.map eC)), (13, .int .i64 l.length), (14, .int .i64 a.1)], [wob l bm]⟩
theorem cb_impl_worldOf : Callable Tryz.prog 117 := ⟨_, Tryz.func117, by kernel_rfl, by kernel_rfl⟩
set_option maxHeartbeats 2000000 in
set_option maxRecDepth 100000 in
theorem ct_impl_worldOf {l : List Cls} (hl : l.length ≤ 1099511627776) : Ct Tryz.prog 117 [.lst false 6 (l.map eC)] [] (wv l) [] := by
  refine Ct_bodyS tok Tryz.func117 rfl 40 (by kernel_rfl) (by kernel_rfl) fun X hX => ?_
  refine W_rseqK [0] (Runs.run tok hX (by simp; rfl)) ?_
  refine W_le (Le.of_eq (by simp; rfl)) ?_
  refine W_mono2 (W_makeMap (F := places l) (x := .lst false 6 (l.map eC)) (t2 := 2) (Qj := fun bm e s es => e = .ret ∧ s = ⟨sp 40 [(2, .ptr 0 0 0)], [wob l bm]⟩ ∧ es = places l) hX (by rfl)
    (by intro X hX; exact opB_ok tok hX (by simp; rfl)) (by rfl) (by simp; rfl) (by rfl) (by rfl) (by rfl) (by rfl) (by simp [V.fz]) (by rfl) ?_ ?_) ?_
  · intro X1 bm hX1
    refine WLJ_lift fun X' hX' hmk => ?_
    refine WL_runsK [3, 0] (Runs.run tok hX' (by simp; rfl)) ⟨rfl, ?_⟩
    refine WJ_seq ?_
    refine WJ_seq ?_
    refine WJ_lift fun X' hX' hmk => ?_
    refine W_regK [3, 12, 13, 14] (Runs.run tok hX' (by simp; rfl)) ?_
    simp only [thenJ]
    refine WJ_block ?_
    refine WJ_loop (α := Nat × List (Str × Int)) (wst l bm) (fun a => a.2) (fun a => a.1 ≤ l.length ∧ plc a.2 a.1 (l.drop a.1) = places l) (fun a => l.length - a.1) (0, []) (by simp) rfl ⟨by simp, rfl⟩ ?_
    rintro ⟨i, es⟩ ⟨hi, hI⟩
    simp only at hi hI
    refine WJ_seq ?_
    refine WJ_lift fun X' hX' hmk => ?_
    refine W_regK [3, 12, 13, 14, 15] (Runs.run tok hX' (by simp; rfl)) ?_
    simp only [thenJ]
    refine WJ_seq ?_
    refine WJ_cond (by simp; rfl) (fun h => ?_) (fun h => ?_)
    · simp at h
      refine WJ_lift fun X' hX' hmk => W_skip ?_
      simp only [thenJ]
      refine WJ_seq ?_
      refine WJ_block ?_
      refine WJ_seq ?_
      refine WJ_lift fun X' hX' hmk => ?_
      refine W_regK [3, 12, 13, 14, 4, 5] (Runs.run tok hX' (by simp [h]; rfl)) ?_
      simp only [thenJ]
      refine WJ_seq ?_
      refine WJ_lift fun X' hX' hmk => ?_
      refine W_drawnK [3, 12, 13, 14, 4, 5, 7] hmo (by kernel_rfl) (RunsQ.step (n0 := 0) 6 tok (by simp; rfl) (RunsQ.lookR tok hmk (by rfl) (by rfl) (by rfl) (by rfl) (by rfl) (by rfl) (by rfl) (by rfl) (by simp) (by simp; rfl) (RunsQ.run (n0 := 0) tok (by simp; rfl)))) ?_
      simp only [thenJ]
      refine WJ_seq ?_
      refine WJ_lift fun X' hX' hmk => ?_
      refine W_regK [3, 12, 13, 14, 4, 5, 30] (Runs.run tok hX' (by simp; rfl)) ?_
      simp only [thenJ]
      have hnx := plc_next (es := es) h
      have hw : IntKind.i64.wrap ((i : Int) + 1) = ((i + 1 : Nat) : Int) := by rw [wrap_i64 (by omega) (by omega)]; simp
      refine WJ_cond (by simp; rfl) (fun h2 => ?_) (fun h2 => ?_)
      · have hn : lookM es l[i].name = none := by simpa using h2
        refine WJ_mapSet (s := l[i].name) (i := (i : Int)) 7 tok hmo (by kernel_rfl) (RunsS.run (n0 := 0) tok (by simp; rfl)) (by rfl) (by rfl) (by rfl) (by rfl) (by rfl) (by rfl) (by rfl) (by rfl) (by simp) (by simp) (by simp) hn ?_
        simp only [blockJ, thenJ]
        refine WJ_trimK 1 (by rw [hX1]; omega) (by simp) (by simp; rfl) ?_
        refine WJ_lift fun X' hX' hmk => ?_
        refine W_regK [3, 12, 13, 14] (Runs.run tok hX' (by simp; rfl)) ?_
        simp only [thenJ]
        refine ⟨(i + 1, es ++ [(l[i].name, (i : Int))]), by simp [hw], rfl, ⟨by simp; omega, ?_⟩, by simp; omega⟩
        rw [hnx, hn] at hI
        exact hI
      · have hn : (lookM es l[i].name).isSome = true := by simpa using h2
        refine WJ_lift fun X' hX' hmk => W_skip ?_
        simp only [blockJ, thenJ]
        refine WJ_trimK 1 (by rw [hX1]; omega) (by simp) (by simp; rfl) ?_
        refine WJ_lift fun X' hX' hmk => ?_
        refine W_regK [3, 12, 13, 14] (Runs.run tok hX' (by simp; rfl)) ?_
        simp only [thenJ]
        refine ⟨(i + 1, es), by simp [hw], rfl, ⟨by simp; omega, ?_⟩, by simp; omega⟩
        rw [hnx, if_pos hn] at hI
        exact hI
    · simp at h
      refine WJ_lift fun X' hX' hmk => W_exit ?_
      simp only [thenJ, blockJ]
      rw [if_pos trivial]
      rw [List.drop_eq_nil_of_le h] at hI
      simp only [plc] at hI
      subst hI
      refine WJ_seq ?_
      refine WJ_lift fun X' hX' hmk => ?_
      refine W_regK [2] (Runs.run tok hX' (by simp; rfl)) ?_
      simp only [thenJ]
      exact WJ_lift fun X' hX' hmk => W_ret ⟨rfl, by simp, rfl⟩
  · rintro bm e s es ⟨rfl, rfl, rfl⟩
    exact ⟨.inl rfl, rfl, by simp, by simp [sp_length], rfl⟩
  · rintro e s ⟨he, rfl⟩
    rcases he with rfl | rfl
    · exact W_retR (by simp; rfl) (.of_eq (by rfl)) rfl
    · exact W_endR (by simp; rfl) (.of_eq (by rfl)) rfl
end Go.Proofs

namespace Go.Proofs
open Go Go.Ev


theorem cb_impl_builtIn : Callable Tryz.prog 143 := ⟨_, Tryz.func143, by kernel_rfl, by kernel_rfl⟩
theorem ct_impl_builtIn  : Ct Tryz.prog 143 [] [] (.lst true 1 (builtIn.map V.str)) [] := by
  refine Ct_bodyS tok Tryz.func143 rfl 2 (by kernel_rfl) (by kernel_rfl) fun X hX => ?_
  refine jq [] ?_
  refine jq [0] ?_
  refine W_ret (je0 ?_)
  simp [builtIn]
end Go.Proofs
namespace Go.Proofs
open Go Go.Ev


theorem cb_slices_Index_string_string : Callable Tryz.prog 224 := ⟨_, Tryz.func224, by kernel_rfl, by kernel_rfl⟩
theorem ct_slices_Index_string_string {l : List Str} {t : Str} (hl : l.length ≤ 1099511627776) : Ct Tryz.prog 224 [.lst false 1 (l.map V.str), .str t] [] (.int .i64 (fix (fun x => decide (t = x)) l)) [] := by
  refine Ct_bodyS tok Tryz.func224 rfl 19 (by kernel_rfl) (by kernel_rfl) fun X hX => ?_
  refine jq [0, 1] ?_
  refine W_seq (jq [0, 1, 7, 8] ?_)
  refine W_block (W_loopU (α := Nat) [0, 1, 7, 8] (fun i => [(8, .int .i64 i)]) (fun i => []) (fun i => i ≤ l.length ∧ ∀ x ∈ l.take i, (fun x => decide (t = x)) x = false) (fun i => l.length - i) (0) (fun i => by simp; rfl) (by simp) ?_ ?_)
  · simp
  rintro i ⟨hi, hI⟩
  refine jq [0, 1, 7, 8, 9] ?_
  refine W_seq (jd (fun h2 => ?_) (fun h2 => ?_))
  · try simp at h2
    refine W_skip (W_seq (W_block (jq [0, 1, 5, 7, 8] ?_)))
    refine W_rseqK [0, 1, 5, 7, 8, 16] (jh hX (by simp [h2]; rfl)) ?_
    refine jd (fun h4 => ?_) (fun h4 => ?_)
    · try simp at h4
      refine jq [4] ?_
      refine W_ret (je (by simp [h2]; rfl) ?_)
      rw [fix_hit h2 hI (by simpa using h4)]
    · try simp at h4
      refine W_skip (W_reg (jh hX (by simp; (try (simp (disch := omega) only [wrap_i64]; (try simp))); rfl)) ?_)
      refine round_end (i + 1) [0, 1, 7, 8] (by simp [h2]; try (simp (disch := omega) only [wrap_i64])) ?_ ?_
      · exact ⟨by omega, take_not h2 hI (by simpa using h4)⟩
      · omega
  · try simp at h2
    refine W_exit (jq [4] ?_)
    refine W_ret (je (by simp [h2]; rfl) ?_)
    rw [fix_none (p := fun x => decide (t = x)) (fun x hx => hI x (by rw [List.take_of_length_le h2]; exact hx))]
end Go.Proofs
namespace Go.Proofs
open Go Go.Ev


theorem cb_slices_Contains_string_string : Callable Tryz.prog 178 := ⟨_, Tryz.func178, by kernel_rfl, by kernel_rfl⟩
theorem ct_slices_Contains_string_string {l : List Str} {t : Str} (hl : l.length ≤ 1099511627776) : Ct Tryz.prog 178 [.lst false 1 (l.map V.str), .str t] [] (.bool (l.any (fun x => decide (t = x)))) [] := by
  refine Ct_bodyS tok Tryz.func178 rfl 9 (by kernel_rfl) (by kernel_rfl) fun X hX => ?_
  refine jq [0, 1] ?_
  refine W_rseqK [4] (jt 2 (k:=(jc [] (c:=(by apply ct_slices_Index_string_string <;> first | assumption | omega | (simp at *; omega) | simp_all)) (a:=cb_slices_Index_string_string) (k:=jr)))) ?_
  refine W_ret (je0 ?_)
  rw [← fix_ge]
end Go.Proofs
namespace Go.Proofs
open Go Go.Ev


theorem cb_impl_isBuiltIn : Callable Tryz.prog 125 := ⟨_, Tryz.func125, by kernel_rfl, by kernel_rfl⟩
theorem ct_impl_isBuiltIn {n : Str} : Ct Tryz.prog 125 [.str n] [] (.bool (bIn n)) [] := by
  refine Ct_bodyS tok Tryz.func125 rfl 6 (by kernel_rfl) (by kernel_rfl) fun X hX => ?_
  refine jq [0] ?_
  refine W_rseqK [2] (jc [] (c:=(by apply ct_impl_builtIn <;> first | assumption | omega | (simp at *; omega) | simp_all)) (a:=cb_impl_builtIn) (k:=(jt 1 (k:=(jB (c:=(by apply (ct_slices_Contains_string_string (l := builtIn)) <;> first | decide | simp)) (a:=cb_slices_Contains_string_string) (k:=jr)))))) ?_
  refine W_ret (je0 ?_)
  rw [bIn_any]
end Go.Proofs
namespace Go.Proofs
open Go Go.Ev


theorem cb_impl_Class_methodAt_1 : Callable Tryz.prog 182 := ⟨_, Tryz.func182, by kernel_rfl, by kernel_rfl⟩
theorem ct_impl_Class_methodAt_1 {x : Mth} {n d : Str} : Ct Tryz.prog 182 [eM x, .fp [.str n], .fp [.str d]] [] (.bool (decide (x.name = n) && decide (x.desc = d))) [] := by
  refine Ct_bodyS tok Tryz.func182 rfl 15 (by kernel_rfl) (by kernel_rfl) fun X hX => ?_
  refine jq [1, 2, 3] ?_
  refine W_rseqK [4] (jt 5 (k:=(jm 5 9 [14] (p:=fun b1_5 => by (try simp at b1_5); exact (jh hX (by simp [-atD_lt, -atL_lt]; rfl))) (q:=fun b1_5 => by (try simp at b1_5); exact (jh hX (by simp [-atD_lt, -atL_lt]; rfl))) (k:=jr)))) ?_
  refine W_ret (je0 ?_)
  simp_all
end Go.Proofs
namespace Go.Proofs
open Go Go.Ev


theorem cb_slices_IndexFunc_impl_Method_impl_Method : Callable Tryz.prog 181 := ⟨_, Tryz.func181, by kernel_rfl, by kernel_rfl⟩
theorem ct_slices_IndexFunc_impl_Method_impl_Method {n d : Str} {l : List Mth} (hl : l.length ≤ 1099511627776) : Ct Tryz.prog 181 [.lst false 9 (l.map eM), .clo (.func 182) [] [.fp [.str n], .fp [.str d]]] [] (.int .i64 (fix (fun x => decide (x.name = n) && decide (x.desc = d)) l)) [] := by
  refine Ct_bodyS tok Tryz.func181 rfl 19 (by kernel_rfl) (by kernel_rfl) fun X hX => ?_
  refine jq [0, 1] ?_
  refine W_seq (jq [0, 1, 7, 8] ?_)
  refine W_block (W_loopU (α := Nat) [0, 1, 7, 8] (fun i => [(8, .int .i64 i)]) (fun i => []) (fun i => i ≤ l.length ∧ ∀ x ∈ l.take i, (fun x => decide (x.name = n) && decide (x.desc = d)) x = false) (fun i => l.length - i) (0) (fun i => by simp; rfl) (by simp) ?_ ?_)
  · simp
  rintro i ⟨hi, hI⟩
  refine jq [0, 1, 7, 8, 9] ?_
  refine W_seq (jd (fun h2 => ?_) (fun h2 => ?_))
  · try simp at h2
    refine W_skip (W_seq (W_block (jq [0, 1, 5, 7, 8] ?_)))
    refine W_rseqK [0, 1, 5, 7, 8, 16] (js hX 5 (by simp [h2]; rfl) (jc [] (c:=(by apply ct_impl_Class_methodAt_1 <;> first | assumption | exact hs _ (List.getElem_mem h2) | omega)) (a:=cb_impl_Class_methodAt_1) (k:=jf))) ?_
    refine jd (fun h4 => ?_) (fun h4 => ?_)
    · try simp at h4
      refine jq [4] ?_
      refine W_ret (je (by simp [h2]; rfl) ?_)
      rw [fix_hit h2 hI (by simpa using h4)]
    · try simp at h4
      refine W_skip (W_reg (jh hX (by simp; (try (simp (disch := omega) only [wrap_i64]; (try simp))); rfl)) ?_)
      refine round_end (i + 1) [0, 1, 7, 8] (by simp [h2]; try (simp (disch := omega) only [wrap_i64])) ?_ ?_
      · exact ⟨by omega, take_not h2 hI (by simpa using h4)⟩
      · omega
  · try simp at h2
    refine W_exit (jq [4] ?_)
    refine W_ret (je (by simp [h2]; rfl) ?_)
    rw [fix_none (p := fun x => decide (x.name = n) && decide (x.desc = d)) (fun x hx => hI x (by rw [List.take_of_length_le h2]; exact hx))]
end Go.Proofs
namespace Go.Proofs
open Go Go.Ev


theorem cb_impl_Class_methodAt : Callable Tryz.prog 124 := ⟨_, Tryz.func124, by kernel_rfl, by kernel_rfl⟩
theorem ct_impl_Class_methodAt {x : Cls} {n d : Str} (h : x.methods.length ≤ 1099511627776) : Ct Tryz.prog 124 [eC x, .str n, .str d] [] (.int .i64 (fix (fun f => decide (f.name = n) && decide (f.desc = d)) x.methods)) [] := by
  refine Ct_bodyS tok Tryz.func124 rfl 11 (by kernel_rfl) (by kernel_rfl) fun X hX => ?_
  refine jq [3, 4, 5] ?_
  refine W_rseqK [6] (jt 3 (k:=(jB (c:=(by apply ct_slices_IndexFunc_impl_Method_impl_Method <;> first | assumption | omega | (simp at *; omega) | simp_all)) (a:=cb_slices_IndexFunc_impl_Method_impl_Method) (k:=jr)))) ?_
  refine W_ret (je0 ?_)
  simp_all
end Go.Proofs
namespace Go.Proofs
open Go Go.Ev


theorem cb_impl_Class_fieldAt_1 : Callable Tryz.prog 185 := ⟨_, Tryz.func185, by kernel_rfl, by kernel_rfl⟩
theorem ct_impl_Class_fieldAt_1 {x : Fld} {n : Str} : Ct Tryz.prog 185 [eF x, .fp [.str n]] [] (.bool (decide (x.name = n))) [] := by
  refine Ct_bodyS tok Tryz.func185 rfl 8 (by kernel_rfl) (by kernel_rfl) fun X hX => ?_
  refine jq [1, 2] ?_
  refine jq [3] ?_
  refine W_ret (je0 ?_)
  simp_all
end Go.Proofs
namespace Go.Proofs
open Go Go.Ev


theorem cb_slices_IndexFunc_impl_Field_impl_Field : Callable Tryz.prog 184 := ⟨_, Tryz.func184, by kernel_rfl, by kernel_rfl⟩
theorem ct_slices_IndexFunc_impl_Field_impl_Field {n : Str} {l : List Fld} (hl : l.length ≤ 1099511627776) : Ct Tryz.prog 184 [.lst false 3 (l.map eF), .clo (.func 185) [] [.fp [.str n]]] [] (.int .i64 (fix (fun x => decide (x.name = n)) l)) [] := by
  refine Ct_bodyS tok Tryz.func184 rfl 19 (by kernel_rfl) (by kernel_rfl) fun X hX => ?_
  refine jq [0, 1] ?_
  refine W_seq (jq [0, 1, 7, 8] ?_)
  refine W_block (W_loopU (α := Nat) [0, 1, 7, 8] (fun i => [(8, .int .i64 i)]) (fun i => []) (fun i => i ≤ l.length ∧ ∀ x ∈ l.take i, (fun x => decide (x.name = n)) x = false) (fun i => l.length - i) (0) (fun i => by simp; rfl) (by simp) ?_ ?_)
  · simp
  rintro i ⟨hi, hI⟩
  refine jq [0, 1, 7, 8, 9] ?_
  refine W_seq (jd (fun h2 => ?_) (fun h2 => ?_))
  · try simp at h2
    refine W_skip (W_seq (W_block (jq [0, 1, 5, 7, 8] ?_)))
    refine W_rseqK [0, 1, 5, 7, 8, 16] (js hX 5 (by simp [h2]; rfl) (jc [] (c:=(by apply ct_impl_Class_fieldAt_1 <;> first | assumption | exact hs _ (List.getElem_mem h2) | omega)) (a:=cb_impl_Class_fieldAt_1) (k:=jf))) ?_
    refine jd (fun h4 => ?_) (fun h4 => ?_)
    · try simp at h4
      refine jq [4] ?_
      refine W_ret (je (by simp [h2]; rfl) ?_)
      rw [fix_hit h2 hI (by simpa using h4)]
    · try simp at h4
      refine W_skip (W_reg (jh hX (by simp; (try (simp (disch := omega) only [wrap_i64]; (try simp))); rfl)) ?_)
      refine round_end (i + 1) [0, 1, 7, 8] (by simp [h2]; try (simp (disch := omega) only [wrap_i64])) ?_ ?_
      · exact ⟨by omega, take_not h2 hI (by simpa using h4)⟩
      · omega
  · try simp at h2
    refine W_exit (jq [4] ?_)
    refine W_ret (je (by simp [h2]; rfl) ?_)
    rw [fix_none (p := fun x => decide (x.name = n)) (fun x hx => hI x (by rw [List.take_of_length_le h2]; exact hx))]
end Go.Proofs
namespace Go.Proofs
open Go Go.Ev


theorem cb_impl_Class_fieldAt : Callable Tryz.prog 133 := ⟨_, Tryz.func133, by kernel_rfl, by kernel_rfl⟩
theorem ct_impl_Class_fieldAt {x : Cls} {n : Str} (h : x.fields.length ≤ 1099511627776) : Ct Tryz.prog 133 [eC x, .str n] [] (.int .i64 (fix (fun f => decide (f.name = n)) x.fields)) [] := by
  refine Ct_bodyS tok Tryz.func133 rfl 9 (by kernel_rfl) (by kernel_rfl) fun X hX => ?_
  refine jq [2, 3] ?_
  refine W_rseqK [4] (jt 3 (k:=(jB (c:=(by apply ct_slices_IndexFunc_impl_Field_impl_Field <;> first | assumption | omega | (simp at *; omega) | simp_all)) (a:=cb_slices_IndexFunc_impl_Field_impl_Field) (k:=jr)))) ?_
  refine W_ret (je0 ?_)
  simp_all
end Go.Proofs
namespace Go.Proofs
open Go Go.Ev


theorem cb_impl_length : Callable Tryz.prog 205 := ⟨_, Tryz.func205, by kernel_rfl, by kernel_rfl⟩
theorem ct_impl_length {t : Str} : Ct Tryz.prog 205 [.str t] [] (.int .i64 t.length) [] := by
  refine Ct_bodyS tok Tryz.func205 rfl 5 (by kernel_rfl) (by kernel_rfl) fun X hX => ?_
  refine jq [0] ?_
  refine jq [2] ?_
  refine W_ret (je0 ?_)
  simp
end Go.Proofs
namespace Go.Proofs
open Go Go.Ev


theorem cb_impl_reader_is : Callable Tryz.prog 233 := ⟨_, Tryz.func233, by kernel_rfl, by kernel_rfl⟩
theorem ct_impl_reader_is {t : Str} {p : Nat} {b : Bool} {n : Int} (ht : t.length ≤ 1099511627776) (hp : p ≤ t.length) (hn0 : 0 ≤ n) (hn1 : n < 256) : Ct Tryz.prog 233 [.ptr 0 0 0, .int .u8 n] [rdr t p b] (.bool (hit t p b n.toNat)) [rdr t p b] := by
  obtain ⟨m, rfl⟩ : ∃ m : Nat, n = m := ⟨n.toNat, by omega⟩
  refine Ct_bodyS tok Tryz.func233 rfl 35 (by kernel_rfl) (by kernel_rfl) fun X hX => ?_
  refine jq [0, 1] ?_
  refine jD [4] (jS 6 (by simp; rfl) (jM 11 10 [0, 1, 21] (p:=fun b1_6 => by (try simp at b1_6); exact (jS 8 (by simp [-atD_lt, -atL_lt]; rfl) (jC (c:=by apply ct_impl_length <;> first | assumption | omega | (simp at *; omega) | simp_all) (a:=cb_impl_length) (k:=(jQ (by simp [-atD_lt, -atL_lt]; rfl)))))) (q:=fun b1_6 => by (try simp at b1_6); exact (jQ (by simp [-atD_lt, -atL_lt]; rfl))) (k:=(jS 1 (by simp; rfl) (jM 12 22 [34] (p:=fun b1_18 => by (try simp at b1_18); exact (jQ (by simp [-atD_lt, -atL_lt, b1_18]; rfl))) (q:=fun b1_18 => by (try simp at b1_18); exact (jQ (by simp [-atD_lt, -atL_lt]; rfl))) (k:=(jQ (by simp; rfl)))))))) ?_
  refine W_ret (je0 ?_)
  rcases Nat.lt_or_ge p t.length with h | h
  · (simp [hit, isAt_lt h, h]) <;> grind
  · (simp [hit, isAt_ge h]) <;> omega
end Go.Proofs
namespace Go.Proofs
open Go Go.Ev


theorem cb_impl_reader_take : Callable Tryz.prog 203 := ⟨_, Tryz.func203, by kernel_rfl, by kernel_rfl⟩
theorem ct_impl_reader_take {t : Str} {p : Nat} {b : Bool} {n : Int} (ht : t.length ≤ 1099511627776) (hp : p ≤ t.length) (hn0 : 0 ≤ n) (hn1 : n < 256) : Ct Tryz.prog 203 [.ptr 0 0 0, .int .u8 n] [rdr t p b] (.bool (hit t p b n.toNat)) [rdr t (adv (hit t p b n.toNat) p) b] := by
  refine Ct_bodyS tok Tryz.func203 rfl 16 (by kernel_rfl) (by kernel_rfl) fun X hX => ?_
  refine jq [0, 1] ?_
  refine W_seq (W_rseqK [0, 8] (jt 2 (k:=(jc [0] (c:=(by apply ct_impl_reader_is <;> first | assumption | omega | (simp at *; omega) | simp_all)) (a:=cb_impl_reader_is) (k:=jr)))) ?_)
  refine jd (fun h1 => ?_) (fun h1 => ?_)
  · try simp at h1
    refine jq [4] ?_
    refine W_ret (W_retR2 (by simp; rfl) (by rfl) (.of_eq ?_) ?_)
    all_goals clear hX
    · skip
      simp_all
    · skip
      simp_all
  · try simp at h1
    refine W_skip (W_rseqK [] (jh hX (by simp; (try (simp (disch := omega) only [wrap_i64]; (try simp))); rfl)) ?_)
    refine jq [4] ?_
    refine W_ret (W_retR2 (by simp; rfl) (by rfl) (.of_eq ?_) ?_)
    all_goals clear hX
    · skip
      simp_all
    · skip
      simp_all
end Go.Proofs
namespace Go.Proofs
open Go Go.Ev


theorem cb_impl_reader_want : Callable Tryz.prog 202 := ⟨_, Tryz.func202, by kernel_rfl, by kernel_rfl⟩
theorem ct_impl_reader_want {t : Str} {p : Nat} {b : Bool} {n : Int} (ht : t.length ≤ 1099511627776) (hp : p ≤ t.length) (hn0 : 0 ≤ n) (hn1 : n < 256) : Ct Tryz.prog 202 [.ptr 0 0 0, .int .u8 n] [rdr t p b] (.tup []) [rdr t (adv (hit t p b n.toNat) p) (b || !hit t p b n.toNat)] := by
  refine Ct_bodyS tok Tryz.func202 rfl 11 (by kernel_rfl) (by kernel_rfl) fun X hX => ?_
  refine W_rseqK [0, 7] (jt 2 (k:=(jc [0] (c:=(by apply ct_impl_reader_take <;> first | assumption | omega | (simp at *; omega) | simp_all)) (a:=cb_impl_reader_take) (k:=jr)))) ?_
  refine jd (fun h0 => ?_) (fun h0 => ?_)
  · try simp at h0
    refine W_reg jr ?_
    refine W_endR2 (by simp; rfl) (by rfl) (.of_eq ?_) ?_
    all_goals clear hX
    · skip
      rfl
    · skip
      simp_all
  · try simp at h0
    refine W_skip (W_endR2 (by simp; rfl) (by rfl) (.of_eq ?_) ?_)
    all_goals clear hX
    · skip
      rfl
    · skip
      simp_all
end Go.Proofs
namespace Go.Proofs
open Go Go.Ev


theorem cb_internal_stringslite_IndexByte : Callable Tryz.prog 261 := ⟨_, Tryz.func261, by kernel_rfl, by kernel_rfl⟩
theorem ct_internal_stringslite_IndexByte {t : Str} {c : UInt8} : Ct Tryz.prog 261 [.str t, .int .u8 c.toNat] [] (.int .i64 (ixL c t)) [] := by
  refine Ct_bodyS tok Tryz.func261 rfl 8 (by kernel_rfl) (by kernel_rfl) fun X hX => ?_
  refine jq [0, 1] ?_
  refine W_rseqK [4] (jt 2 (k:=(Runs.extIB rfl (by simp) (by simp; rfl) (by simp; rfl) ext_IB (by simp; rfl) jr))) ?_
  refine W_ret (je0 ?_)
  simp
end Go.Proofs
namespace Go.Proofs
open Go Go.Ev


theorem cb_strings_IndexByte : Callable Tryz.prog 254 := ⟨_, Tryz.func254, by kernel_rfl, by kernel_rfl⟩
theorem ct_strings_IndexByte {t : Str} {c : UInt8} : Ct Tryz.prog 254 [.str t, .int .u8 c.toNat] [] (.int .i64 (ixL c t)) [] := by
  refine Ct_bodyS tok Tryz.func254 rfl 8 (by kernel_rfl) (by kernel_rfl) fun X hX => ?_
  refine jq [0, 1] ?_
  refine W_rseqK [4] (jt 2 (k:=(jc [] (c:=(by apply ct_internal_stringslite_IndexByte <;> first | assumption | omega | (simp at *; omega) | simp_all)) (a:=cb_internal_stringslite_IndexByte) (k:=jr)))) ?_
  refine W_ret (je0 ?_)
  simp
end Go.Proofs
namespace Go.Proofs
open Go Go.Ev


theorem cb_impl_isNameByte : Callable Tryz.prog 243 := ⟨_, Tryz.func243, by kernel_rfl, by kernel_rfl⟩
theorem ct_impl_isNameByte {c : UInt8} {n : Int} : Ct Tryz.prog 243 [.int .u8 c.toNat, .int .i64 n] [] (.bool (nameByte c (decide (n ≤ 0)))) [] := by
  obtain ⟨k1, k2⟩ := nameTable_byte c
  rw [show nameTable = [48, 49, 50, 51, 52, 53, 54, 55, 56, 57, 97, 98, 99, 100, 101, 102, 103, 104, 105, 106, 107, 108, 109, 110, 111, 112, 113, 114, 115, 116, 117, 118, 119, 120, 121, 122, 65, 66, 67, 68, 69, 70, 71, 72, 73, 74, 75, 76, 77, 78, 79, 80, 81, 82, 83, 84, 85, 86, 87, 88, 89, 90, 36] from rfl] at k1 k2
  refine Ct_bodyS tok Tryz.func243 rfl 18 (by kernel_rfl) (by kernel_rfl) fun X hX => ?_
  refine jq [0, 1] ?_
  refine W_rseqK [1, 5] (jt 1 (k:=(jc [] (c:=(by apply ct_strings_IndexByte <;> first | assumption | omega | (simp at *; omega) | simp_all)) (a:=cb_strings_IndexByte) (k:=jr)))) ?_
  refine W_rseqK [4] (jt 3 (k:=(jm 7 10 [17] (p:=fun b2_3 => by (try simp at b2_3); exact (jh hX (by simp [-atD_lt, -atL_lt]; rfl))) (q:=fun b2_3 => by (try simp at b2_3); exact (js hX 3 (by simp [-atD_lt, -atL_lt]; rfl) (jm 3 13 [10, 16] (p:=fun b2_6 => by (try simp at b2_6); exact (jh hX (by simp [-atD_lt, -atL_lt]; rfl))) (q:=fun b2_6 => by (try simp at b2_6); exact (jh hX (by simp [-atD_lt, -atL_lt]; rfl))) (k:=(jh hX (by simp [-atD_lt, -atL_lt]; rfl)))))) (k:=jr)))) ?_
  refine W_ret (je0 ?_)
  by_cases hn : n ≤ 0
  · rw [decide_eq_true hn, ← k1]; simp; omega
  · have hp : 0 < n := by omega
    rw [decide_eq_false hn, ← k2]; simp [hp]; grind
end Go.Proofs
namespace Go.Proofs
open Go Go.Ev


theorem cb_impl_reader_name : Callable Tryz.prog 234 := ⟨_, Tryz.func234, by kernel_rfl, by kernel_rfl⟩
theorem ct_impl_reader_name {t : Str} {p : Nat} {b : Bool} (ht : t.length ≤ 1099511627776) (hp : p ≤ t.length) : Ct Tryz.prog 234 [.ptr 0 0 0] [rdr t p b] (.tup []) [rdr t (if b = true then p else (nmP t p).1) (b || !(nmP t p).2)] := by
  refine Ct_bodyS tok Tryz.func234 rfl 69 (by kernel_rfl) (by kernel_rfl) fun X hX => ?_
  refine jq [0, 2] ?_
  refine W_seq (W_block (W_loopU (α := Nat) [0, 2] (fun i => []) (fun i => [(0, rdr t i b)]) (fun i => p ≤ i ∧ i ≤ t.length ∧ i - p ≤ 20 ∧ (b = true → i = p) ∧ i + nameRun (20 - (i - p)) (decide (i = p)) (t.drop i) = p + nameRun 20 true (t.drop p)) (fun i => t.length - i) (p) (fun i => by simp; rfl) (by simp) ?_ ?_))
  · simp; omega
  rintro i ⟨h0i, hi, hn, hb, hI⟩
  refine W_seq (jD [0, 2, 50] (jS 6 (by simp; rfl) (jM 11 12 [0, 2, 23] (p:=fun b1_6 => by (try simp at b1_6); exact (jS 8 (by simp [-atD_lt, -atL_lt]; rfl) (jC (c:=by apply ct_impl_length <;> first | assumption | omega | (simp at *; omega) | simp_all) (a:=cb_impl_length) (k:=(jQ (by simp [-atD_lt, -atL_lt]; rfl)))))) (q:=fun b1_6 => by (try simp at b1_6); exact (jQ (by simp [-atD_lt, -atL_lt]; rfl))) (k:=(jS 1 (by simp; rfl) (jM 8 24 [0, 2, 32] (p:=fun b1_18 => by (try simp at b1_18); exact (jQ (by simp [-atD_lt, -atL_lt, b1_18]; (try (simp (disch := omega) only [wrap_i64]; (try simp [-atD_lt, -atL_lt, b1_18]))); rfl))) (q:=fun b1_18 => by (try simp at b1_18); exact (jQ (by simp [-atD_lt, -atL_lt]; rfl))) (k:=(jS 1 (by simp; rfl) (jM 17 33 [0, 2, 50] (p:=fun b1_27 => by (try simp at b1_27); exact (jS 15 (by simp [-atD_lt, -atL_lt, b1_27]; (try (simp (disch := omega) only [wrap_i64]; (try simp [-atD_lt, -atL_lt, b1_27]))); rfl) (jC (c:=by apply ct_impl_isNameByte <;> first | assumption | omega | (simp at *; omega) | simp_all) (a:=cb_impl_isNameByte) (k:=(jQ (by simp [-atD_lt, -atL_lt]; rfl)))))) (q:=fun b1_27 => by (try simp at b1_27); exact (jQ (by simp [-atD_lt, -atL_lt]; rfl))) (k:=(RunsQ.fin (by (try simp); rfl))))))))))) ?_)
  have hge : t.length ≤ i → nameRun (20 - (i - p)) (decide (i = p)) (t.drop i) = 0 := fun h => by rw [List.drop_eq_nil_of_le h]; simp [nameRun]
  have hg2 : i - p = 20 → nameRun (20 - (i - p)) (decide (i = p)) (t.drop i) = 0 := fun h => by rw [h]; simp [nameRun]
  have hg3 := fun h1 h2 => @drop_nameRun t i p h1 h2 h0i
  refine jd (fun h1 => ?_) (fun h1 => ?_)
  · try simp at h1
    have ⟨⟨⟨h1d, h1a⟩, h1b⟩, h1c⟩ := h1
    rw [atD_lt h1a, show decide ((i : Int) - p ≤ 0) = decide (i = p) from by simp; omega] at h1c
    rw [hg3 h1a (by omega), if_pos h1c] at hI
    refine W_skip (W_block (W_reg (jh hX (by simp [h1]; (try (simp (disch := omega) only [wrap_i64]; (try simp [h1]))); rfl)) ?_))
    refine round_end (i + 1) [0, 2] (by simp [h1]; try (simp (disch := omega) only [wrap_i64])) ?_ ?_
    · exact ⟨by omega, by omega, by omega, by simp_all, by omega⟩
    · omega
  · try simp at h1
    have hI2 : b = false → i = p + nameRun 20 true (t.drop p) := by
      intro hbf
      rcases Nat.lt_or_ge i t.length with hl | hl
      · by_cases hk : i - p = 20
        · have := hg2 hk; omega
        · rw [hg3 hl (by omega)] at hI
          have : nameByte t[i] (decide (i = p)) = false := by
            rw [← atD_lt hl]; have := h1 hbf hl (by omega); rwa [show decide ((i : Int) - p ≤ 0) = decide (i = p) from by simp; omega] at this
          rw [this] at hI; simpa using hI
      · have := hge hl; omega
    have hnm : b = false → nmP t p = if (isAt t i 59 && !decide (i = p)) then (i + 1, true) else (i, false) := by
      intro hbf; simp only [nmP, ← hI2 hbf]
    clear hI hI2 hg2 hg3 hge
    refine W_exit (W_seq (W_rseqK [0, 63] (jh hX (by simp [h1]; rfl)) ?_))
    refine' W_condS3 [0] (by simp; rfl) (by rfl) (fun h3 => ?a1_1) (fun h3 => ?a0_1) ?ak_1
    case a1_1 =>
      try simp at h3
      refine W_reg (jh hX (by simp [h1]; rfl)) ?_
      exact ⟨rfl, Eq.trans (by (try simp); rfl) (by rfl)⟩
    case a0_1 =>
      try simp at h3
      refine W_skip ?_
      exact ⟨rfl, Eq.trans (by (try simp); rfl) (by rfl)⟩
    case ak_1 =>
      refine W_le (Le.of_eq (by simp; rfl)) ?_
      refine W_reg (jt 1 (k:=(jc [0] (c:=(by apply ct_impl_reader_want <;> first | assumption | omega | (simp at *; omega) | simp_all)) (a:=cb_impl_reader_want) (k:=jf)))) ?_
      refine W_endR2 (by simp [h1]; rfl) (by rfl) (.of_eq ?_) ?_
      all_goals clear hX
      · skip
        rfl
      · skip
        cases b
        · have hnm := hnm rfl
          by_cases hip : i = p <;> by_cases h9 : isAt t i 59 = true <;> simp_all [hit]
        · simp_all [hit]
end Go.Proofs
namespace Go.Proofs
open Go Go.Ev


theorem cb_impl_reader_kind : Callable Tryz.prog 204 := ⟨_, Tryz.func204, by kernel_rfl, by kernel_rfl⟩
theorem ct_impl_reader_kind {t : Str} {p : Nat} (ht : t.length ≤ 1099511627776) (hp : p ≤ t.length) : Ct Tryz.prog 204 [.ptr 0 0 0] [rdr t p false] (.str (if (tyP t p).2 = true then seg t p (tyP t p).1 else [])) [rdr t (tyP t p).1 (!(tyP t p).2)] := by
  refine Ct_bodyS tok Tryz.func204 rfl 35 (by kernel_rfl) (by kernel_rfl) fun X hX => ?_
  refine jq [0] ?_
  refine jq [0, 3] ?_
  refine W_rseqK [0, 3] (jt 1 (k:=(jc [0] (c:=(by apply ct_impl_reader_take <;> first | assumption | omega | (simp [*] <;> omega) | simp_all)) (a:=cb_impl_reader_take) (k:=jf)))) ?_
  obtain ⟨q, hq, hqt, hql, hpq⟩ : ∃ q, adv (isAt t p 91) p = q ∧ tyP t p = tyP1 t q ∧ q ≤ t.length ∧ p ≤ q := ⟨_, rfl, by simp only [tyP]; split <;> simp_all, by have := @adv_le t p 91; omega, by have := @adv_le t p 91; omega⟩
  refine W_le (Le.of_eq (by simp [hq]; rfl)) ?_
  refine W_seq (W_block (W_rseqK [0, 3, 13] (jt 1 (k:=(jc [0] (c:=(by apply ct_impl_reader_take <;> first | assumption | omega | (simp [*] <;> omega) | simp_all)) (a:=cb_impl_reader_take) (k:=jr)))) ?_))
  refine jd (fun h4 => ?_) (fun h4 => ?_)
  · try simp at h4
    have h4l := lt_of_isAt h4
    have s1 : q + 1 ≤ t.length := h4l
    have s2 : p ≤ q + 1 := by omega
    refine W_skip (W_seq (W_rseqK [0, 3, 24] (jh hX (by simp [h4, s1, s2]; rfl)) ?_))
    refine jd (fun h7 => ?_) (fun h7 => ?_)
    · try simp at h7
      all_goals
        refine jq [2] ?_
        refine W_ret (W_retR2 (by simp [h4, s1, s2]; rfl) (by rfl) (.of_eq ?_) ?_)
        all_goals clear hX
        · skip
          simp_all [tyP1, seg]
        · skip
          simp_all [tyP1]
    · try simp at h7
      all_goals
        refine W_skip (jD [2] (jQ (by simp [h4, s1, s2]; rfl)) ?_)
        refine W_ret (W_retR2 (by simp [h4, s1, s2]; rfl) (by rfl) (.of_eq ?_) ?_)
        all_goals clear hX
        · skip
          simp_all [tyP1, seg]
        · skip
          simp_all [tyP1]
  · try simp at h4
    skip
    refine W_rseqK [0, 3, 16] (jt 1 (k:=(Runs.call [0] rfl (by simp) rfl (by simp [h4]; rfl) (by simp; rfl) (by apply ct_impl_reader_take <;> first | assumption | omega | (simp [*] <;> omega) | simp_all) cb_impl_reader_take (by simp) (by simp) (by simp [h4]; rfl) jr))) ?_
    refine jd (fun h5 => ?_) (fun h5 => ?_)
    · try simp at h5
      have h5l := lt_of_isAt h5
      have hnl := nmP_le (t := t) (p := q + 1) (by omega)
      have s1 := hnl.2.1
      have s2 : p ≤ (nmP t (q + 1)).1 := by omega
      refine W_reg (jt 1 (k:=(Runs.call [0] rfl (by simp) rfl (by simp [h4, h5, s1, s2]; rfl) (by simp; rfl) (by apply ct_impl_reader_name <;> first | assumption | omega | (simp [*] <;> omega) | simp_all) cb_impl_reader_name (by simp) (by simp) (by simp [h4, h5, s1, s2]; rfl) jf))) ?_
      refine W_seq (W_rseqK [0, 3, 24] (jh hX (by simp [h4, h5, s1, s2]; rfl)) ?_)
      refine jd (fun h7 => ?_) (fun h7 => ?_)
      · try simp at h7
        all_goals
          refine jq [2] ?_
          refine W_ret (W_retR2 (by simp [h4, h5, s1, s2]; rfl) (by rfl) (.of_eq ?_) ?_)
          all_goals clear hX
          · skip
            simp_all [tyP1, seg]
          · skip
            simp_all [tyP1]
      · try simp at h7
        all_goals
          refine W_skip (jD [2] (jQ (by simp [h4, h5, s1, s2]; rfl)) ?_)
          refine W_ret (W_retR2 (by simp [h4, h5, s1, s2]; rfl) (by rfl) (.of_eq ?_) ?_)
          all_goals clear hX
          · skip
            simp_all [tyP1, seg]
          · skip
            simp_all [tyP1]
    · try simp at h5
      skip
      refine W_reg (jh hX (by simp [h4, h5]; rfl)) ?_
      refine W_seq (W_rseqK [0, 3, 24] (jh hX (by simp [h4, h5]; rfl)) ?_)
      refine jd (fun h7 => ?_) (fun h7 => ?_)
      · try simp at h7
        all_goals
          refine jq [2] ?_
          refine W_ret (W_retR2 (by simp [h4, h5]; rfl) (by rfl) (.of_eq ?_) ?_)
          all_goals clear hX
          · skip
            simp_all [tyP1, seg]
          · skip
            simp_all [tyP1]
      · try simp at h7
        all_goals
          refine W_skip (jD [2] (jQ (by simp [h4, h5]; rfl)) ?_)
          refine W_ret (W_retR2 (by simp [h4, h5]; rfl) (by rfl) (.of_eq ?_) ?_)
          all_goals clear hX
          · skip
            simp_all [tyP1, seg]
          · skip
            simp_all [tyP1]
end Go.Proofs
namespace Go.Proofs
open Go Go.Ev


theorem cb_impl_typeRight : Callable Tryz.prog 206 := ⟨_, Tryz.func206, by kernel_rfl, by kernel_rfl⟩
theorem ct_impl_typeRight {t : Str} (ht : t.length ≤ 1099511627776) : Ct Tryz.prog 206 [.str t] [] (.bool (typeRight t)) [] := by
  refine Ct_bodyS tok Tryz.func206 rfl 23 (by kernel_rfl) (by kernel_rfl) fun X hX => ?_
  refine jq [0] ?_
  refine jq [0, 3] ?_
  refine W_rseqK [0, 3] (jt 1 (k:=(jc [0] (c:=(by apply ct_impl_reader_kind <;> first | assumption | omega | (simp at *; omega) | simp_all)) (a:=cb_impl_reader_kind) (k:=jf)))) ?_
  refine jD [2] (jS 6 (by simp; rfl) (jM 8 14 [22] (p:=fun b3_6 => by (try simp at b3_6); exact (jS 5 (by simp [-atD_lt, -atL_lt]; rfl) (jC (c:=by apply ct_impl_length <;> first | assumption | omega | (simp at *; omega) | simp_all) (a:=cb_impl_length) (k:=(jQ (by simp [-atD_lt, -atL_lt]; rfl)))))) (q:=fun b3_6 => by (try simp at b3_6); exact (jQ (by simp [-atD_lt, -atL_lt]; rfl))) (k:=(jQ (by simp; rfl))))) ?_
  refine W_ret (je0 ?_)
  have := @tyP_le t 0 (by omega)
  simp only [typeRight]
  cases (tyP t 0).2 <;> simp
  omega
end Go.Proofs
namespace Go.Proofs
open Go Go.Ev


theorem cb_impl_within : Callable Tryz.prog 128 := ⟨_, Tryz.func128, by kernel_rfl, by kernel_rfl⟩
theorem ct_impl_within {n a b : Int} : Ct Tryz.prog 128 [.int .i64 n, .int .i64 a, .int .i64 b] [] (.bool (decide (a ≤ n ∧ n ≤ b))) [] := by
  refine Ct_bodyS tok Tryz.func128 rfl 15 (by kernel_rfl) (by kernel_rfl) fun X hX => ?_
  refine jq [0, 1, 2] ?_
  refine W_rseqK [6] (jt 4 (k:=(jm 4 10 [14] (p:=fun b1_4 => by (try simp at b1_4); exact (jh hX (by simp [-atD_lt, -atL_lt]; rfl))) (q:=fun b1_4 => by (try simp at b1_4); exact (jh hX (by simp [-atD_lt, -atL_lt]; rfl))) (k:=jr)))) ?_
  refine W_ret (je0 ?_)
  (try simp_all) <;> grind
end Go.Proofs
namespace Go.Proofs
open Go Go.Ev


theorem cb_impl_NameRight : Callable Tryz.prog 218 := ⟨_, Tryz.func218, by kernel_rfl, by kernel_rfl⟩
theorem ct_impl_NameRight {t : Str} (ht : t.length ≤ 1099511627776) : Ct Tryz.prog 218 [.str t] [] (.bool (nameRight t)) [] := by
  refine Ct_bodyS tok Tryz.func218 rfl 19 (by kernel_rfl) (by kernel_rfl) fun X hX => ?_
  refine jq [0] ?_
  refine W_seq (jq [0, 5, 6] ?_)
  refine W_block (W_loopU (α := Nat) [0, 5, 6] (fun i => [(6, .int .i64 i)]) (fun i => []) (fun i => i ≤ t.length ∧ nameFrom (decide (i = 0)) (t.drop i) = nameFrom true t) (fun i => t.length - i) (0) (fun i => by simp; rfl) (by simp) ?_ ?_)
  · simp
  rintro i ⟨hi, hI⟩
  refine jq [0, 5, 6, 7] ?_
  refine W_seq (jd (fun h2 => ?_) (fun h2 => ?_))
  · try simp at h2
    rw [List.drop_eq_getElem_cons h2] at hI
    simp only [nameFrom] at hI
    refine W_skip (W_seq (W_block (jq [0, 3, 5, 6] ?_)))
    refine W_rseqK [0, 5, 6, 14] (js hX 4 (by simp [h2]; rfl) (jc [] (c:=(by apply ct_impl_isNameByte <;> first | assumption | omega | (simp at *; omega) | simp_all)) (a:=cb_impl_isNameByte) (k:=jr))) ?_
    refine jd (fun h4 => ?_) (fun h4 => ?_)
    · try simp at h4
      refine jq [2] ?_
      refine W_ret (je (by simp [h2]; rfl) ?_)
      rw [nameRight, ← hI, h4]; simp
    · try simp at h4
      rw [h4, Bool.true_and] at hI
      refine W_skip (W_reg (jh hX (by simp; (try (simp (disch := omega) only [wrap_i64]; (try simp))); rfl)) ?_)
      refine round_end (i + 1) [0, 5, 6] (by simp [h2]; try (simp (disch := omega) only [wrap_i64])) ?_ ?_
      · exact ⟨by omega, by simpa using hI⟩
      · omega
  · try simp at h2
    rw [List.drop_eq_nil_of_le h2] at hI
    simp only [nameFrom] at hI
    refine W_exit (W_rseqK [2] (jt 1 (k:=(jc [] (c:=(by apply ct_impl_length <;> first | assumption | omega | (simp at *; omega) | simp_all)) (a:=cb_impl_length) (k:=(jc [] (c:=(by apply ct_impl_within <;> first | assumption | omega | (simp at *; omega) | simp_all)) (a:=cb_impl_within) (k:=jr)))))) ?_)
    refine W_ret (je (by simp [h2]; rfl) ?_)
    rw [nameRight, ← hI]; simp
end Go.Proofs
namespace Go.Proofs
open Go Go.Ev


theorem cb_impl_descRead : Callable Tryz.prog 153 := ⟨_, Tryz.func153, by kernel_rfl, by kernel_rfl⟩
theorem ct_impl_descRead {t : Str} (ht : t.length ≤ 1099511627776) : Ct Tryz.prog 153 [.str t] [] (eDO (dRead t)) [] := by
  refine Ct_bodyS tok Tryz.func153 rfl 66 (by kernel_rfl) (by kernel_rfl) fun X hX => ?_
  refine jq [0, 2] ?_
  refine jq [0, 2, 3, 4] ?_
  refine W_rseqK [0, 2, 3, 4] (jt 1 (k:=(jc [1] (c:=(by apply ct_impl_reader_want <;> first | assumption | omega | (simp [*] <;> omega) | (simp <;> omega))) (a:=cb_impl_reader_want) (k:=jf)))) ?_
  refine W_seq (W_block (W_le (Le.nilC 2 0 0 1 (by simp; rfl)) ?_))
  refine W_loopU (α := List Str × Nat × Bool) [0, 2, 3, 4] (fun a => []) (fun a => [(1, rdr t a.2.1 a.2.2), (2, some (2, [.agg [.arr 3 0 a.1.length, .str []]])), (3, some (1, a.1.map V.str))]) (fun a => a.2.1 ≤ t.length ∧ a.1.length ≤ 8 ∧ (a.2.2 = true → dRead t = dErr a.2.1) ∧ (a.2.2 = false → isAt t 0 40 = true ∧ dParams t (8 - a.1.length) a.2.1 a.1 = dParams t 8 1 [])) (fun a => 8 - a.1.length) (([], adv (isAt t 0 40) 0, !isAt t 0 40)) (fun a => by simp; rfl) (by simp) ?_ ?_
  · have h9 := @adv_le t 0 40
    refine ⟨by simp; omega, by simp, ?_, ?_⟩
    · intro h; simp at h; simp [dRead, h]
    · intro h; simp at h; simp [h]
  rintro ⟨ps, p, b⟩ ⟨hp, hn, hE, hI⟩
  simp only at hp hn hE hI
  cases b
  all_goals
    refine W_seq ?_
    first | (refine W_rseqK [0, 2, 3, 4, 20] (jt 7 (k:=(jc [1] (c:=(by apply ct_impl_reader_take <;> first | assumption | omega | (simp [*] <;> omega) | (simp <;> omega))) (a:=cb_impl_reader_take) (k:=jr)))) ?_) | (refine jq [0, 2, 3, 4, 20] ?_) | (refine W_rseqK [0, 2, 3, 4, 20] (jt 6 (k:=(jm 4 16 [0, 2, 3, 4, 20] (p:=fun b3_6 => by (try simp at b3_6); exact (js hX 1 (by simp [-atD_lt, -atL_lt]; rfl) (Runs.call [1] rfl (by simp) rfl (by simp [-atD_lt, -atL_lt]; rfl) (by simp; rfl) (by apply ct_impl_reader_take <;> first | assumption | omega | (simp [*] <;> omega) | (simp <;> omega)) cb_impl_reader_take (by simp) (by simp) (by simp [-atD_lt, -atL_lt]; rfl) (jh hX (by simp [-atD_lt, -atL_lt]; rfl))))) (q:=fun b3_6 => by (try simp at b3_6); exact (jh hX (by simp [-atD_lt, -atL_lt]; rfl))) (k:=jf)))) ?_)
    refine jd (fun h3 => ?_) (fun h3 => ?_)
    · try simp at h3
      all_goals
        have h3b : isAt t p 41 = false := by simpa using h3
        obtain ⟨hI1, hI⟩ := hI rfl
        have w1 : (ps.length + 1) * 16 ≤ 140737488355328 := by omega
        have w2 : ps.length ≤ 1099511627775 := by omega
        refine W_skip (W_block (W_seq (W_rseqK [0, 2, 3, 4, 24] (jh hX (by simp [h3b, w1, w2]; rfl)) ?_)))
        refine jd (fun h4 => ?_) (fun h4 => ?_)
        · try simp at h4
          have h4b : 8 - ps.length = 0 := by omega
          rw [h4b, dParams, if_neg (by simp [h3b])] at hI
          have hd : dRead t = dErr p := dRead_err hI1 hI.symm
          refine W_rseqK [0, 2, 3, 4] (jh hX (by simp [h3b, w1, w2]; rfl)) ?_
          refine W_exit (W_seq (W_rseqK [0, 2, 3, 4, 36] (jt 1 (k:=(jc [1] (c:=(by apply ct_impl_reader_take <;> first | assumption | omega | (simp [*] <;> omega) | (simp <;> omega))) (a:=cb_impl_reader_take) (k:=jf)))) ?_))
          refine jd (fun h7 => ?_) (fun h7 => ?_)
          · try simp at h7
            all_goals
              have h7b : isAt t (p + 1) 86 = true := by simpa [h3b] using h7
              have w2 := lt_of_isAt h7b
              refine W_reg (jh hX (by simp [h3b, w1, w2, h7b, w2]; rfl)) ?_
              refine W_seq ?_
              first | (refine jD [2, 3, 4, 58] (jQ (by simp [h3b, w1, w2, h7b, w2]; rfl)) ?_) | (refine jD [2, 3, 4, 58] (jS 10 (by simp [h3b, w1, w2, h7b, w2]; rfl) (jC (c:=by apply ct_impl_length <;> first | assumption | omega | (simp [*] <;> omega) | (simp <;> omega)) (a:=cb_impl_length) (k:=(jQ (by simp; rfl))))) ?_) | (refine jD [2, 3, 4, 58] (jS 5 (by simp [h3b, w1, w2, h7b, w2]; rfl) (jM 8 50 [2, 3, 4, 58] (p:=fun b11_5 => by (try simp at b11_5); exact (jQ (by simp [-atD_lt, -atL_lt]; rfl))) (q:=fun b11_5 => by (try simp at b11_5); exact (jS 5 (by simp [-atD_lt, -atL_lt, h3b, w1, w2, h7b, w2]; rfl) (jC (c:=by apply ct_impl_length <;> first | assumption | omega | (simp [*] <;> omega) | (simp <;> omega)) (a:=cb_impl_length) (k:=(jQ (by simp [-atD_lt, -atL_lt]; rfl)))))) (k:=(RunsQ.fin (by (try simp); rfl))))) ?_)
              refine jd (fun h11 => ?_) (fun h11 => ?_)
              · try simp at h11
                all_goals
                  refine W_rseqK [2] (jh hX (by simp [h3b, w1, w2, h7b, w2, h11]; rfl)) ?_
                  refine W_ret (W_retR (by simp [h3b, w1, w2, h7b, w2, h11]; rfl) ?_ rfl)
                  first
                    | (rw [hd]; exact wk_err _ _ _)
                    | (rw [hE rfl]; exact wk_err _ _ _)
                    | (rw [hd, show dTail t ps p = dErr (p + 2) from by simp only [dTail, h7b, if_true]; rw [if_pos (by omega)]]; exact wk_err _ _ _)
                    | (rw [hd, show dTail t ps p = dErr (tyP t (p + 1)).1 from by simp only [dTail, h7b, Bool.false_eq_true, if_false]; grind]; exact wk_err _ _ _)
              · try simp at h11
                all_goals
                  refine W_skip (W_rseqK [2] (jh hX (by simp [h3b, w1, w2, h7b, w2, h11]; rfl)) ?_)
                  refine W_ret (W_retR (by simp [h3b, w1, w2, h7b, w2, h11]; rfl) ?_ rfl)
                  first
                    | (rw [hd, show dTail t ps p = ⟨ps, [86], 0, 0⟩ from by simp only [dTail, h7b, if_true]; rw [if_neg (by omega)]]; exact Wk.refl _)
                    | (rw [hd, show dTail t ps p = ⟨ps, seg t (p + 1) (tyP t (p + 1)).1, 0, 0⟩ from by simp only [dTail, h7b, Bool.false_eq_true, if_false]; grind]; exact Wk.refl _)
          · try simp at h7
            all_goals
              first
                | (have h7b : isAt t (p + 1) 86 = false := by simpa [h3b] using h7)
                | have h7b := trivial
              refine W_rseqK [0, 2, 3, 4, 42] (jh hX (by simp [h3b, w1, w2, h7b]; rfl)) ?_
              refine jd (fun h9 => ?_) (fun h9 => ?_)
              · try simp at h9
                all_goals
                  refine W_reg (jt 1 (k:=(jc [1] (c:=(by apply ct_impl_reader_kind <;> first | assumption | omega | (simp [*] <;> omega) | (simp <;> omega))) (a:=cb_impl_reader_kind) (k:=(jh hX (by simp [h3b, w1, w2, h7b]; rfl)))))) ?_
                  refine W_seq ?_
                  first | (refine jD [2, 3, 4, 58] (jQ (by simp [h3b, w1, w2, h7b]; rfl)) ?_) | (refine jD [2, 3, 4, 58] (jS 10 (by simp [h3b, w1, w2, h7b]; rfl) (jC (c:=by apply ct_impl_length <;> first | assumption | omega | (simp [*] <;> omega) | (simp <;> omega)) (a:=cb_impl_length) (k:=(jQ (by simp; rfl))))) ?_) | (refine jD [2, 3, 4, 58] (jS 5 (by simp [h3b, w1, w2, h7b]; rfl) (jM 8 50 [2, 3, 4, 58] (p:=fun b11_5 => by (try simp at b11_5); exact (jQ (by simp [-atD_lt, -atL_lt]; rfl))) (q:=fun b11_5 => by (try simp at b11_5); exact (jS 5 (by simp [-atD_lt, -atL_lt, h3b, w1, w2, h7b]; rfl) (jC (c:=by apply ct_impl_length <;> first | assumption | omega | (simp [*] <;> omega) | (simp <;> omega)) (a:=cb_impl_length) (k:=(jQ (by simp [-atD_lt, -atL_lt]; rfl)))))) (k:=(RunsQ.fin (by (try simp); rfl))))) ?_)
                  refine jd (fun h11 => ?_) (fun h11 => ?_)
                  · try simp at h11
                    all_goals
                      refine W_rseqK [2] (jh hX (by simp [h3b, w1, w2, h7b, h11]; rfl)) ?_
                      refine W_ret (W_retR (by simp [h3b, w1, w2, h7b, h11]; rfl) ?_ rfl)
                      first
                        | (rw [hd]; exact wk_err _ _ _)
                        | (rw [hE rfl]; exact wk_err _ _ _)
                        | (rw [hd, show dTail t ps p = dErr (p + 2) from by simp only [dTail, h7b, if_true]; rw [if_pos (by omega)]]; exact wk_err _ _ _)
                        | (rw [hd, show dTail t ps p = dErr (tyP t (p + 1)).1 from by simp only [dTail, h7b, Bool.false_eq_true, if_false]; grind]; exact wk_err _ _ _)
                  · try simp at h11
                    all_goals
                      refine W_skip (W_rseqK [2] (jh hX (by simp [h3b, w1, w2, h7b, h11]; rfl)) ?_)
                      refine W_ret (W_retR (by simp [h3b, w1, w2, h7b, h11]; rfl) ?_ rfl)
                      first
                        | (rw [hd, show dTail t ps p = ⟨ps, [86], 0, 0⟩ from by simp only [dTail, h7b, if_true]; rw [if_neg (by omega)]]; exact Wk.refl _)
                        | (rw [hd, show dTail t ps p = ⟨ps, seg t (p + 1) (tyP t (p + 1)).1, 0, 0⟩ from by simp only [dTail, h7b, Bool.false_eq_true, if_false]; grind]; exact Wk.refl _)
              · try simp at h9
                all_goals
                  refine W_skip (W_seq ?_)
                  first | (refine jD [2, 3, 4, 58] (jQ (by simp [h3b, w1, w2, h7b]; rfl)) ?_) | (refine jD [2, 3, 4, 58] (jS 10 (by simp [h3b, w1, w2, h7b]; rfl) (jC (c:=by apply ct_impl_length <;> first | assumption | omega | (simp [*] <;> omega) | (simp <;> omega)) (a:=cb_impl_length) (k:=(jQ (by simp; rfl))))) ?_) | (refine jD [2, 3, 4, 58] (jS 5 (by simp [h3b, w1, w2, h7b]; rfl) (jM 8 50 [2, 3, 4, 58] (p:=fun b11_5 => by (try simp at b11_5); exact (jQ (by simp [-atD_lt, -atL_lt]; rfl))) (q:=fun b11_5 => by (try simp at b11_5); exact (jS 5 (by simp [-atD_lt, -atL_lt, h3b, w1, w2, h7b]; rfl) (jC (c:=by apply ct_impl_length <;> first | assumption | omega | (simp [*] <;> omega) | (simp <;> omega)) (a:=cb_impl_length) (k:=(jQ (by simp [-atD_lt, -atL_lt]; rfl)))))) (k:=(RunsQ.fin (by (try simp); rfl))))) ?_)
                  refine jd (fun h11 => ?_) (fun h11 => ?_)
                  · try simp at h11
                    all_goals
                      refine W_rseqK [2] (jh hX (by simp [h3b, w1, w2, h7b, h11]; rfl)) ?_
                      refine W_ret (W_retR (by simp [h3b, w1, w2, h7b, h11]; rfl) ?_ rfl)
                      first
                        | (rw [hd]; exact wk_err _ _ _)
                        | (rw [hE rfl]; exact wk_err _ _ _)
                        | (rw [hd, show dTail t ps p = dErr (p + 2) from by simp only [dTail, h7b, if_true]; rw [if_pos (by omega)]]; exact wk_err _ _ _)
                        | (rw [hd, show dTail t ps p = dErr (tyP t (p + 1)).1 from by simp only [dTail, h7b, Bool.false_eq_true, if_false]; grind]; exact wk_err _ _ _)
                  · try simp at h11
                    all_goals
                      refine W_skip (W_rseqK [2] (jh hX (by simp [h3b, w1, w2, h7b, h11]; rfl)) ?_)
                      refine W_ret (W_retR (by simp [h3b, w1, w2, h7b, h11]; rfl) ?_ rfl)
                      first
                        | (rw [hd, show dTail t ps p = ⟨ps, [86], 0, 0⟩ from by simp only [dTail, h7b, if_true]; rw [if_neg (by omega)]]; exact Wk.refl _)
                        | (rw [hd, show dTail t ps p = ⟨ps, seg t (p + 1) (tyP t (p + 1)).1, 0, 0⟩ from by simp only [dTail, h7b, Bool.false_eq_true, if_false]; grind]; exact Wk.refl _)
        · try simp at h4
          have h4b : 8 - ps.length = (8 - (ps.length + 1)) + 1 := by omega
          rw [h4b, dParams, if_neg (by simp [h3b])] at hI
          obtain ⟨hge, hle, hgt, _⟩ := tyP_le hp
          have hE3 : (!(tyP t p).2) = true → dRead t = dErr (tyP t p).1 := by
            intro h; rw [if_neg (by simpa using h)] at hI; exact dRead_err hI1 hI.symm
          have hI3 : (!(tyP t p).2) = false → isAt t 0 40 = true ∧ dParams t (8 - (ps ++ [if (tyP t p).2 = true then seg t p (tyP t p).1 else []]).length) (tyP t p).1 (ps ++ [if (tyP t p).2 = true then seg t p (tyP t p).1 else []]) = dParams t 8 1 [] := by
            intro h; have h : (tyP t p).2 = true := by simpa using h
            rw [if_pos h] at hI ⊢; refine ⟨hI1, ?_⟩; rw [← hI]; simp
          refine W_skip (W_held (n := 5) (A := [0, 1, 2]) (B := [3, 4]) (L := [2]) hmo (by kernel_rfl) tok hX (by simp [h3b, w1, w2]; rfl) (jH (p:=fun X hX => (jc [1] (c:=(by apply ct_impl_reader_kind <;> first | assumption | omega | (simp [*] <;> omega) | (simp <;> omega))) (a:=cb_impl_reader_kind) (k:=jf))) (k:=(jH (p:=fun X hX => jr) (k:=.nil)))) (jh hX (by simp [h3b, w1, w2]; rfl)) ?_)
          refine round_endT ((ps ++ [if (tyP t p).2 = true then seg t p (tyP t p).1 else []], (tyP t p).1, !(tyP t p).2)) [0, 2, 3, 4] 4 (by simp [hX]) (by simp) (by simp [h3b, w1, w2]; try (simp (disch := omega) only [wrap_i64])) ?_ ?_
          · exact ⟨hle, by simp; omega, hE3, hI3⟩
          · simp; omega
    · try simp at h3
      all_goals
        first
          | (have h3b : isAt t p 41 = true := by simpa using h3
             have hI1 := (hI rfl).1
             have hI := (hI rfl).2
             have hd : dRead t = dTail t ps p := dRead_ok hI1 (by rw [← hI]; cases 8 - ps.length <;> simp [dParams, h3b])
             have w0 : p + 1 ≤ t.length := lt_of_isAt h3b
             have w1 := tyP_le w0)
          | (have h3b := trivial
             have w0 := trivial
             have w1 := trivial)
        refine W_exit (W_seq (W_rseqK [0, 2, 3, 4, 36] (jt 1 (k:=(jc [1] (c:=(by apply ct_impl_reader_take <;> first | assumption | omega | (simp [*] <;> omega) | (simp <;> omega))) (a:=cb_impl_reader_take) (k:=jf)))) ?_))
        refine jd (fun h7 => ?_) (fun h7 => ?_)
        · try simp at h7
          all_goals
            have h7b : isAt t (p + 1) 86 = true := by simpa [h3b] using h7
            have w2 := lt_of_isAt h7b
            refine W_reg (jh hX (by simp [h3b, w0, w1, h7b, w2]; rfl)) ?_
            refine W_seq ?_
            first | (refine jD [2, 3, 4, 58] (jQ (by simp [h3b, w0, w1, h7b, w2]; rfl)) ?_) | (refine jD [2, 3, 4, 58] (jS 10 (by simp [h3b, w0, w1, h7b, w2]; rfl) (jC (c:=by apply ct_impl_length <;> first | assumption | omega | (simp [*] <;> omega) | (simp <;> omega)) (a:=cb_impl_length) (k:=(jQ (by simp; rfl))))) ?_) | (refine jD [2, 3, 4, 58] (jS 5 (by simp [h3b, w0, w1, h7b, w2]; rfl) (jM 8 50 [2, 3, 4, 58] (p:=fun b11_5 => by (try simp at b11_5); exact (jQ (by simp [-atD_lt, -atL_lt]; rfl))) (q:=fun b11_5 => by (try simp at b11_5); exact (jS 5 (by simp [-atD_lt, -atL_lt, h3b, w0, w1, h7b, w2]; rfl) (jC (c:=by apply ct_impl_length <;> first | assumption | omega | (simp [*] <;> omega) | (simp <;> omega)) (a:=cb_impl_length) (k:=(jQ (by simp [-atD_lt, -atL_lt]; rfl)))))) (k:=(RunsQ.fin (by (try simp); rfl))))) ?_)
            refine jd (fun h11 => ?_) (fun h11 => ?_)
            · try simp at h11
              all_goals
                refine W_rseqK [2] (jh hX (by simp [h3b, w0, w1, h7b, w2, h11]; rfl)) ?_
                refine W_ret (W_retR (by simp [h3b, w0, w1, h7b, w2, h11]; rfl) ?_ rfl)
                first
                  | (rw [hd]; exact wk_err _ _ _)
                  | (rw [hE rfl]; exact wk_err _ _ _)
                  | (rw [hd, show dTail t ps p = dErr (p + 2) from by simp only [dTail, h7b, if_true]; rw [if_pos (by omega)]]; exact wk_err _ _ _)
                  | (rw [hd, show dTail t ps p = dErr (tyP t (p + 1)).1 from by simp only [dTail, h7b, Bool.false_eq_true, if_false]; grind]; exact wk_err _ _ _)
            · try simp at h11
              all_goals
                refine W_skip (W_rseqK [2] (jh hX (by simp [h3b, w0, w1, h7b, w2, h11]; rfl)) ?_)
                refine W_ret (W_retR (by simp [h3b, w0, w1, h7b, w2, h11]; rfl) ?_ rfl)
                first
                  | (rw [hd, show dTail t ps p = ⟨ps, [86], 0, 0⟩ from by simp only [dTail, h7b, if_true]; rw [if_neg (by omega)]]; exact Wk.refl _)
                  | (rw [hd, show dTail t ps p = ⟨ps, seg t (p + 1) (tyP t (p + 1)).1, 0, 0⟩ from by simp only [dTail, h7b, Bool.false_eq_true, if_false]; grind]; exact Wk.refl _)
        · try simp at h7
          all_goals
            first
              | (have h7b : isAt t (p + 1) 86 = false := by simpa [h3b] using h7)
              | have h7b := trivial
            refine W_rseqK [0, 2, 3, 4, 42] (jh hX (by simp [h3b, w0, w1, h7b]; rfl)) ?_
            refine jd (fun h9 => ?_) (fun h9 => ?_)
            · try simp at h9
              all_goals
                refine W_reg (jt 1 (k:=(jc [1] (c:=(by apply ct_impl_reader_kind <;> first | assumption | omega | (simp [*] <;> omega) | (simp <;> omega))) (a:=cb_impl_reader_kind) (k:=(jh hX (by simp [h3b, w0, w1, h7b]; rfl)))))) ?_
                refine W_seq ?_
                first | (refine jD [2, 3, 4, 58] (jQ (by simp [h3b, w0, w1, h7b]; rfl)) ?_) | (refine jD [2, 3, 4, 58] (jS 10 (by simp [h3b, w0, w1, h7b]; rfl) (jC (c:=by apply ct_impl_length <;> first | assumption | omega | (simp [*] <;> omega) | (simp <;> omega)) (a:=cb_impl_length) (k:=(jQ (by simp; rfl))))) ?_) | (refine jD [2, 3, 4, 58] (jS 5 (by simp [h3b, w0, w1, h7b]; rfl) (jM 8 50 [2, 3, 4, 58] (p:=fun b11_5 => by (try simp at b11_5); exact (jQ (by simp [-atD_lt, -atL_lt]; rfl))) (q:=fun b11_5 => by (try simp at b11_5); exact (jS 5 (by simp [-atD_lt, -atL_lt, h3b, w0, w1, h7b]; rfl) (jC (c:=by apply ct_impl_length <;> first | assumption | omega | (simp [*] <;> omega) | (simp <;> omega)) (a:=cb_impl_length) (k:=(jQ (by simp [-atD_lt, -atL_lt]; rfl)))))) (k:=(RunsQ.fin (by (try simp); rfl))))) ?_)
                refine jd (fun h11 => ?_) (fun h11 => ?_)
                · try simp at h11
                  all_goals
                    refine W_rseqK [2] (jh hX (by simp [h3b, w0, w1, h7b, h11]; rfl)) ?_
                    refine W_ret (W_retR (by simp [h3b, w0, w1, h7b, h11]; rfl) ?_ rfl)
                    first
                      | (rw [hd]; exact wk_err _ _ _)
                      | (rw [hE rfl]; exact wk_err _ _ _)
                      | (rw [hd, show dTail t ps p = dErr (p + 2) from by simp only [dTail, h7b, if_true]; rw [if_pos (by omega)]]; exact wk_err _ _ _)
                      | (rw [hd, show dTail t ps p = dErr (tyP t (p + 1)).1 from by simp only [dTail, h7b, Bool.false_eq_true, if_false]; grind]; exact wk_err _ _ _)
                · try simp at h11
                  all_goals
                    refine W_skip (W_rseqK [2] (jh hX (by simp [h3b, w0, w1, h7b, h11]; rfl)) ?_)
                    refine W_ret (W_retR (by simp [h3b, w0, w1, h7b, h11]; rfl) ?_ rfl)
                    first
                      | (rw [hd, show dTail t ps p = ⟨ps, [86], 0, 0⟩ from by simp only [dTail, h7b, if_true]; rw [if_neg (by omega)]]; exact Wk.refl _)
                      | (rw [hd, show dTail t ps p = ⟨ps, seg t (p + 1) (tyP t (p + 1)).1, 0, 0⟩ from by simp only [dTail, h7b, Bool.false_eq_true, if_false]; grind]; exact Wk.refl _)
            · try simp at h9
              all_goals
                refine W_skip (W_seq ?_)
                first | (refine jD [2, 3, 4, 58] (jQ (by simp [h3b, w0, w1, h7b]; rfl)) ?_) | (refine jD [2, 3, 4, 58] (jS 10 (by simp [h3b, w0, w1, h7b]; rfl) (jC (c:=by apply ct_impl_length <;> first | assumption | omega | (simp [*] <;> omega) | (simp <;> omega)) (a:=cb_impl_length) (k:=(jQ (by simp; rfl))))) ?_) | (refine jD [2, 3, 4, 58] (jS 5 (by simp [h3b, w0, w1, h7b]; rfl) (jM 8 50 [2, 3, 4, 58] (p:=fun b11_5 => by (try simp at b11_5); exact (jQ (by simp [-atD_lt, -atL_lt]; rfl))) (q:=fun b11_5 => by (try simp at b11_5); exact (jS 5 (by simp [-atD_lt, -atL_lt, h3b, w0, w1, h7b]; rfl) (jC (c:=by apply ct_impl_length <;> first | assumption | omega | (simp [*] <;> omega) | (simp <;> omega)) (a:=cb_impl_length) (k:=(jQ (by simp [-atD_lt, -atL_lt]; rfl)))))) (k:=(RunsQ.fin (by (try simp); rfl))))) ?_)
                refine jd (fun h11 => ?_) (fun h11 => ?_)
                · try simp at h11
                  all_goals
                    refine W_rseqK [2] (jh hX (by simp [h3b, w0, w1, h7b, h11]; rfl)) ?_
                    refine W_ret (W_retR (by simp [h3b, w0, w1, h7b, h11]; rfl) ?_ rfl)
                    first
                      | (rw [hd]; exact wk_err _ _ _)
                      | (rw [hE rfl]; exact wk_err _ _ _)
                      | (rw [hd, show dTail t ps p = dErr (p + 2) from by simp only [dTail, h7b, if_true]; rw [if_pos (by omega)]]; exact wk_err _ _ _)
                      | (rw [hd, show dTail t ps p = dErr (tyP t (p + 1)).1 from by simp only [dTail, h7b, Bool.false_eq_true, if_false]; grind]; exact wk_err _ _ _)
                · try simp at h11
                  all_goals
                    refine W_skip (W_rseqK [2] (jh hX (by simp [h3b, w0, w1, h7b, h11]; rfl)) ?_)
                    refine W_ret (W_retR (by simp [h3b, w0, w1, h7b, h11]; rfl) ?_ rfl)
                    first
                      | (rw [hd, show dTail t ps p = ⟨ps, [86], 0, 0⟩ from by simp only [dTail, h7b, if_true]; rw [if_neg (by omega)]]; exact Wk.refl _)
                      | (rw [hd, show dTail t ps p = ⟨ps, seg t (p + 1) (tyP t (p + 1)).1, 0, 0⟩ from by simp only [dTail, h7b, Bool.false_eq_true, if_false]; grind]; exact Wk.refl _)
end Go.Proofs
namespace Go.Proofs
open Go Go.Ev


theorem cb_impl_isMethodName : Callable Tryz.prog 244 := ⟨_, Tryz.func244, by kernel_rfl, by kernel_rfl⟩
theorem ct_impl_isMethodName {t : Str} (ht : t.length ≤ 1099511627776) : Ct Tryz.prog 244 [.str t] [] (.bool (nameRight t || decide (t = init))) [] := by
  refine Ct_bodyS tok Tryz.func244 rfl 9 (by kernel_rfl) (by kernel_rfl) fun X hX => ?_
  refine jq [0] ?_
  refine W_rseqK [2] (jt 1 (k:=(jc [] (c:=(by apply ct_impl_NameRight <;> first | assumption | omega | (simp at *; omega) | simp_all)) (a:=cb_impl_NameRight) (k:=(jt 1 (k:=(jm 3 5 [8] (p:=fun b1_3 => by (try simp at b1_3); exact (jh hX (by simp [-atD_lt, -atL_lt]; rfl))) (q:=fun b1_3 => by (try simp at b1_3); exact (jh hX (by simp [-atD_lt, -atL_lt]; rfl))) (k:=jr)))))))) ?_
  refine W_ret (je0 ?_)
  (try simp_all [init]) <;> grind
end Go.Proofs
namespace Go.Proofs
open Go Go.Ev


theorem cb_impl_isText : Callable Tryz.prog 66 := ⟨_, Tryz.func66, by kernel_rfl, by kernel_rfl⟩
theorem ct_impl_isText {l : List Str} (hl : l.length ≤ 1099511627776) : Ct Tryz.prog 66 [.lst false 1 (l.map V.str)] [] (.bool (l.all fun t => decide (t.length ≤ 20000))) [] := by
  refine Ct_bodyS tok Tryz.func66 rfl 15 (by kernel_rfl) (by kernel_rfl) fun X hX => ?_
  refine jq [0] ?_
  refine W_seq (jq [5, 6, 7] ?_)
  refine W_block (W_loopU (α := Nat) [5, 6, 7] (fun i => [(7, .int .i64 i)]) (fun i => []) (fun i => i ≤ l.length ∧ (l.drop i).all (fun t => decide (t.length ≤ 20000)) = l.all fun t => decide (t.length ≤ 20000)) (fun i => l.length - i) (0) (fun i => by simp; rfl) (by simp) ?_ ?_)
  · simp
  rintro i ⟨hi, hI⟩
  refine jq [5, 6, 7, 8] ?_
  refine W_seq (jd (fun h2 => ?_) (fun h2 => ?_))
  · try simp at h2
    rw [List.drop_eq_getElem_cons h2] at hI
    simp only [List.all_cons] at hI
    refine W_skip (W_seq (W_block (W_rseqK [4, 5, 6, 7] (jh hX (by simp [h2]; rfl)) ?_)))
    refine W_rseqK [5, 6, 7, 13] (jh hX (by simp [h2]; rfl)) ?_
    refine jd (fun h4 => ?_) (fun h4 => ?_)
    · try simp at h4
      refine jq [2] ?_
      refine W_ret (je (by simp [h2, h4]; rfl) ?_)
      rw [← hI, decide_eq_false (by omega)]; rfl
    · try simp at h4
      rw [decide_eq_true (by omega), Bool.true_and] at hI
      refine W_skip (W_reg (jh hX (by simp; (try (simp (disch := omega) only [wrap_i64]; (try simp))); rfl)) ?_)
      refine round_end (i + 1) [5, 6, 7] (by simp [h2, h4]; try (simp (disch := omega) only [wrap_i64])) ?_ ?_
      · exact ⟨by omega, hI⟩
      · omega
  · try simp at h2
    refine W_exit (jq [2] ?_)
    refine W_ret (je (by simp [h2]; rfl) ?_)
    rw [← hI, List.drop_eq_nil_of_le h2]; rfl
end Go.Proofs
namespace Go.Proofs
open Go Go.Ev


theorem cb_impl_isDesc : Callable Tryz.prog 245 := ⟨_, Tryz.func245, by kernel_rfl, by kernel_rfl⟩
theorem ct_impl_isDesc {t : Str} (ht : t.length ≤ 1099511627776) : Ct Tryz.prog 245 [.str t] [] (.bool (decide ((descRead t).code = 0))) [] := by
  refine Ct_bodyS tok Tryz.func245 rfl 12 (by kernel_rfl) (by kernel_rfl) fun X hX => ?_
  refine jq [0] ?_
  refine W_rseqK [2] (jt 2 (k:=(jB (c:=(by apply (ct_impl_isText (l := [t])) <;> simp)) (a:=cb_impl_isText) (k:=(jt 1 (k:=(jm 5 6 [11] (p:=fun b1_4 => by (try simp at b1_4); exact (js hX 1 (by simp [-atD_lt, -atL_lt]; rfl) (Runs.callF rfl (by simp) rfl (by simp [-atD_lt, -atL_lt]; rfl) (by apply ct_impl_descRead <;> first | assumption | omega | (simp at *; omega) | simp_all) cb_impl_descRead (by simp [-atD_lt, -atL_lt]; rfl) (jh hX (by simp [-atD_lt, -atL_lt]; rfl))))) (q:=fun b1_4 => by (try simp at b1_4); exact (jh hX (by simp [-atD_lt, -atL_lt]; rfl))) (k:=jr)))))))) ?_
  refine W_ret (je0 ?_)
  unfold descRead
  (try simp_all) <;> grind
end Go.Proofs
namespace Go.Proofs
open Go Go.Ev


theorem cb_impl_size_impl_Ins : Callable Tryz.prog 255 := ⟨_, Tryz.func255, by kernel_rfl, by kernel_rfl⟩
theorem ct_impl_size_impl_Ins {l : List Ins} : Ct Tryz.prog 255 [.lst false 5 (l.map eI)] [] (.int .i64 l.length) [] := by
  refine Ct_bodyS tok Tryz.func255 rfl 5 (by kernel_rfl) (by kernel_rfl) fun X hX => ?_
  refine jq [0] ?_
  refine jq [2] ?_
  refine W_ret (je0 ?_)
  simp
end Go.Proofs
namespace Go.Proofs
open Go Go.Ev


theorem cb_impl_isInt : Callable Tryz.prog 230 := ⟨_, Tryz.func230, by kernel_rfl, by kernel_rfl⟩
theorem ct_impl_isInt {n : Int} : Ct Tryz.prog 230 [.int .i64 n] [] (.bool (isInt n)) [] := by
  refine Ct_bodyS tok Tryz.func230 rfl 5 (by kernel_rfl) (by kernel_rfl) fun X hX => ?_
  refine jq [0] ?_
  refine W_rseqK [2] (jt 1 (k:=(jc [] (c:=(by apply ct_impl_within <;> first | assumption | omega | (simp at *; omega) | simp_all)) (a:=cb_impl_within) (k:=jr)))) ?_
  refine W_ret (je0 ?_)
  simp [isInt]
end Go.Proofs
namespace Go.Proofs
open Go Go.Ev


theorem cb_impl_isOp : Callable Tryz.prog 262 := ⟨_, Tryz.func262, by kernel_rfl, by kernel_rfl⟩
theorem ct_impl_isOp {n : Int} : Ct Tryz.prog 262 [.int .i64 n] [] (.bool (decide (1 ≤ n ∧ n ≤ 44))) [] := by
  refine Ct_bodyS tok Tryz.func262 rfl 5 (by kernel_rfl) (by kernel_rfl) fun X hX => ?_
  refine jq [0] ?_
  refine W_rseqK [2] (jt 1 (k:=(jc [] (c:=(by apply ct_impl_within <;> first | assumption | omega | (simp at *; omega) | simp_all)) (a:=cb_impl_within) (k:=jr)))) ?_
  refine W_ret (je0 ?_)
  simp
end Go.Proofs
namespace Go.Proofs
open Go Go.Ev


theorem cb_impl_opForms : Callable Tryz.prog 263 := ⟨_, Tryz.func263, by kernel_rfl, by kernel_rfl⟩
theorem ct_impl_opForms  : Ct Tryz.prog 263 [] [] (.lst true 1 (formL.map V.str)) [] := by
  refine Ct_bodyS tok Tryz.func263 rfl 2 (by kernel_rfl) (by kernel_rfl) fun X hX => ?_
  refine jq [] ?_
  refine jq [0] ?_
  refine W_ret (je0 ?_)
  rfl
end Go.Proofs
namespace Go.Proofs
open Go Go.Ev


theorem cb_impl_OpForm : Callable Tryz.prog 257 := ⟨_, Tryz.func257, by kernel_rfl, by kernel_rfl⟩
theorem ct_impl_OpForm {op : Int} : Ct Tryz.prog 257 [.int .i64 op] [] (.str (opForm op)) [] := by
  have hol : formL.length = 44 := rfl
  refine Ct_bodyS tok Tryz.func257 rfl 11 (by kernel_rfl) (by kernel_rfl) fun X hX => ?_
  refine jq [0] ?_
  refine W_seq (W_rseqK [0, 5] (jt 1 (k:=(jc [] (c:=(by apply ct_impl_isOp <;> first | assumption | omega | (simp at *; omega) | simp_all)) (a:=cb_impl_isOp) (k:=jr)))) ?_)
  refine jd (fun h1 => ?_) (fun h1 => ?_)
  · try simp at h1
    refine jq [2] ?_
    refine W_ret (je0 ?_)
    simp only [opForm]; rw [if_pos (by omega)]
  · try simp at h1
    obtain ⟨k, rfl⟩ : ∃ k : Nat, op = (k : Int) + 1 := ⟨(op - 1).toNat, by omega⟩
    have hk : k < formL.length := by rw [hol]; omega
    have hk1 : IntKind.i64.wrap ((k : Int) + 1 - 1) = k := by rw [wrap_i64 (by omega) (by omega)]; omega
    refine W_skip (W_rseqK [2] (jF (c:=(by apply ct_impl_opForms <;> first | assumption | omega | (simp at *; omega) | simp_all)) (a:=cb_impl_opForms) (k:=(jh hX (by simp [hk, hk1]; (try (simp (disch := omega) only [wrap_i64]; (try simp [hk, hk1]))); rfl)))) ?_)
    refine W_ret (je (by simp [hk, hk1]; rfl) ?_)
    simp only [opForm]; rw [if_neg (by omega), show ((k : Int) + 1 - 1).toNat = k from by omega]; simp [hk]
end Go.Proofs
namespace Go.Proofs
open Go Go.Ev


theorem cb_impl_InsRight : Callable Tryz.prog 256 := ⟨_, Tryz.func256, by kernel_rfl, by kernel_rfl⟩
theorem ct_impl_InsRight {x : Ins} (h : sizeI x ≤ 1099511627776) : Ct Tryz.prog 256 [eI x] [] (.bool (insRight x)) [] := by
  simp only [sizeI] at h
  refine Ct_bodyS tok Tryz.func256 rfl 143 (by kernel_rfl) (by kernel_rfl) fun X hX => ?_
  refine jq [1] ?_
  refine W_rseqK [1, 3] (jt 4 (k:=(jm 4 7 [1, 11] (p:=fun b1_4 => by (try simp at b1_4); exact (jh hX (by simp [-atD_lt, -atL_lt]; rfl))) (q:=fun b1_4 => by (try simp at b1_4); exact (jh hX (by simp [-atD_lt, -atL_lt]; rfl))) (k:=(jt 1 (k:=(jm 4 12 [1, 16] (p:=fun b1_9 => by (try simp at b1_9); exact (jh hX (by simp [-atD_lt, -atL_lt]; rfl))) (q:=fun b1_9 => by (try simp at b1_9); exact (jh hX (by simp [-atD_lt, -atL_lt]; rfl))) (k:=jr)))))))) ?_
  refine W_seq (W_rseqK [1, 3, 19] (jt 2 (k:=(jc [] (c:=(by apply ct_impl_OpForm <;> first | assumption | omega | (simp at *; omega) | simp_all)) (a:=cb_impl_OpForm) (k:=jf)))) ?_)
  refine W_block (jq [1, 3, 19, 20] ?_)
  refine jd (fun h3 => ?_) (fun h3 => ?_)
  · try simp at h3
    refine W_rseqK [2] (jt 2 (k:=(jm 4 23 [27] (p:=fun b4_2 => by (try simp at b4_2); exact (jh hX (by simp [-atD_lt, -atL_lt]; rfl))) (q:=fun b4_2 => by (try simp at b4_2); exact (jh hX (by simp [-atD_lt, -atL_lt]; rfl))) (k:=jr)))) ?_
    refine W_ret (je0 ?_)
    (try simp_all [insRight, insEmpty, isInt, init]) <;> grind
  · try simp at h3
    refine jq [1, 3, 19, 28] ?_
    refine jd (fun h5 => ?_) (fun h5 => ?_)
    · try simp at h5
      refine W_rseqK [2] (jt 2 (k:=(jm 4 31 [35] (p:=fun b6_2 => by (try simp at b6_2); exact (js hX 2 (by simp [-atD_lt, -atL_lt]; rfl) (Runs.call [] rfl (by simp) rfl (by simp [-atD_lt, -atL_lt]; rfl) (by simp; rfl) (by apply ct_impl_isInt <;> first | assumption | omega | (simp at *; omega) | simp_all) cb_impl_isInt (by simp) (by simp) (by simp [-atD_lt, -atL_lt]; rfl) (jh hX (by simp [-atD_lt, -atL_lt]; rfl))))) (q:=fun b6_2 => by (try simp at b6_2); exact (jh hX (by simp [-atD_lt, -atL_lt]; rfl))) (k:=jr)))) ?_
      refine W_ret (je0 ?_)
      (try simp_all [insRight, insEmpty, isInt, init]) <;> grind
    · try simp at h5
      refine jq [1, 3, 19, 36] ?_
      refine jd (fun h7 => ?_) (fun h7 => ?_)
      · try simp at h7
        refine W_rseqK [2] (jt 2 (k:=(jm 4 39 [43] (p:=fun b8_2 => by (try simp at b8_2); exact (js hX 2 (by simp [-atD_lt, -atL_lt]; rfl) (Runs.call [] rfl (by simp) rfl (by simp [-atD_lt, -atL_lt]; rfl) (by simp; rfl) (by apply ct_impl_within <;> first | assumption | omega | (simp at *; omega) | simp_all) cb_impl_within (by simp) (by simp) (by simp [-atD_lt, -atL_lt]; rfl) (jh hX (by simp [-atD_lt, -atL_lt]; rfl))))) (q:=fun b8_2 => by (try simp at b8_2); exact (jh hX (by simp [-atD_lt, -atL_lt]; rfl))) (k:=jr)))) ?_
        refine W_ret (je0 ?_)
        (try simp_all [insRight, insEmpty, isInt, init]) <;> grind
      · try simp at h7
        refine jq [1, 3, 19, 44] ?_
        refine jd (fun h9 => ?_) (fun h9 => ?_)
        · try simp at h9
          refine W_rseqK [2] (jt 2 (k:=(jm 4 47 [51] (p:=fun b10_2 => by (try simp at b10_2); exact (js hX 2 (by simp [-atD_lt, -atL_lt]; rfl) (Runs.call [] rfl (by simp) rfl (by simp [-atD_lt, -atL_lt]; rfl) (by simp; rfl) (by apply ct_impl_within <;> first | assumption | omega | (simp at *; omega) | simp_all) cb_impl_within (by simp) (by simp) (by simp [-atD_lt, -atL_lt]; rfl) (jh hX (by simp [-atD_lt, -atL_lt]; rfl))))) (q:=fun b10_2 => by (try simp at b10_2); exact (jh hX (by simp [-atD_lt, -atL_lt]; rfl))) (k:=jr)))) ?_
          refine W_ret (je0 ?_)
          (try simp_all [insRight, insEmpty, isInt, init]) <;> grind
        · try simp at h9
          refine jq [1, 19, 52] ?_
          refine jd (fun h11 => ?_) (fun h11 => ?_)
          · try simp at h11
            refine W_rseqK [2] (jt 4 (k:=(jm 4 57 [1, 61] (p:=fun b12_4 => by (try simp at b12_4); exact (js hX 2 (by simp [-atD_lt, -atL_lt]; rfl) (Runs.call [] rfl (by simp) rfl (by simp [-atD_lt, -atL_lt]; rfl) (by simp; rfl) (by apply ct_impl_NameRight <;> first | assumption | omega | (simp at *; omega) | simp_all) cb_impl_NameRight (by simp) (by simp) (by simp [-atD_lt, -atL_lt]; rfl) (jh hX (by simp [-atD_lt, -atL_lt]; rfl))))) (q:=fun b12_4 => by (try simp at b12_4); exact (jh hX (by simp [-atD_lt, -atL_lt]; rfl))) (k:=(jt 1 (k:=(jm 4 62 [1, 66] (p:=fun b12_9 => by (try simp at b12_9); exact (jh hX (by simp [-atD_lt, -atL_lt]; rfl))) (q:=fun b12_9 => by (try simp at b12_9); exact (jh hX (by simp [-atD_lt, -atL_lt]; rfl))) (k:=(jt 1 (k:=(jm 4 67 [71] (p:=fun b12_14 => by (try simp at b12_14); exact (jh hX (by simp [-atD_lt, -atL_lt]; rfl))) (q:=fun b12_14 => by (try simp at b12_14); exact (jh hX (by simp [-atD_lt, -atL_lt]; rfl))) (k:=jr)))))))))))) ?_
            refine W_ret (je0 ?_)
            (try simp_all [insRight, insEmpty, isInt, init]) <;> grind
          · try simp at h11
            refine jq [1, 19, 72] ?_
            refine jd (fun h13 => ?_) (fun h13 => ?_)
            · try simp at h13
              refine W_rseqK [2] (jt 4 (k:=(jm 4 77 [1, 81] (p:=fun b14_4 => by (try simp at b14_4); exact (jh hX (by simp [-atD_lt, -atL_lt]; rfl))) (q:=fun b14_4 => by (try simp at b14_4); exact (jh hX (by simp [-atD_lt, -atL_lt]; rfl))) (k:=(jt 1 (k:=(jm 4 82 [1, 86] (p:=fun b14_9 => by (try simp at b14_9); exact (jh hX (by simp [-atD_lt, -atL_lt]; rfl))) (q:=fun b14_9 => by (try simp at b14_9); exact (jh hX (by simp [-atD_lt, -atL_lt]; rfl))) (k:=(jt 1 (k:=(jm 15 87 [102] (p:=fun b14_14 => by (try simp at b14_14); exact (js hX 4 (by simp [-atD_lt, -atL_lt]; rfl) (jm 10 91 [87, 101] (p:=fun b14_18 => by (try simp at b14_18); exact (jh hX (by simp [-atD_lt, -atL_lt]; rfl))) (q:=fun b14_18 => by (try simp at b14_18); exact (js hX 2 (by simp [-atD_lt, -atL_lt]; rfl) (Runs.call [] rfl (by simp) rfl (by simp [-atD_lt, -atL_lt]; rfl) (by simp; rfl) (by apply ct_impl_typeRight <;> first | assumption | omega | (simp at *; omega) | simp_all) cb_impl_typeRight (by simp) (by simp) (by simp [-atD_lt, -atL_lt]; rfl) (js hX 1 (by simp [-atD_lt, -atL_lt]; rfl) (jm 5 95 [87, 91, 100] (p:=fun b14_22 => by (try simp at b14_22); (have hlt := (len_of_typeRight b14_22).1; have hat := isAt_lt (n := 76) hlt); exact (jh hX (by simp [-atD_lt, -atL_lt, hlt]; rfl))) (q:=fun b14_22 => by (try simp at b14_22); exact (jh hX (by simp [-atD_lt, -atL_lt]; rfl))) (k:=(jh hX (by simp [-atD_lt, -atL_lt]; rfl)))))))) (k:=(jh hX (by simp [-atD_lt, -atL_lt]; rfl)))))) (q:=fun b14_14 => by (try simp at b14_14); exact (jh hX (by simp [-atD_lt, -atL_lt]; rfl))) (k:=jr)))))))))))) ?_
              refine W_ret (je0 ?_)
              have hp := plainType x.desc
              have hq : typeRight x.desc = true → isAt x.desc 0 76 = decide ((atD x.desc 0).toNat = 76) := fun h => by have hlt := (len_of_typeRight h).1; rw [isAt_lt hlt, atD_lt hlt]; simp
              (try simp_all [insRight, insEmpty]) <;> grind
            · try simp at h13
              refine jq [1, 19, 103] ?_
              refine jd (fun h15 => ?_) (fun h15 => ?_)
              · try simp at h15
                refine W_rseqK [2] (jt 4 (k:=(jm 4 108 [1, 112] (p:=fun b16_4 => by (try simp at b16_4); exact (js hX 2 (by simp [-atD_lt, -atL_lt]; rfl) (Runs.call [] rfl (by simp) rfl (by simp [-atD_lt, -atL_lt]; rfl) (by simp; rfl) (by apply ct_impl_NameRight <;> first | assumption | omega | (simp at *; omega) | simp_all) cb_impl_NameRight (by simp) (by simp) (by simp [-atD_lt, -atL_lt]; rfl) (jh hX (by simp [-atD_lt, -atL_lt]; rfl))))) (q:=fun b16_4 => by (try simp at b16_4); exact (jh hX (by simp [-atD_lt, -atL_lt]; rfl))) (k:=(jt 1 (k:=(jm 4 113 [1, 117] (p:=fun b16_9 => by (try simp at b16_9); exact (js hX 2 (by simp [-atD_lt, -atL_lt]; rfl) (Runs.call [] rfl (by simp) rfl (by simp [-atD_lt, -atL_lt]; rfl) (by simp; rfl) (by apply ct_impl_NameRight <;> first | assumption | omega | (simp at *; omega) | simp_all) cb_impl_NameRight (by simp) (by simp) (by simp [-atD_lt, -atL_lt]; rfl) (jh hX (by simp [-atD_lt, -atL_lt]; rfl))))) (q:=fun b16_9 => by (try simp at b16_9); exact (jh hX (by simp [-atD_lt, -atL_lt]; rfl))) (k:=(jt 1 (k:=(jm 4 118 [122] (p:=fun b16_14 => by (try simp at b16_14); exact (js hX 2 (by simp [-atD_lt, -atL_lt]; rfl) (Runs.call [] rfl (by simp) rfl (by simp [-atD_lt, -atL_lt]; rfl) (by simp; rfl) (by apply ct_impl_typeRight <;> first | assumption | omega | (simp at *; omega) | simp_all) cb_impl_typeRight (by simp) (by simp) (by simp [-atD_lt, -atL_lt]; rfl) (jh hX (by simp [-atD_lt, -atL_lt]; rfl))))) (q:=fun b16_14 => by (try simp at b16_14); exact (jh hX (by simp [-atD_lt, -atL_lt]; rfl))) (k:=jr)))))))))))) ?_
                refine W_ret (je0 ?_)
                (try simp_all [insRight, insEmpty, isInt, init]) <;> grind
              · try simp at h15
                refine jq [1, 123] ?_
                refine jd (fun h17 => ?_) (fun h17 => ?_)
                · try simp at h17
                  refine W_rseqK [2] (jt 4 (k:=(jm 4 128 [1, 132] (p:=fun b18_4 => by (try simp at b18_4); exact (js hX 2 (by simp [-atD_lt, -atL_lt]; rfl) (Runs.call [] rfl (by simp) rfl (by simp [-atD_lt, -atL_lt]; rfl) (by simp; rfl) (by apply ct_impl_NameRight <;> first | assumption | omega | (simp at *; omega) | simp_all) cb_impl_NameRight (by simp) (by simp) (by simp [-atD_lt, -atL_lt]; rfl) (jh hX (by simp [-atD_lt, -atL_lt]; rfl))))) (q:=fun b18_4 => by (try simp at b18_4); exact (jh hX (by simp [-atD_lt, -atL_lt]; rfl))) (k:=(jt 1 (k:=(jm 4 133 [1, 137] (p:=fun b18_9 => by (try simp at b18_9); exact (js hX 2 (by simp [-atD_lt, -atL_lt]; rfl) (Runs.call [] rfl (by simp) rfl (by simp [-atD_lt, -atL_lt]; rfl) (by simp; rfl) (by apply ct_impl_isMethodName <;> first | assumption | omega | (simp at *; omega) | simp_all) cb_impl_isMethodName (by simp) (by simp) (by simp [-atD_lt, -atL_lt]; rfl) (jh hX (by simp [-atD_lt, -atL_lt]; rfl))))) (q:=fun b18_9 => by (try simp at b18_9); exact (jh hX (by simp [-atD_lt, -atL_lt]; rfl))) (k:=(jt 1 (k:=(jm 4 138 [142] (p:=fun b18_14 => by (try simp at b18_14); exact (js hX 2 (by simp [-atD_lt, -atL_lt]; rfl) (Runs.call [] rfl (by simp) rfl (by simp [-atD_lt, -atL_lt]; rfl) (by simp; rfl) (by apply ct_impl_isDesc <;> first | assumption | omega | (simp at *; omega) | simp_all) cb_impl_isDesc (by simp) (by simp) (by simp [-atD_lt, -atL_lt]; rfl) (jh hX (by simp [-atD_lt, -atL_lt]; rfl))))) (q:=fun b18_14 => by (try simp at b18_14); exact (jh hX (by simp [-atD_lt, -atL_lt]; rfl))) (k:=jr)))))))))))) ?_
                  refine W_ret (je0 ?_)
                  (try simp_all [insRight, insEmpty, isInt, init]) <;> grind
                · try simp at h17
                  refine W_skip (jq [2] ?_)
                  refine W_ret (je0 ?_)
                  (try simp_all [insRight, insEmpty, isInt, init]) <;> grind
end Go.Proofs
namespace Go.Proofs
open Go Go.Ev


theorem cb_impl_codeRight_1 : Callable Tryz.prog 259 := ⟨_, Tryz.func259, by kernel_rfl, by kernel_rfl⟩
theorem ct_impl_codeRight_1 {x : Hdl} {n : Int} (h : x.cls.length ≤ 1099511627776) (hn0 : 0 ≤ n) (hn : n ≤ 1099511627776) : Ct Tryz.prog 259 [eH x, .fp [.int .i64 n]] [] (.bool (!hdlRight n x)) [] := by
  refine Ct_bodyS tok Tryz.func259 rfl 34 (by kernel_rfl) (by kernel_rfl) fun X hX => ?_
  refine jq [1, 2] ?_
  refine W_rseqK [3] (jt 4 (k:=(jm 6 7 [1, 2, 13] (p:=fun b1_4 => by (try simp at b1_4); exact (jh hX (by simp [-atD_lt, -atL_lt]; rfl))) (q:=fun b1_4 => by (try simp at b1_4); exact (jh hX (by simp [-atD_lt, -atL_lt, b1_4]; rfl))) (k:=(jt 1 (k:=(jm 5 14 [1, 2, 19] (p:=fun b1_11 => by (try simp at b1_11); exact (jh hX (by simp [-atD_lt, -atL_lt]; rfl))) (q:=fun b1_11 => by (try simp at b1_11); exact (jh hX (by simp [-atD_lt, -atL_lt, b1_11]; rfl))) (k:=(jt 1 (k:=(jm 7 20 [2, 27] (p:=fun b1_17 => by (try simp at b1_17); exact (jh hX (by simp [-atD_lt, -atL_lt]; rfl))) (q:=fun b1_17 => by (try simp at b1_17); exact (js hX 4 (by simp [-atD_lt, -atL_lt, b1_17]; (try (simp (disch := omega) only [wrap_i64]; (try simp [-atD_lt, -atL_lt, b1_17]))); rfl) (Runs.call [] rfl (by simp) rfl (by simp [-atD_lt, -atL_lt]; rfl) (by simp; rfl) (by apply ct_impl_within <;> first | assumption | omega | (simp at *; omega) | simp_all) cb_impl_within (by simp) (by simp) (by simp [-atD_lt, -atL_lt]; rfl) (jh hX (by simp [-atD_lt, -atL_lt]; rfl))))) (k:=(jt 1 (k:=(jm 5 28 [33] (p:=fun b1_25 => by (try simp at b1_25); exact (jh hX (by simp [-atD_lt, -atL_lt]; rfl))) (q:=fun b1_25 => by (try simp at b1_25); exact (js hX 2 (by simp [-atD_lt, -atL_lt, b1_25]; rfl) (Runs.call [] rfl (by simp) rfl (by simp [-atD_lt, -atL_lt]; rfl) (by simp; rfl) (by apply ct_impl_NameRight <;> first | assumption | omega | (simp at *; omega) | simp_all) cb_impl_NameRight (by simp) (by simp) (by simp [-atD_lt, -atL_lt]; rfl) (jh hX (by simp [-atD_lt, -atL_lt]; rfl))))) (k:=jr)))))))))))))))) ?_
  refine W_ret (je0 ?_)
  (try simp_all [hdlRight]) <;> grind
end Go.Proofs
