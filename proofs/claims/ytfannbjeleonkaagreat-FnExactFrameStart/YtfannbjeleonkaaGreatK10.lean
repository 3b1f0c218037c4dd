/- Part 11 of what the proofs lean on: what the functions of the program and of the reference compute. Conditions: none. -/
import Derived.Test.YtfannbjeleonkaaGreatK09
import Derived.Test.YtfannbjeleonkaaGreatRows
set_option linter.all false
set_option linter.unusedVariables false
set_option linter.unusedSimpArgs false
set_option maxHeartbeats 2000000
set_option maxRecDepth 100000
namespace Go.Proofs
open Go Go.Ev


theorem cb_laws_FnExactFrameStart : Callable Tryz.prog 12 := ⟨_, Tryz.func12, by kernel_rfl, by kernel_rfl⟩
theorem ct_laws_FnExactFrameStart {l : List Cls} {n1 : Int} {n2 : Int} (hl : l.length < 4611686018427387904) (bl : ∀ y ∈ l, bigC y) (hn1 : -9223372036854775808 ≤ n1 ∧ n1 < 9223372036854775808) (hn2 : -9223372036854775808 ≤ n2 ∧ n2 < 9223372036854775808) : Ct Tryz.prog 12 [.lst false 6 (l.map eC), .int .i64 n1, .int .i64 n2] [] (.bool true) [] := by
  refine Ct_bodyS tok Tryz.func12 rfl 79 (by kernel_rfl) (by kernel_rfl) fun X hX => ?_
  refine jq [0, 1, 2] ?_
  refine jq [0, 1, 2, 7] ?_
  refine W_rseqK [0, 1, 2, 7] (jt 2 (k:=(jc [] (c:=(by apply ct_laws_szClassS <;> first | assumption | omega | (simp <;> omega))) (a:=cb_laws_szClassS) (k:=jr)))) ?_
  refine W_seq (jq [0, 1, 2, 19] ?_)
  refine jd (fun h3 => ?_) (fun h3 => ?_)
  · try simp at h3
    refine jq [6] ?_
    refine W_ret (je (by simp [h3]; rfl) ?_)
    first | omega | (simp_all; done) | (simp_all <;> omega)
  · try simp at h3
    have k3 := sub_ok h3
    have hsL : sizeL l ≤ 1048576 := by have := k3.1; unfold sizeL; omega
    have hb := bigFo_start l n1 n2
    obtain ⟨u5, u6⟩ := frmStartW_len l n1 n2
    have hc : cntCs l ≤ 7340032 := by have := cntCs_size l; omega
    refine W_skip (W_rseqK [0, 1, 2, 8] (jt 1 (k:=(jF (c:=(by apply ct_laws_toClassS <;> first | assumption | omega | exact fun y hy => Nat.le_trans (mem_sum hy) (by omega))) (a:=cb_laws_toClassS) (k:=(jt 2 (k:=(jF (c:=(by apply ct_spec_FrameStart <;> first | assumption | omega | (simp <;> omega))) (a:=cb_spec_FrameStart) (k:=(jh hX (by simp [h3]; rfl)))))))))) ?_)
    refine W_rseqK [0, 1, 2, 8, 9] (jt 1 (k:=(jc [] (c:=(by apply ct_laws_toClassS <;> first | assumption | omega | exact fun y hy => Nat.le_trans (mem_sum hy) (by omega))) (a:=cb_laws_toClassS) (k:=jr)))) ?_
    refine W_rseqK [0, 1, 2, 8, 9, 10] (jt 3 (k:=(jB (c:=(by apply ct_impl_FrameStart <;> first | assumption | omega | (simp <;> omega))) (a:=cb_impl_FrameStart) (k:=(jh hX (by simp [h3]; rfl)))))) ?_
    refine W_seq (W_rseqK [0, 1, 2, 8, 9, 10, 34] (js hX 2 (by simp [h3]; rfl) (jB (c:=(by apply ct_laws_eqFrameOut <;> first | assumption | omega | (simp <;> omega))) (a:=cb_laws_eqFrameOut) (k:=jr))) ?_)
    refine jd (fun h8 => ?_) (fun h8 => ?_)
    · try simp at h8
      all_goals
        refine jq [6] ?_
        refine W_ret (je (by simp [h3]; rfl) ?_)
        first | omega | (simp_all; done) | (simp_all <;> omega)
    · try simp at h8
      all_goals
        refine W_skip (W_seq (W_rseqK [0, 1, 2, 8, 9, 10, 39] (jt 2 (k:=(jF (c:=(by apply ct_laws_toClassS <;> first | assumption | omega | exact fun y hy => Nat.le_trans (mem_sum hy) (by omega))) (a:=cb_laws_toClassS) (k:=(jB (c:=(by apply ct_laws_eqClassS <;> first | assumption | omega | (simp <;> omega))) (a:=cb_laws_eqClassS) (k:=jr)))))) ?_))
        refine jd (fun h10 => ?_) (fun h10 => ?_)
        · try simp at h10
          all_goals
            refine jq [6] ?_
            refine W_ret (je (by simp [h3]; rfl) ?_)
            first | omega | (simp_all; done) | (simp_all <;> omega)
        · try simp at h10
          all_goals
            refine W_skip (jq [0, 1, 2, 8, 9, 10, 11] ?_)
            refine W_rseqK [0, 1, 2, 8, 10, 11] (jt 2 (k:=(jc [1] (c:=(by (try simp only [mapL_T, mapL_F, mapL_I, mapL_H, mapL_M, mapL_C]); apply ct_laws_markClassS (k := 1) <;> first | assumption | omega | (simp <;> omega))) (a:=cb_laws_markClassS) (k:=jr)))) ?_
            refine W_seq ?_
            first | (refine W_rseqK [0, 1, 2, 8, 10, 50] (js hX 5 (by simp [h3]; rfl) (jB (c:=(by apply ct_laws_eqFrameOut <;> first | assumption | omega | (simp <;> omega))) (a:=cb_laws_eqFrameOut) (k:=jr))) ?_)
            refine jd (fun h14 => ?_) (fun h14 => ?_)
            · try simp at h14
              all_goals
                refine jq [6] ?_
                refine W_ret (je (by simp [h3, h14]; rfl) ?_)
                first | omega | (simp_all; done) | (simp_all <;> omega)
            · try simp at h14
              all_goals
                refine W_skip (jq [0, 1, 2, 8, 10, 12] ?_)
                refine W_rseqK [0, 1, 2, 8, 10, 12] (js hX 2 (by simp [h3, h14]; rfl) (jc [2, 3] (c:=(by (try simp only [mapL_T, mapL_F, mapL_I, mapL_H, mapL_M, mapL_C]); apply ct_laws_markFrameOut (k := 1) <;> first | assumption | omega | (simp <;> omega))) (a:=cb_laws_markFrameOut) (k:=jr))) ?_
                refine jq [0, 1, 2, 8, 10, 12, 13] ?_
                refine W_rseqK [0, 1, 2, 8, 10, 12, 13] (js hX 2 (by simp [h3, h14]; rfl) (jB (c:=(by apply ct_laws_heldFrameOut (k := 1) <;> first | assumption | omega | (simp <;> omega))) (a:=cb_laws_heldFrameOut) (k:=jr))) ?_
                refine W_seq (jq [0, 1, 2, 8, 10, 12, 13, 58] ?_)
                refine jd (fun h20 => ?_) (fun h20 => ?_)
                · try simp at h20
                  all_goals
                    refine jq [6] ?_
                    refine W_ret (je (by simp [h3, h14, h20]; rfl) ?_)
                    first | omega | (simp_all; done) | (simp_all <;> omega)
                · try simp at h20
                  all_goals
                    refine W_skip (W_seq (jq [0, 1, 2, 8, 10, 12, 61] ?_))
                    refine jd (fun h22 => ?_) (fun h22 => ?_)
                    · try simp at h22
                      all_goals
                        refine jq [6] ?_
                        refine W_ret (je (by simp [h3, h14, h20]; rfl) ?_)
                        first | omega | (simp_all; done) | (simp_all <;> omega)
                    · try simp at h22
                      all_goals
                        refine W_skip (W_rseqK [8, 10, 12, 14] (jt 1 (k:=(jF (c:=(by apply ct_laws_toClassS <;> first | assumption | omega | exact fun y hy => Nat.le_trans (mem_sum hy) (by omega))) (a:=cb_laws_toClassS) (k:=(jt 2 (k:=(jF (c:=(by apply ct_impl_FrameStart <;> first | assumption | omega | (simp <;> omega))) (a:=cb_impl_FrameStart) (k:=(jh hX (by simp [h3, h14, h20]; rfl)))))))))) ?_)
                        refine W_seq (W_rseqK [10, 12, 70] (js hX 2 (by simp [h3, h14, h20]; rfl) (jc [] (c:=(by apply ct_laws_eqFrameOut <;> first | assumption | omega | (simp <;> omega))) (a:=cb_laws_eqFrameOut) (k:=jr))) ?_)
                        refine jd (fun h25 => ?_) (fun h25 => ?_)
                        · try simp at h25
                          all_goals
                            refine jq [6] ?_
                            refine W_ret (je (by simp [h3, h14, h20]; rfl) ?_)
                            first | omega | (simp_all; done) | (simp_all <;> omega)
                        · try simp at h25
                          all_goals
                            refine W_skip (jq [10, 12, 13] ?_)
                            refine W_rseqK [12, 13] (js hX 2 (by simp [h3, h14, h20]; rfl) (jB (c:=(by apply ct_laws_heldFrameOut (k := 1) <;> first | assumption | omega | (simp <;> omega))) (a:=cb_laws_heldFrameOut) (k:=jr))) ?_
                            refine W_seq (jq [12, 13, 75] ?_)
                            refine jd (fun h29 => ?_) (fun h29 => ?_)
                            · try simp at h29
                              all_goals
                                refine jq [6] ?_
                                refine W_ret (je (by simp [h3, h14, h20, h29]; rfl) ?_)
                                first | omega | (simp_all; done) | (simp_all <;> omega)
                            · try simp at h29
                              all_goals
                                refine W_skip (W_seq (jq [78] ?_))
                                refine jd (fun h31 => ?_) (fun h31 => ?_)
                                · try simp at h31
                                  all_goals
                                    refine jq [6] ?_
                                    refine W_ret (je (by simp [h3, h14, h20, h29]; rfl) ?_)
                                    first | omega | (simp_all; done) | (simp_all <;> omega)
                                · try simp at h31
                                  all_goals
                                    refine W_skip (jq [6] ?_)
                                    refine W_ret (je (by simp [h3, h14, h20, h29]; rfl) ?_)
                                    first | omega | (simp_all; done) | (simp_all <;> omega)
end Go.Proofs
namespace Go.Proofs
open Go Go.Ev

abbrev tcF : List Tc := [.str, .str, .bool]
abbrev tcI : List Tc := [.int .i64, .int .i64, .str, .str, .str]
abbrev tcH : List Tc := [.int .i64, .int .i64, .int .i64, .str]
abbrev tcM : List Tc := [.str, .str, .bool, .bool, .bool, .int .i64, .int .i64, .lst false tcI, .lst false tcH]
abbrev tcC : List Tc := [.str, .str, .bool, .bool, .lst false tcF, .lst false tcM]

theorem dec_list {α : Type} {enc : α → V} {Q : α → Prop} : ∀ {xs : List V}, (∀ x ∈ xs, ∃ a, x = enc a ∧ Q a) → ∃ l : List α, xs = l.map enc ∧ ∀ a ∈ l, Q a
  | [], _ => ⟨[], rfl, fun _ h => by cases h⟩
  | x :: xs, h => by
    obtain ⟨a, rfl, ha⟩ := h x (by simp)
    obtain ⟨l, rfl, hl⟩ := dec_list (enc := enc) (Q := Q) (xs := xs) fun y hy => h y (by simp [hy])
    exact ⟨a :: l, rfl, fun b hb => by
      rcases List.mem_cons.1 hb with rfl | hb
      · exact ha
      · exact hl b hb⟩

theorem okL_cons {c : Tc} {cs : List Tc} {vs : List V} (h : okL (c :: cs) vs) : ∃ v ws, vs = v :: ws ∧ okC c v ∧ okL cs ws := by
  cases vs with
  | nil => simp [okL] at h
  | cons v ws => exact ⟨v, ws, rfl, h⟩
theorem okL_nil {vs : List V} (h : okL [] vs) : vs = [] := by
  cases vs with
  | nil => rfl
  | cons v ws => simp [okL] at h
theorem okC_str {v : V} (h : okC .str v) : ∃ l, v = .str l ∧ l.length ≤ 140737488351232 := h
theorem okC_bool {v : V} (h : okC .bool v) : ∃ b, v = .bool b := h
theorem okC_int {v : V} (h : okC (.int .i64) v) : ∃ n, v = .int .i64 n ∧ -9223372036854775808 ≤ n ∧ n < 9223372036854775808 := by
  obtain ⟨n, rfl, hn⟩ := h
  refine ⟨n, rfl, ?_⟩
  simp [Lit.wf, IntKind.min, IntKind.max, IntKind.signed, IntKind.bits] at hn
  omega
theorem okC_lst {α : Type} {enc : α → V} {Q : α → Prop} {cs : List Tc} {v : V} (h : okC (.lst false cs) v) (hd : ∀ vs, okL cs vs → ∃ a, V.agg vs = enc a ∧ Q a) :
    ∃ l : List α, v = .lst false cs.length (l.map enc) ∧ l.length ≤ 140737488351232 ∧ ∀ a ∈ l, Q a := by
  obtain ⟨xs, rfl, hl, hx⟩ := h
  obtain ⟨l, rfl, hq⟩ := dec_list (enc := enc) (Q := Q) (xs := xs) fun x hx' => by
    have := hx x hx'
    simp only [Bool.false_eq_true, if_false] at this
    obtain ⟨vs, rfl, hv⟩ := this
    exact hd vs hv
  exact ⟨l, rfl, by rw [List.length_map] at hl; exact hl, hq⟩

theorem decF {vs : List V} (h : okL tcF vs) : ∃ x : Fld, V.agg vs = eF x ∧ bigF x := by
  obtain ⟨_, _, rfl, h0, h⟩ := okL_cons h
  obtain ⟨_, _, rfl, h1, h⟩ := okL_cons h
  obtain ⟨_, _, rfl, h2, h⟩ := okL_cons h
  obtain rfl := okL_nil h
  obtain ⟨a, rfl, ha⟩ := okC_str h0
  obtain ⟨b, rfl, hb⟩ := okC_str h1
  obtain ⟨c, rfl⟩ := okC_bool h2
  exact ⟨⟨a, b, c⟩, rfl, by simp only [bigF]; omega⟩

theorem decI {vs : List V} (h : okL tcI vs) : ∃ x : Ins, V.agg vs = eI x ∧ bigI x := by
  obtain ⟨_, _, rfl, h0, h⟩ := okL_cons h
  obtain ⟨_, _, rfl, h1, h⟩ := okL_cons h
  obtain ⟨_, _, rfl, h2, h⟩ := okL_cons h
  obtain ⟨_, _, rfl, h3, h⟩ := okL_cons h
  obtain ⟨_, _, rfl, h4, h⟩ := okL_cons h
  obtain rfl := okL_nil h
  obtain ⟨a, rfl, ha⟩ := okC_int h0
  obtain ⟨b, rfl, hb⟩ := okC_int h1
  obtain ⟨c, rfl, hc⟩ := okC_str h2
  obtain ⟨d, rfl, hd⟩ := okC_str h3
  obtain ⟨e, rfl, he⟩ := okC_str h4
  exact ⟨⟨a, b, c, d, e⟩, rfl, by simp only [bigI]; omega⟩

theorem decH {vs : List V} (h : okL tcH vs) : ∃ x : Hdl, V.agg vs = eH x ∧ bigH x := by
  obtain ⟨_, _, rfl, h0, h⟩ := okL_cons h
  obtain ⟨_, _, rfl, h1, h⟩ := okL_cons h
  obtain ⟨_, _, rfl, h2, h⟩ := okL_cons h
  obtain ⟨_, _, rfl, h3, h⟩ := okL_cons h
  obtain rfl := okL_nil h
  obtain ⟨a, rfl, ha⟩ := okC_int h0
  obtain ⟨b, rfl, hb⟩ := okC_int h1
  obtain ⟨c, rfl, hc⟩ := okC_int h2
  obtain ⟨d, rfl, hd⟩ := okC_str h3
  exact ⟨⟨a, b, c, d⟩, rfl, by simp only [bigH]; omega⟩

theorem decM {vs : List V} (h : okL tcM vs) : ∃ x : Mth, V.agg vs = eM x ∧ bigM x := by
  obtain ⟨_, _, rfl, h0, h⟩ := okL_cons h
  obtain ⟨_, _, rfl, h1, h⟩ := okL_cons h
  obtain ⟨_, _, rfl, h2, h⟩ := okL_cons h
  obtain ⟨_, _, rfl, h3, h⟩ := okL_cons h
  obtain ⟨_, _, rfl, h4, h⟩ := okL_cons h
  obtain ⟨_, _, rfl, h5, h⟩ := okL_cons h
  obtain ⟨_, _, rfl, h6, h⟩ := okL_cons h
  obtain ⟨_, _, rfl, h7, h⟩ := okL_cons h
  obtain ⟨_, _, rfl, h8, h⟩ := okL_cons h
  obtain rfl := okL_nil h
  obtain ⟨a, rfl, ha⟩ := okC_str h0
  obtain ⟨b, rfl, hb⟩ := okC_str h1
  obtain ⟨c, rfl⟩ := okC_bool h2
  obtain ⟨d, rfl⟩ := okC_bool h3
  obtain ⟨e, rfl⟩ := okC_bool h4
  obtain ⟨f, rfl, _⟩ := okC_int h5
  obtain ⟨g, rfl, _⟩ := okC_int h6
  obtain ⟨i, rfl, hi, hi2⟩ := okC_lst h7 fun vs => decI
  obtain ⟨j, rfl, hj, hj2⟩ := okC_lst h8 fun vs => decH
  exact ⟨⟨a, b, c, d, e, f, g, i, j⟩, rfl, by simp only [bigM]; exact ⟨by omega, by omega, by omega, hi2, by omega, hj2⟩⟩

theorem decC {vs : List V} (h : okL tcC vs) : ∃ x : Cls, V.agg vs = eC x ∧ bigC x := by
  obtain ⟨_, _, rfl, h0, h⟩ := okL_cons h
  obtain ⟨_, _, rfl, h1, h⟩ := okL_cons h
  obtain ⟨_, _, rfl, h2, h⟩ := okL_cons h
  obtain ⟨_, _, rfl, h3, h⟩ := okL_cons h
  obtain ⟨_, _, rfl, h4, h⟩ := okL_cons h
  obtain ⟨_, _, rfl, h5, h⟩ := okL_cons h
  obtain rfl := okL_nil h
  obtain ⟨a, rfl, ha⟩ := okC_str h0
  obtain ⟨b, rfl, hb⟩ := okC_str h1
  obtain ⟨c, rfl⟩ := okC_bool h2
  obtain ⟨d, rfl⟩ := okC_bool h3
  obtain ⟨i, rfl, hi, hi2⟩ := okC_lst h4 fun vs => decF
  obtain ⟨j, rfl, hj, hj2⟩ := okC_lst h5 fun vs => decM
  exact ⟨⟨a, b, c, d, i, j⟩, rfl, by simp only [bigC]; exact ⟨by omega, by omega, by omega, hi2, by omega, hj2⟩⟩

/-- arguments, one by one -/
theorem okA_cons {x : Bool × List Tc} {r : List (Bool × List Tc)} {vs : List V} (h : okA (x :: r) vs) : ∃ v ws, vs = v :: ws ∧ (if x.1 = true then okL x.2 [v] else ∃ us, v = .agg us ∧ okL x.2 us) ∧ okA r ws := by
  cases vs with
  | nil => simp [okA] at h
  | cons v ws => exact ⟨v, ws, rfl, h⟩
theorem okA_nil {vs : List V} (h : okA [] vs) : vs = [] := by
  cases vs with
  | nil => rfl
  | cons v ws => simp [okA] at h
abbrev aC : Bool × List Tc := (true, [.lst false tcC])
abbrev aS : Bool × List Tc := (true, [.str])
theorem okA_C {r : List (Bool × List Tc)} {vs : List V} (h : okA (aC :: r) vs) : ∃ (l : List Cls) (ws : List V), vs = .lst false 6 (l.map eC) :: ws ∧ l.length < 4611686018427387904 ∧ (∀ y ∈ l, bigC y) ∧ okA r ws := by
  obtain ⟨v, ws, rfl, h1, h2⟩ := okA_cons h
  simp only [if_true] at h1
  obtain ⟨l, rfl, hl, hq⟩ := okC_lst h1.1 fun vs => decC
  exact ⟨l, ws, rfl, by omega, hq, h2⟩
theorem okA_S {r : List (Bool × List Tc)} {vs : List V} (h : okA (aS :: r) vs) : ∃ (l : Str) (ws : List V), vs = .str l :: ws ∧ l.length < 4611686018427387904 ∧ okA r ws := by
  obtain ⟨v, ws, rfl, h1, h2⟩ := okA_cons h
  simp only [if_true] at h1
  obtain ⟨l, rfl, hl⟩ := okC_str h1.1
  exact ⟨l, ws, rfl, by omega, h2⟩
end Go.Proofs
namespace Go.Proofs
open Go Go.Ev
abbrev tcT : List Tc := [.int .i64, .str, .int .i64]
theorem decT {vs : List V} (h : okL tcT vs) : ∃ x : Typ, V.agg vs = eT x ∧ bigT x := by
  obtain ⟨_, _, rfl, h0, h⟩ := okL_cons h
  obtain ⟨_, _, rfl, h1, h⟩ := okL_cons h
  obtain ⟨_, _, rfl, h2, h⟩ := okL_cons h
  obtain rfl := okL_nil h
  obtain ⟨a, rfl, _⟩ := okC_int h0
  obtain ⟨b, rfl, hb⟩ := okC_str h1
  obtain ⟨c, rfl, _⟩ := okC_int h2
  exact ⟨⟨a, b, c⟩, rfl, by simp only [bigT]; omega⟩
abbrev aT : Bool × List Tc := (false, tcT)
theorem okA_T {r : List (Bool × List Tc)} {vs : List V} (h : okA (aT :: r) vs) : ∃ (t : Typ) (ws : List V), vs = eT t :: ws ∧ bigT t ∧ okA r ws := by
  obtain ⟨v, ws, rfl, h1, h2⟩ := okA_cons h
  simp only [Bool.false_eq_true, if_false] at h1
  obtain ⟨us, rfl, h1⟩ := h1
  obtain ⟨t, e, hb⟩ := decT h1
  exact ⟨t, ws, by rw [e], hb, h2⟩
end Go.Proofs
namespace Go.Proofs
open Go Go.Ev
abbrev tcFr : List Tc := [.lst false tcT, .lst false tcT]
theorem decFr {vs : List V} (h : okL tcFr vs) : ∃ x : Frm, V.agg vs = eFr x ∧ bigFr x := by
  obtain ⟨_, _, rfl, h0, h⟩ := okL_cons h
  obtain ⟨_, _, rfl, h1, h⟩ := okL_cons h
  obtain rfl := okL_nil h
  obtain ⟨i, rfl, hi, hi2⟩ := okC_lst h0 fun vs => decT
  obtain ⟨j, rfl, hj, hj2⟩ := okC_lst h1 fun vs => decT
  exact ⟨⟨i, j⟩, rfl, by simp only [bigFr]; exact ⟨by omega, hi2, by omega, hj2⟩⟩
abbrev aF : Bool × List Tc := (false, tcFr)
theorem okA_F {r : List (Bool × List Tc)} {vs : List V} (h : okA (aF :: r) vs) : ∃ (t : Frm) (ws : List V), vs = eFr t :: ws ∧ bigFr t ∧ okA r ws := by
  obtain ⟨v, ws, rfl, h1, h2⟩ := okA_cons h
  simp only [Bool.false_eq_true, if_false] at h1
  obtain ⟨us, rfl, h1⟩ := h1
  obtain ⟨t, e, hb⟩ := decFr h1
  exact ⟨t, ws, by rw [e], hb, h2⟩
abbrev aI : Bool × List Tc := (true, [.int .i64])
theorem okA_I {r : List (Bool × List Tc)} {vs : List V} (h : okA (aI :: r) vs) : ∃ (n : Int) (ws : List V), vs = .int .i64 n :: ws ∧ (-9223372036854775808 ≤ n ∧ n < 9223372036854775808) ∧ okA r ws := by
  obtain ⟨v, ws, rfl, h1, h2⟩ := okA_cons h
  simp only [if_true] at h1
  obtain ⟨n, rfl, hn⟩ := okC_int h1.1
  exact ⟨n, ws, rfl, hn, h2⟩
end Go.Proofs
namespace Go.Proofs.YtfannbjeleonkaaGreat
open Go Go.Ev Go.Proofs Go.RowKit Go.ChangeShapes Go.WideShapes
theorem s_k1 : ownKnob Tryz.checked.prog.godebug = none := by kernel_rfl
theorem s_h2 : laidOutB Tryz.checked.prog = true := by kernel_rfl
theorem s_h3 : mapsRowed Tryz.checked.prog = true := by kernel_rfl
theorem s_h6 : ((Rows.fnExactCommonOfRow.stops == []) && (Tryz.checked.prog.stops == []) && (Rows.fnExactCommonOfRow.knobs == []) && (Tryz.checked.prog.stopKnobs == [])) = true := by kernel_rfl
theorem s_h20 : (Rows.fnExactCommonOfRow.plainKeys == Tryz.checked.prog.plainKeys) = true := by kernel_rfl
theorem s_h21 : (Rows.fnExactCommonOfRow.shortTexts.isNone && Tryz.checked.prog.stopsHeard) = true := by kernel_rfl
theorem s_h21b : Tryz.checked.prog.mayEnter = true := by kernel_rfl
theorem s_h22 : (Rows.fnExactCommonOfRow.lifted == Tryz.checked.prog.liftsFinal) = true := by kernel_rfl
theorem s_h23 : (Tryz.checked.prog.make == some Rows.fnExactCommonOfRow.make) = true := by kernel_rfl
end Go.Proofs.YtfannbjeleonkaaGreat
