/- Part 10 of what the proofs lean on: what the functions of the program and of the reference compute. Conditions: none. -/
import Derived.Test.YtebbhmbngfpkaaaGreatK08
set_option linter.all false
set_option linter.unusedVariables false
set_option linter.unusedSimpArgs false
set_option maxHeartbeats 2000000
set_option maxRecDepth 100000
namespace Go.Proofs
open Go Go.Ev


theorem cb_spec_HeapMake : Callable Tryz.prog 21 := ⟨_, Tryz.func21, by kernel_rfl, by kernel_rfl⟩
theorem ct_spec_HeapMake {l : List Cls} (hs : sizeL l ≤ 1048576) {h : Hep} (ho : sizeHp h ≤ 1048576) {c : Str} (hc : c.length ≤ 1099511627776) : Ct Tryz.prog 21 [.lst false 6 (l.map eC), eHp h, .str c] [] (oHo (makeW l h c)) [] := by
  have hl2 : sizeL l ≤ 1099511627776 := by omega
  have hll : l.length ≤ 1099511627776 := by unfold sizeL at hs; omega
  refine Ct_bodyS tok Tryz.func21 rfl 30 (by kernel_rfl) (by kernel_rfl) fun X hX => ?_
  refine jq [0, 2, 4, 6] ?_
  refine W_seq (W_rseqK [0, 2, 4, 6, 14] (jt 4 (k:=(jm 4 10 [0, 2, 4, 6, 14] (p:=fun b1_4 => by (try simp at b1_4); exact (jh hX (by simp [-atD_lt, -atL_lt]; rfl))) (q:=fun b1_4 => by (try simp at b1_4); exact (jh hX (by simp [-atD_lt, -atL_lt, b1_4]; rfl))) (k:=jf)))) ?_)
  refine jd (fun h1 => ?_) (fun h1 => ?_)
  · try simp at h1
    refine W_rseqK [6] (jh hX (by simp [h1]; rfl)) ?_
    refine W_ret (W_retR (by simp [h1]; rfl) ?_ rfl)
    rw [makeW, if_pos (by omega)]; exact zHo_wk _
  · try simp at h1
    refine W_skip (W_seq (W_rseqK [0, 2, 4, 6, 19] (js hX 2 (by simp [h1]; rfl) (jc [] (c:=(by apply ct_spec_HeapRight <;> first | assumption | omega | exact (right_world h3).1 | (have hH := hpR_len (right_world h3).2; omega))) (a:=cb_spec_HeapRight) (k:=jr))) ?_))
    refine jd (fun h3 => ?_) (fun h3 => ?_)
    · try simp at h3
      refine W_rseqK [6] (jh hX (by simp [h1]; rfl)) ?_
      refine W_ret (W_retR (by simp [h1]; rfl) ?_ rfl)
      rw [makeW, if_neg (by omega), if_neg (by simpa using h3)]; exact zHo_wk _
    · try simp at h3
      refine W_skip (W_seq (W_rseqK [0, 2, 4, 6, 24] (jt 2 (k:=(jc [] (c:=(by apply ct_spec_l05Known <;> first | assumption | omega | exact (right_world h3).1 | (have hH := hpR_len (right_world h3).2; omega))) (a:=cb_spec_l05Known) (k:=jr)))) ?_))
      refine jd (fun h5 => ?_) (fun h5 => ?_)
      · try simp at h5
        refine W_rseqK [6] (jh hX (by simp [h1]; rfl)) ?_
        refine W_ret (W_retR (by simp [h1]; rfl) ?_ rfl)
        rw [makeW, if_neg (by omega), if_pos (by simpa using h3), if_neg (by simpa using h5)]; exact zHo_wk _
      · try simp at h5
        refine W_skip (W_rseqK [6] (js hX 3 (by simp [h1]; rfl) (jc [] (c:=(by apply ct_spec_l10Make <;> first | assumption | omega | exact (right_world h3).1 | (have hH := hpR_len (right_world h3).2; omega))) (a:=cb_spec_l10Make) (k:=(jh hX (by simp [h1]; rfl))))) ?_)
        refine W_ret (W_retR (by simp [h1]; rfl) ?_ rfl)
        have e9 : makeW l h c = if h.room = 0 then zHo 15 else addO h (newO l c) := by rw [makeW, if_neg (by omega), if_pos (by simpa using h3), if_pos (by simpa using h5)]
        rw [e9]; exact Wk.refl _
end Go.Proofs
namespace Go.Proofs
open Go Go.Ev
theorem list_cond (l : List Cls) (d : Str) : ((decide (d = [73]) || (typeRight d && isAt d 0 76)) && (decide (d = [73]) || isKnown l (typeClass d))) = (typeRight d && (!isAt d 0 91 && typeK l d)) := by
  have hp := plainType d
  by_cases h1 : d = [73]
  · subst h1
    have h2 : typeRight [73] = true := by decide
    have h3 : typeClass [73] = [] := typeClass_no (fun _ => .inl rfl)
    rw [h2, typeK, h3]; rfl
  · rw [decide_eq_false h1, Bool.false_or, Bool.false_or]
    cases hr : typeRight d
    · rfl
    · by_cases h91 : isAt d 0 91 = true
      · have h76 : isAt d 0 76 = false := by
          cases h76 : isAt d 0 76
          · rfl
          · simp only [isAt] at h91 h76
            cases hd : d[0]? with
            | none => rw [hd] at h91; simp at h91
            | some x =>
              rw [hd] at h91 h76
              simp at h91 h76
              omega
        rw [h76, h91]; rfl
      · have h91 : isAt d 0 91 = false := by simpa using h91
        have h2 : d ≠ [91, 73] := fun e => by rw [e] at h91; cases h91
        obtain ⟨g1, _, g3⟩ := typeClass_eq hr h1 h2
        have h4 : typeClass d ≠ [] := by
          rw [g3, if_neg (by simp [h91])]
          intro e
          have := congrArg List.length e
          simp [seg] at this
          omega
        have h76 : isAt d 0 76 = true := by
          rw [hr, h91, decide_eq_false h1] at hp
          simpa using hp.symm
        rw [h76, h91, typeK, decide_eq_false h4]; rfl
theorem listO_big {d : Str} {n : Nat} (hd : d.length ≤ 1048576) (hn : n ≤ 50) : bigOb (listO d n) ∧ (listO d n).vals.length ≤ 50 := by
  have hc : (typeClass d).length ≤ d.length := by
    by_cases h : typeRight d = true
    · by_cases h1 : d = [73]
      · subst h1; rw [typeClass_no (fun _ => .inl rfl)]; simp
      · by_cases h2 : d = [91, 73]
        · subst h2; rw [typeClass_no (fun _ => .inr rfl)]; simp
        · rw [(typeClass_eq h h1 h2).2.2]; split <;> (simp [seg]; try omega)
    · rw [typeClass_no (fun e => absurd e h)]; simp
  unfold listO
  split
  · exact ⟨⟨by simp, by simp; omega⟩, by simpa using hn⟩
  · exact ⟨⟨by simp only; omega, by simp; omega⟩, by simpa using hn⟩
theorem listW_big {l : List Cls} {h : Hep} {d : Str} {n : Int} (ho : sizeHp h ≤ 1048576) (hd : d.length ≤ 1048576) : bigHp (listW l h d n).h ∧ cntOs (listW l h d n).h.objs ≤ 52428800 := by
  have z : ∀ c, bigHp (zHo c).h ∧ cntOs (zHo c).h.objs ≤ 52428800 := fun c => ⟨bigHp_z c, by simp [zHo, cntOs]⟩
  unfold listW
  split
  · exact z _
  · split
    · split
      · exact z _
      · rename_i hn
        split
        · exact z _
        · obtain ⟨b1, b2⟩ := listO_big (n := n.toNat) hd (by omega)
          refine ⟨bigHp_add ho b1, ?_⟩
          have := cntOs_hp ho
          simp only [addO, cntOs_app, cntOs, cntO]; omega
    · exact z _
end Go.Proofs
namespace Go.Proofs
open Go Go.Ev
theorem Ct.wkA {P : Program} {f : FuncId} {args args' : List V} {ob ob' : List Ob} {r : V} (h : WkL args' args) (c : Ct P f args ob r ob') : Ct P f args' ob r ob' := fun w fr m cn us h1 h2 h3 => c w fr m cn us h1 h2 (h _ _ _ _ _ h3)
theorem midA {Y : List V} {i : Nat} (h : Y.length = i) (x : V) (Z : List V) : atV (Y ++ x :: Z) i = x := by subst h; exact mid_get Y x Z
theorem obs_split {α : Type} {l : List α} {j : Nat} (h : j < l.length) (f : α → V) : l.map f = (l.take j).map f ++ f l[j] :: (l.drop (j + 1)).map f := by
  have e : l = l.take j ++ l[j] :: l.drop (j + 1) := by rw [← List.drop_eq_getElem_cons h, List.take_append_drop]
  conv => lhs; rw [e]
  rw [List.map_append, List.map_cons]
theorem obs_set {α : Type} {l : List α} {j : Nat} (h : j < l.length) (f : α → V) (x : α) : (l.set j x).map f = (l.take j).map f ++ f x :: (l.drop (j + 1)).map f := by
  rw [List.set_eq_take_append_cons_drop, if_pos h]; simp
theorem place_at {h : Hep} {j : Nat} (ho : sizeHp h ≤ 1048576) (hj : j < h.objs.length) : IntKind.i64.wrap (j : Int) = j ∧ IntKind.i64.wrap ((h.objs[j].vals.length : Int) - 1) = h.objs[j].vals.length - 1 ∧ hasR h ((j : Int) + 1) = true := by
  have hl : h.objs.length ≤ 1048576 := by unfold sizeHp at ho; omega
  have hv : h.objs[j].vals.length ≤ 1048576 := by
    have := Nat.le_trans (sizeHp_at hj) ho
    unfold sizeOb at this; omega
  exact ⟨wrap_i64 (by omega) (by omega), wrap_i64 (by omega) (by omega), by unfold hasR; rw [decide_eq_true_eq]; omega⟩
theorem place_no {h : Hep} {a p : Int} (hn : placeR h a p = false) : hasR h a = false ∨ ∃ (j : Nat) (hj : j < h.objs.length), a = (j : Int) + 1 ∧ ¬ (0 ≤ p ∧ p < (h.objs[j].vals.length : Int)) := by
  rw [placeR, Bool.and_eq_false_iff] at hn
  rcases hn with hn | hn
  · exact .inl hn
  · cases hh : hasR h a
    · exact .inl rfl
    · right
      simp only [hasR, decide_eq_true_eq] at hh
      have hj : (a - 1).toNat < h.objs.length := by omega
      rw [atL_lt hj] at hn
      exact ⟨_, hj, by omega, by simpa using hn⟩
theorem obs_YZ {l : List HOb} {j : Nat} (hj : j < l.length) : ∃ Y Z, l.map oOb = Y ++ oOb l[j] :: Z ∧ (∀ x, (l.set j x).map oOb = Y ++ oOb x :: Z) ∧ Y.length = j ∧ j + (Z.length + 1) = l.length ∧ (∀ g, mapL g Y = Y) ∧ (∀ g, mapL g Z = Z) ∧ (∀ n, limL n Y = true) ∧ (∀ n, limL n Z = true) ∧
    (∀ p, jkL p Y = Y) ∧ (∀ p, jkL p Z = Z) ∧ pureL Y = true ∧ pureL Z = true ∧ fzL Y = (l.take j).map eOb ∧ fzL Z = (l.drop (j + 1)).map eOb :=
  ⟨(l.take j).map oOb, (l.drop (j + 1)).map oOb, obs_split hj oOb, fun x => obs_set hj oOb x, by rw [List.length_map, List.length_take]; omega, by rw [List.length_map, List.length_drop]; omega, fun g => mapL_Ob g _, fun g => mapL_Ob g _,
    fun n => lim_Ob n _, fun n => lim_Ob n _, fun p => jkL_oOb p _, fun p => jkL_oOb p _, pureL_oOb _, pureL_oOb _, fzL_oOb _, fzL_oOb _⟩
theorem place_cs (h : Hep) (a : Int) : ¬ 1 ≤ a ∨ (1 ≤ a ∧ ¬ a ≤ (h.objs.length : Int)) ∨ ∃ (j : Nat) (_ : j < h.objs.length), a = (j : Int) + 1 := by
  by_cases h1 : 1 ≤ a
  · by_cases h2 : a ≤ (h.objs.length : Int)
    · exact .inr (.inr ⟨(a - 1).toNat, by omega, by omega⟩)
    · exact .inr (.inl ⟨h1, h2⟩)
  · exact .inl h1
theorem placeR_iff {h : Hep} {a p : Int} (hp : placeR h a p = true) : ∃ (j q : Nat) (hj : j < h.objs.length), a = (j : Int) + 1 ∧ p = q ∧ q < h.objs[j].vals.length := by
  simp only [placeR, hasR, Bool.and_eq_true, decide_eq_true_eq] at hp
  obtain ⟨⟨h1, h2⟩, h3, h4⟩ := hp
  have hj : (a - 1).toNat < h.objs.length := by omega
  rw [atL_lt hj] at h4
  exact ⟨(a - 1).toNat, p.toNat, hj, by omega, by omega, by omega⟩
end Go.Proofs
namespace Go.Proofs
open Go Go.Ev
theorem plc_next {l : List Cls} {es : List (Str × Int)} {i : Nat} (h : i < l.length) :
    plc es i (l.drop i) = plc (if (lookM es l[i].name).isSome then es else es ++ [(l[i].name, (i : Int))]) (i + 1) (l.drop (i + 1)) := by
  rw [List.drop_eq_getElem_cons h]; rfl
abbrev wob (l : List Cls) (bm : Nat) : Ob := some (2, [.agg [.lst false 6 (l.map eC), .raw (.map (some bm))]])
abbrev wst (l : List Cls) (bm : Nat) (a : Nat × List (Str × Int)) : St := ⟨sp 40 [(3, .ptr 0 0 0), (12, .lst false 6 (l.map eC)), (13, .int .i64 l.length), (14, .int .i64 a.1)], [wob l bm]⟩
theorem cb_impl_worldOf : Callable Tryz.prog 113 := ⟨_, Tryz.func113, by kernel_rfl, by kernel_rfl⟩
set_option maxHeartbeats 2000000 in
set_option maxRecDepth 100000 in
theorem ct_impl_worldOf {l : List Cls} (hl : l.length ≤ 1099511627776) : Ct Tryz.prog 113 [.lst false 6 (l.map eC)] [] (wv l) [] := by
  refine Ct_bodyS tok Tryz.func113 rfl 40 (by kernel_rfl) (by kernel_rfl) fun X hX => ?_
  refine W_rseqK [0] (Runs.run tok hX (by simp; rfl)) ?_
  refine W_le (Le.of_eq (by simp; rfl)) ?_
  refine W_mono2 (W_makeMap (F := places l) (x := .lst false 6 (l.map eC)) (t2 := 2) (Qj := fun bm e s es => e = .ret ∧ s = ⟨sp 40 [(2, .ptr 0 0 0)], [wob l bm]⟩ ∧ es = places l) hX (by rfl)
    (by intro X hX; exact opB_ok tok hX (by simp; rfl)) (by rfl) (by simp; rfl) (by rfl) (by rfl) (by rfl) (by rfl) (by simp [V.fz]) (by rfl) ?_ ?_) ?_
  · intro X1 bm hX1
    refine WLJ_lift fun X' hX' hmk => ?_
    refine WL_runsK [3, 0] (Runs.run tok hX' (by simp; rfl)) ⟨rfl, ?_⟩
    refine WJ_seq ?_
    refine WJ_seq ?_
    refine WJ_lift fun X' hX' hmk => ?_
    refine W_regK [3, 12, 13, 14] (Runs.run tok hX' (by simp; rfl)) ?_
    simp only [thenJ]
    refine WJ_block ?_
    refine WJ_loop (α := Nat × List (Str × Int)) (wst l bm) (fun a => a.2) (fun a => a.1 ≤ l.length ∧ plc a.2 a.1 (l.drop a.1) = places l) (fun a => l.length - a.1) (0, []) (by simp) rfl ⟨by simp, rfl⟩ ?_
    rintro ⟨i, es⟩ ⟨hi, hI⟩
    simp only at hi hI
    refine WJ_seq ?_
    refine WJ_lift fun X' hX' hmk => ?_
    refine W_regK [3, 12, 13, 14, 15] (Runs.run tok hX' (by simp; rfl)) ?_
    simp only [thenJ]
    refine WJ_seq ?_
    refine WJ_cond (by simp; rfl) (fun h => ?_) (fun h => ?_)
    · simp at h
      refine WJ_lift fun X' hX' hmk => W_skip ?_
      simp only [thenJ]
      refine WJ_seq ?_
      refine WJ_block ?_
      refine WJ_seq ?_
      refine WJ_lift fun X' hX' hmk => ?_
      refine W_regK [3, 12, 13, 14, 4, 5] (Runs.run tok hX' (by simp [h]; rfl)) ?_
      simp only [thenJ]
      refine WJ_seq ?_
      refine WJ_lift fun X' hX' hmk => ?_
      refine W_drawnK [3, 12, 13, 14, 4, 5, 7] hmo (by kernel_rfl) (RunsQ.step (n0 := 0) 6 tok (by simp; rfl) (RunsQ.lookR tok hmk (by rfl) (by rfl) (by rfl) (by rfl) (by rfl) (by rfl) (by rfl) (by rfl) (by simp) (by simp; rfl) (RunsQ.run (n0 := 0) tok (by simp; rfl)))) ?_
      simp only [thenJ]
      refine WJ_seq ?_
      refine WJ_lift fun X' hX' hmk => ?_
      refine W_regK [3, 12, 13, 14, 4, 5, 30] (Runs.run tok hX' (by simp; rfl)) ?_
      simp only [thenJ]
      have hnx := plc_next (es := es) h
      have hw : IntKind.i64.wrap ((i : Int) + 1) = ((i + 1 : Nat) : Int) := by rw [wrap_i64 (by omega) (by omega)]; simp
      refine WJ_cond (by simp; rfl) (fun h2 => ?_) (fun h2 => ?_)
      · have hn : lookM es l[i].name = none := by simpa using h2
        refine WJ_mapSet (s := l[i].name) (i := (i : Int)) 7 tok hmo (by kernel_rfl) (RunsS.run (n0 := 0) tok (by simp; rfl)) (by rfl) (by rfl) (by rfl) (by rfl) (by rfl) (by rfl) (by rfl) (by rfl) (by simp) (by simp) (by simp) hn ?_
        simp only [blockJ, thenJ]
        refine WJ_trimK 1 (by rw [hX1]; omega) (by simp) (by simp; rfl) ?_
        refine WJ_lift fun X' hX' hmk => ?_
        refine W_regK [3, 12, 13, 14] (Runs.run tok hX' (by simp; rfl)) ?_
        simp only [thenJ]
        refine ⟨(i + 1, es ++ [(l[i].name, (i : Int))]), by simp [hw], rfl, ⟨by simp; omega, ?_⟩, by simp; omega⟩
        rw [hnx, hn] at hI
        exact hI
      · have hn : (lookM es l[i].name).isSome = true := by simpa using h2
        refine WJ_lift fun X' hX' hmk => W_skip ?_
        simp only [blockJ, thenJ]
        refine WJ_trimK 1 (by rw [hX1]; omega) (by simp) (by simp; rfl) ?_
        refine WJ_lift fun X' hX' hmk => ?_
        refine W_regK [3, 12, 13, 14] (Runs.run tok hX' (by simp; rfl)) ?_
        simp only [thenJ]
        refine ⟨(i + 1, es), by simp [hw], rfl, ⟨by simp; omega, ?_⟩, by simp; omega⟩
        rw [hnx, if_pos hn] at hI
        exact hI
    · simp at h
      refine WJ_lift fun X' hX' hmk => W_exit ?_
      simp only [thenJ, blockJ]
      rw [if_pos trivial]
      rw [List.drop_eq_nil_of_le h] at hI
      simp only [plc] at hI
      subst hI
      refine WJ_seq ?_
      refine WJ_lift fun X' hX' hmk => ?_
      refine W_regK [2] (Runs.run tok hX' (by simp; rfl)) ?_
      simp only [thenJ]
      exact WJ_lift fun X' hX' hmk => W_ret ⟨rfl, by simp, rfl⟩
  · rintro bm e s es ⟨rfl, rfl, rfl⟩
    exact ⟨.inl rfl, rfl, by simp, by simp [sp_length], rfl⟩
  · rintro e s ⟨he, rfl⟩
    rcases he with rfl | rfl
    · exact W_retR (by simp; rfl) (.of_eq (by rfl)) rfl
    · exact W_endR (by simp; rfl) (.of_eq (by rfl)) rfl
end Go.Proofs

namespace Go.Proofs
open Go Go.Ev


theorem cb_slices_Index_string_string : Callable Tryz.prog 119 := ⟨_, Tryz.func119, by kernel_rfl, by kernel_rfl⟩
theorem ct_slices_Index_string_string {l : List Str} {t : Str} (hl : l.length ≤ 1099511627776) : Ct Tryz.prog 119 [.lst false 1 (l.map V.str), .str t] [] (.int .i64 (fix (fun x => decide (t = x)) l)) [] := by
  refine Ct_bodyS tok Tryz.func119 rfl 19 (by kernel_rfl) (by kernel_rfl) fun X hX => ?_
  refine jq [0, 1] ?_
  refine W_seq (jq [0, 1, 7, 8] ?_)
  refine W_block (W_loopU (α := Nat) [0, 1, 7, 8] (fun i => [(8, .int .i64 i)]) (fun i => []) (fun i => i ≤ l.length ∧ ∀ x ∈ l.take i, (fun x => decide (t = x)) x = false) (fun i => l.length - i) (0) (fun i => by simp; rfl) (by simp) ?_ ?_)
  · simp
  rintro i ⟨hi, hI⟩
  refine jq [0, 1, 7, 8, 9] ?_
  refine W_seq (jd (fun h2 => ?_) (fun h2 => ?_))
  · try simp at h2
    refine W_skip (W_seq (W_block (jq [0, 1, 5, 7, 8] ?_)))
    refine W_rseqK [0, 1, 5, 7, 8, 16] (jh hX (by simp [h2]; rfl)) ?_
    refine jd (fun h4 => ?_) (fun h4 => ?_)
    · try simp at h4
      refine jq [4] ?_
      refine W_ret (je (by simp [h2]; rfl) ?_)
      rw [fix_hit h2 hI (by simpa using h4)]
    · try simp at h4
      refine W_skip (W_reg (jh hX (by simp; (try (simp (disch := omega) only [wrap_i64]; (try simp))); rfl)) ?_)
      refine round_end (i + 1) [0, 1, 7, 8] (by simp [h2]; try (simp (disch := omega) only [wrap_i64])) ?_ ?_
      · exact ⟨by omega, take_not h2 hI (by simpa using h4)⟩
      · omega
  · try simp at h2
    refine W_exit (jq [4] ?_)
    refine W_ret (je (by simp [h2]; rfl) ?_)
    rw [fix_none (p := fun x => decide (t = x)) (fun x hx => hI x (by rw [List.take_of_length_le h2]; exact hx))]
end Go.Proofs
namespace Go.Proofs
open Go Go.Ev


theorem cb_slices_Contains_string_string : Callable Tryz.prog 70 := ⟨_, Tryz.func70, by kernel_rfl, by kernel_rfl⟩
theorem ct_slices_Contains_string_string {l : List Str} {t : Str} (hl : l.length ≤ 1099511627776) : Ct Tryz.prog 70 [.lst false 1 (l.map V.str), .str t] [] (.bool (l.any (fun x => decide (t = x)))) [] := by
  refine Ct_bodyS tok Tryz.func70 rfl 9 (by kernel_rfl) (by kernel_rfl) fun X hX => ?_
  refine jq [0, 1] ?_
  refine W_rseqK [4] (jt 2 (k:=(jc [] (c:=(by apply ct_slices_Index_string_string <;> first | assumption | omega | (simp at *; omega) | simp_all)) (a:=cb_slices_Index_string_string) (k:=jr)))) ?_
  refine W_ret (je0 ?_)
  rw [← fix_ge]
end Go.Proofs
namespace Go.Proofs
open Go Go.Ev


theorem cb_impl_builtIn : Callable Tryz.prog 128 := ⟨_, Tryz.func128, by kernel_rfl, by kernel_rfl⟩
theorem ct_impl_builtIn  : Ct Tryz.prog 128 [] [] (.lst true 1 (builtIn.map V.str)) [] := by
  refine Ct_bodyS tok Tryz.func128 rfl 2 (by kernel_rfl) (by kernel_rfl) fun X hX => ?_
  refine jq [] ?_
  refine jq [0] ?_
  refine W_ret (je0 ?_)
  simp [builtIn]
end Go.Proofs
namespace Go.Proofs
open Go Go.Ev


theorem cb_impl_isBuiltIn : Callable Tryz.prog 96 := ⟨_, Tryz.func96, by kernel_rfl, by kernel_rfl⟩
theorem ct_impl_isBuiltIn {n : Str} : Ct Tryz.prog 96 [.str n] [] (.bool (bIn n)) [] := by
  refine Ct_bodyS tok Tryz.func96 rfl 6 (by kernel_rfl) (by kernel_rfl) fun X hX => ?_
  refine jq [0] ?_
  refine W_rseqK [2] (jc [] (c:=(by apply ct_impl_builtIn <;> first | assumption | omega | (simp at *; omega) | simp_all)) (a:=cb_impl_builtIn) (k:=(jt 1 (k:=(jB (c:=(by apply (ct_slices_Contains_string_string (l := builtIn)) <;> first | decide | simp)) (a:=cb_slices_Contains_string_string) (k:=jr)))))) ?_
  refine W_ret (je0 ?_)
  rw [bIn_any]
end Go.Proofs
namespace Go.Proofs
open Go Go.Ev


theorem cb_impl_length : Callable Tryz.prog 104 := ⟨_, Tryz.func104, by kernel_rfl, by kernel_rfl⟩
theorem ct_impl_length {t : Str} : Ct Tryz.prog 104 [.str t] [] (.int .i64 t.length) [] := by
  refine Ct_bodyS tok Tryz.func104 rfl 5 (by kernel_rfl) (by kernel_rfl) fun X hX => ?_
  refine jq [0] ?_
  refine jq [2] ?_
  refine W_ret (je0 ?_)
  simp
end Go.Proofs
namespace Go.Proofs
open Go Go.Ev


theorem cb_impl_reader_is : Callable Tryz.prog 186 := ⟨_, Tryz.func186, by kernel_rfl, by kernel_rfl⟩
theorem ct_impl_reader_is {t : Str} {p : Nat} {b : Bool} {n : Int} (ht : t.length ≤ 1099511627776) (hp : p ≤ t.length) (hn0 : 0 ≤ n) (hn1 : n < 256) : Ct Tryz.prog 186 [.ptr 0 0 0, .int .u8 n] [rdr t p b] (.bool (hit t p b n.toNat)) [rdr t p b] := by
  obtain ⟨m, rfl⟩ : ∃ m : Nat, n = m := ⟨n.toNat, by omega⟩
  refine Ct_bodyS tok Tryz.func186 rfl 35 (by kernel_rfl) (by kernel_rfl) fun X hX => ?_
  refine jq [0, 1] ?_
  refine jD [4] (jS 6 (by simp; rfl) (jM 11 10 [0, 1, 21] (p:=fun b1_6 => by (try simp at b1_6); exact (jS 8 (by simp [-atD_lt, -atL_lt]; rfl) (jC (c:=by apply ct_impl_length <;> first | assumption | omega | (simp at *; omega) | simp_all) (a:=cb_impl_length) (k:=(jQ (by simp [-atD_lt, -atL_lt]; rfl)))))) (q:=fun b1_6 => by (try simp at b1_6); exact (jQ (by simp [-atD_lt, -atL_lt]; rfl))) (k:=(jS 1 (by simp; rfl) (jM 12 22 [34] (p:=fun b1_18 => by (try simp at b1_18); exact (jQ (by simp [-atD_lt, -atL_lt, b1_18]; rfl))) (q:=fun b1_18 => by (try simp at b1_18); exact (jQ (by simp [-atD_lt, -atL_lt]; rfl))) (k:=(jQ (by simp; rfl)))))))) ?_
  refine W_ret (je0 ?_)
  rcases Nat.lt_or_ge p t.length with h | h
  · (simp [hit, isAt_lt h, h]) <;> grind
  · (simp [hit, isAt_ge h]) <;> omega
end Go.Proofs
namespace Go.Proofs
open Go Go.Ev


theorem cb_impl_reader_take : Callable Tryz.prog 144 := ⟨_, Tryz.func144, by kernel_rfl, by kernel_rfl⟩
theorem ct_impl_reader_take {t : Str} {p : Nat} {b : Bool} {n : Int} (ht : t.length ≤ 1099511627776) (hp : p ≤ t.length) (hn0 : 0 ≤ n) (hn1 : n < 256) : Ct Tryz.prog 144 [.ptr 0 0 0, .int .u8 n] [rdr t p b] (.bool (hit t p b n.toNat)) [rdr t (adv (hit t p b n.toNat) p) b] := by
  refine Ct_bodyS tok Tryz.func144 rfl 16 (by kernel_rfl) (by kernel_rfl) fun X hX => ?_
  refine jq [0, 1] ?_
  refine W_seq (W_rseqK [0, 8] (jt 2 (k:=(jc [0] (c:=(by apply ct_impl_reader_is <;> first | assumption | omega | (simp at *; omega) | simp_all)) (a:=cb_impl_reader_is) (k:=jr)))) ?_)
  refine jd (fun h1 => ?_) (fun h1 => ?_)
  · try simp at h1
    refine jq [4] ?_
    refine W_ret (W_retR2 (by simp; rfl) (by rfl) (.of_eq ?_) ?_)
    all_goals clear hX
    · skip
      simp_all
    · skip
      simp_all
  · try simp at h1
    refine W_skip (W_rseqK [] (jh hX (by simp; (try (simp (disch := omega) only [wrap_i64]; (try simp))); rfl)) ?_)
    refine jq [4] ?_
    refine W_ret (W_retR2 (by simp; rfl) (by rfl) (.of_eq ?_) ?_)
    all_goals clear hX
    · skip
      simp_all
    · skip
      simp_all
end Go.Proofs
namespace Go.Proofs
open Go Go.Ev


theorem cb_internal_stringslite_IndexByte : Callable Tryz.prog 235 := ⟨_, Tryz.func235, by kernel_rfl, by kernel_rfl⟩
theorem ct_internal_stringslite_IndexByte {t : Str} {c : UInt8} : Ct Tryz.prog 235 [.str t, .int .u8 c.toNat] [] (.int .i64 (ixL c t)) [] := by
  refine Ct_bodyS tok Tryz.func235 rfl 8 (by kernel_rfl) (by kernel_rfl) fun X hX => ?_
  refine jq [0, 1] ?_
  refine W_rseqK [4] (jt 2 (k:=(Runs.extIB rfl (by simp) (by simp; rfl) (by simp; rfl) ext_IB (by simp; rfl) jr))) ?_
  refine W_ret (je0 ?_)
  simp
end Go.Proofs
namespace Go.Proofs
open Go Go.Ev


theorem cb_strings_IndexByte : Callable Tryz.prog 219 := ⟨_, Tryz.func219, by kernel_rfl, by kernel_rfl⟩
theorem ct_strings_IndexByte {t : Str} {c : UInt8} : Ct Tryz.prog 219 [.str t, .int .u8 c.toNat] [] (.int .i64 (ixL c t)) [] := by
  refine Ct_bodyS tok Tryz.func219 rfl 8 (by kernel_rfl) (by kernel_rfl) fun X hX => ?_
  refine jq [0, 1] ?_
  refine W_rseqK [4] (jt 2 (k:=(jc [] (c:=(by apply ct_internal_stringslite_IndexByte <;> first | assumption | omega | (simp at *; omega) | simp_all)) (a:=cb_internal_stringslite_IndexByte) (k:=jr)))) ?_
  refine W_ret (je0 ?_)
  simp
end Go.Proofs
namespace Go.Proofs
open Go Go.Ev


theorem cb_impl_isNameByte : Callable Tryz.prog 187 := ⟨_, Tryz.func187, by kernel_rfl, by kernel_rfl⟩
theorem ct_impl_isNameByte {c : UInt8} {n : Int} : Ct Tryz.prog 187 [.int .u8 c.toNat, .int .i64 n] [] (.bool (nameByte c (decide (n ≤ 0)))) [] := by
  obtain ⟨k1, k2⟩ := nameTable_byte c
  rw [show nameTable = [48, 49, 50, 51, 52, 53, 54, 55, 56, 57, 97, 98, 99, 100, 101, 102, 103, 104, 105, 106, 107, 108, 109, 110, 111, 112, 113, 114, 115, 116, 117, 118, 119, 120, 121, 122, 65, 66, 67, 68, 69, 70, 71, 72, 73, 74, 75, 76, 77, 78, 79, 80, 81, 82, 83, 84, 85, 86, 87, 88, 89, 90, 36] from rfl] at k1 k2
  refine Ct_bodyS tok Tryz.func187 rfl 18 (by kernel_rfl) (by kernel_rfl) fun X hX => ?_
  refine jq [0, 1] ?_
  refine W_rseqK [1, 5] (jt 1 (k:=(jc [] (c:=(by apply ct_strings_IndexByte <;> first | assumption | omega | (simp at *; omega) | simp_all)) (a:=cb_strings_IndexByte) (k:=jr)))) ?_
  refine W_rseqK [4] (jt 3 (k:=(jm 7 10 [17] (p:=fun b2_3 => by (try simp at b2_3); exact (jh hX (by simp [-atD_lt, -atL_lt]; rfl))) (q:=fun b2_3 => by (try simp at b2_3); exact (js hX 3 (by simp [-atD_lt, -atL_lt]; rfl) (jm 3 13 [10, 16] (p:=fun b2_6 => by (try simp at b2_6); exact (jh hX (by simp [-atD_lt, -atL_lt]; rfl))) (q:=fun b2_6 => by (try simp at b2_6); exact (jh hX (by simp [-atD_lt, -atL_lt]; rfl))) (k:=(jh hX (by simp [-atD_lt, -atL_lt]; rfl)))))) (k:=jr)))) ?_
  refine W_ret (je0 ?_)
  by_cases hn : n ≤ 0
  · rw [decide_eq_true hn, ← k1]; simp; omega
  · have hp : 0 < n := by omega
    rw [decide_eq_false hn, ← k2]; simp [hp]; grind
end Go.Proofs
namespace Go.Proofs
open Go Go.Ev


theorem cb_impl_reader_want : Callable Tryz.prog 188 := ⟨_, Tryz.func188, by kernel_rfl, by kernel_rfl⟩
theorem ct_impl_reader_want {t : Str} {p : Nat} {b : Bool} {n : Int} (ht : t.length ≤ 1099511627776) (hp : p ≤ t.length) (hn0 : 0 ≤ n) (hn1 : n < 256) : Ct Tryz.prog 188 [.ptr 0 0 0, .int .u8 n] [rdr t p b] (.tup []) [rdr t (adv (hit t p b n.toNat) p) (b || !hit t p b n.toNat)] := by
  refine Ct_bodyS tok Tryz.func188 rfl 11 (by kernel_rfl) (by kernel_rfl) fun X hX => ?_
  refine W_rseqK [0, 7] (jt 2 (k:=(jc [0] (c:=(by apply ct_impl_reader_take <;> first | assumption | omega | (simp at *; omega) | simp_all)) (a:=cb_impl_reader_take) (k:=jr)))) ?_
  refine jd (fun h0 => ?_) (fun h0 => ?_)
  · try simp at h0
    refine W_reg jr ?_
    refine W_endR2 (by simp; rfl) (by rfl) (.of_eq ?_) ?_
    all_goals clear hX
    · skip
      rfl
    · skip
      simp_all
  · try simp at h0
    refine W_skip (W_endR2 (by simp; rfl) (by rfl) (.of_eq ?_) ?_)
    all_goals clear hX
    · skip
      rfl
    · skip
      simp_all
end Go.Proofs
namespace Go.Proofs
open Go Go.Ev


theorem cb_impl_reader_name : Callable Tryz.prog 145 := ⟨_, Tryz.func145, by kernel_rfl, by kernel_rfl⟩
theorem ct_impl_reader_name {t : Str} {p : Nat} {b : Bool} (ht : t.length ≤ 1099511627776) (hp : p ≤ t.length) : Ct Tryz.prog 145 [.ptr 0 0 0] [rdr t p b] (.tup []) [rdr t (if b = true then p else (nmP t p).1) (b || !(nmP t p).2)] := by
  refine Ct_bodyS tok Tryz.func145 rfl 69 (by kernel_rfl) (by kernel_rfl) fun X hX => ?_
  refine jq [0, 2] ?_
  refine W_seq (W_block (W_loopU (α := Nat) [0, 2] (fun i => []) (fun i => [(0, rdr t i b)]) (fun i => p ≤ i ∧ i ≤ t.length ∧ i - p ≤ 20 ∧ (b = true → i = p) ∧ i + nameRun (20 - (i - p)) (decide (i = p)) (t.drop i) = p + nameRun 20 true (t.drop p)) (fun i => t.length - i) (p) (fun i => by simp; rfl) (by simp) ?_ ?_))
  · simp; omega
  rintro i ⟨h0i, hi, hn, hb, hI⟩
  refine W_seq (jD [0, 2, 50] (jS 6 (by simp; rfl) (jM 11 12 [0, 2, 23] (p:=fun b1_6 => by (try simp at b1_6); exact (jS 8 (by simp [-atD_lt, -atL_lt]; rfl) (jC (c:=by apply ct_impl_length <;> first | assumption | omega | (simp at *; omega) | simp_all) (a:=cb_impl_length) (k:=(jQ (by simp [-atD_lt, -atL_lt]; rfl)))))) (q:=fun b1_6 => by (try simp at b1_6); exact (jQ (by simp [-atD_lt, -atL_lt]; rfl))) (k:=(jS 1 (by simp; rfl) (jM 8 24 [0, 2, 32] (p:=fun b1_18 => by (try simp at b1_18); exact (jQ (by simp [-atD_lt, -atL_lt, b1_18]; (try (simp (disch := omega) only [wrap_i64]; (try simp [-atD_lt, -atL_lt, b1_18]))); rfl))) (q:=fun b1_18 => by (try simp at b1_18); exact (jQ (by simp [-atD_lt, -atL_lt]; rfl))) (k:=(jS 1 (by simp; rfl) (jM 17 33 [0, 2, 50] (p:=fun b1_27 => by (try simp at b1_27); exact (jS 15 (by simp [-atD_lt, -atL_lt, b1_27]; (try (simp (disch := omega) only [wrap_i64]; (try simp [-atD_lt, -atL_lt, b1_27]))); rfl) (jC (c:=by apply ct_impl_isNameByte <;> first | assumption | omega | (simp at *; omega) | simp_all) (a:=cb_impl_isNameByte) (k:=(jQ (by simp [-atD_lt, -atL_lt]; rfl)))))) (q:=fun b1_27 => by (try simp at b1_27); exact (jQ (by simp [-atD_lt, -atL_lt]; rfl))) (k:=(RunsQ.fin (by (try simp); rfl))))))))))) ?_)
  have hge : t.length ≤ i → nameRun (20 - (i - p)) (decide (i = p)) (t.drop i) = 0 := fun h => by rw [List.drop_eq_nil_of_le h]; simp [nameRun]
  have hg2 : i - p = 20 → nameRun (20 - (i - p)) (decide (i = p)) (t.drop i) = 0 := fun h => by rw [h]; simp [nameRun]
  have hg3 := fun h1 h2 => @drop_nameRun t i p h1 h2 h0i
  refine jd (fun h1 => ?_) (fun h1 => ?_)
  · try simp at h1
    have ⟨⟨⟨h1d, h1a⟩, h1b⟩, h1c⟩ := h1
    rw [atD_lt h1a, show decide ((i : Int) - p ≤ 0) = decide (i = p) from by simp; omega] at h1c
    rw [hg3 h1a (by omega), if_pos h1c] at hI
    refine W_skip (W_block (W_reg (jh hX (by simp [h1]; (try (simp (disch := omega) only [wrap_i64]; (try simp [h1]))); rfl)) ?_))
    refine round_end (i + 1) [0, 2] (by simp [h1]; try (simp (disch := omega) only [wrap_i64])) ?_ ?_
    · exact ⟨by omega, by omega, by omega, by simp_all, by omega⟩
    · omega
  · try simp at h1
    have hI2 : b = false → i = p + nameRun 20 true (t.drop p) := by
      intro hbf
      rcases Nat.lt_or_ge i t.length with hl | hl
      · by_cases hk : i - p = 20
        · have := hg2 hk; omega
        · rw [hg3 hl (by omega)] at hI
          have : nameByte t[i] (decide (i = p)) = false := by
            rw [← atD_lt hl]; have := h1 hbf hl (by omega); rwa [show decide ((i : Int) - p ≤ 0) = decide (i = p) from by simp; omega] at this
          rw [this] at hI; simpa using hI
      · have := hge hl; omega
    have hnm : b = false → nmP t p = if (isAt t i 59 && !decide (i = p)) then (i + 1, true) else (i, false) := by
      intro hbf; simp only [nmP, ← hI2 hbf]
    clear hI hI2 hg2 hg3 hge
    refine W_exit (W_seq (W_rseqK [0, 63] (jh hX (by simp [h1]; rfl)) ?_))
    refine' W_condS3 [0] (by simp; rfl) (by rfl) (fun h3 => ?a1_1) (fun h3 => ?a0_1) ?ak_1
    case a1_1 =>
      try simp at h3
      refine W_reg (jh hX (by simp [h1]; rfl)) ?_
      exact ⟨rfl, Eq.trans (by (try simp); rfl) (by rfl)⟩
    case a0_1 =>
      try simp at h3
      refine W_skip ?_
      exact ⟨rfl, Eq.trans (by (try simp); rfl) (by rfl)⟩
    case ak_1 =>
      refine W_le (Le.of_eq (by simp; rfl)) ?_
      refine W_reg (jt 1 (k:=(jc [0] (c:=(by apply ct_impl_reader_want <;> first | assumption | omega | (simp at *; omega) | simp_all)) (a:=cb_impl_reader_want) (k:=jf)))) ?_
      refine W_endR2 (by simp [h1]; rfl) (by rfl) (.of_eq ?_) ?_
      all_goals clear hX
      · skip
        rfl
      · skip
        cases b
        · have hnm := hnm rfl
          by_cases hip : i = p <;> by_cases h9 : isAt t i 59 = true <;> simp_all [hit]
        · simp_all [hit]
end Go.Proofs
namespace Go.Proofs
open Go Go.Ev


theorem cb_impl_reader_kind : Callable Tryz.prog 103 := ⟨_, Tryz.func103, by kernel_rfl, by kernel_rfl⟩
theorem ct_impl_reader_kind {t : Str} {p : Nat} (ht : t.length ≤ 1099511627776) (hp : p ≤ t.length) : Ct Tryz.prog 103 [.ptr 0 0 0] [rdr t p false] (.str (if (tyP t p).2 = true then seg t p (tyP t p).1 else [])) [rdr t (tyP t p).1 (!(tyP t p).2)] := by
  refine Ct_bodyS tok Tryz.func103 rfl 35 (by kernel_rfl) (by kernel_rfl) fun X hX => ?_
  refine jq [0] ?_
  refine jq [0, 3] ?_
  refine W_rseqK [0, 3] (jt 1 (k:=(jc [0] (c:=(by apply ct_impl_reader_take <;> first | assumption | omega | (simp [*] <;> omega) | simp_all)) (a:=cb_impl_reader_take) (k:=jf)))) ?_
  obtain ⟨q, hq, hqt, hql, hpq⟩ : ∃ q, adv (isAt t p 91) p = q ∧ tyP t p = tyP1 t q ∧ q ≤ t.length ∧ p ≤ q := ⟨_, rfl, by simp only [tyP]; split <;> simp_all, by have := @adv_le t p 91; omega, by have := @adv_le t p 91; omega⟩
  refine W_le (Le.of_eq (by simp [hq]; rfl)) ?_
  refine W_seq (W_block (W_rseqK [0, 3, 13] (jt 1 (k:=(jc [0] (c:=(by apply ct_impl_reader_take <;> first | assumption | omega | (simp [*] <;> omega) | simp_all)) (a:=cb_impl_reader_take) (k:=jr)))) ?_))
  refine jd (fun h4 => ?_) (fun h4 => ?_)
  · try simp at h4
    have h4l := lt_of_isAt h4
    have s1 : q + 1 ≤ t.length := h4l
    have s2 : p ≤ q + 1 := by omega
    refine W_skip (W_seq (W_rseqK [0, 3, 24] (jh hX (by simp [h4, s1, s2]; rfl)) ?_))
    refine jd (fun h7 => ?_) (fun h7 => ?_)
    · try simp at h7
      all_goals
        refine jq [2] ?_
        refine W_ret (W_retR2 (by simp [h4, s1, s2]; rfl) (by rfl) (.of_eq ?_) ?_)
        all_goals clear hX
        · skip
          simp_all [tyP1, seg]
        · skip
          simp_all [tyP1]
    · try simp at h7
      all_goals
        refine W_skip (jD [2] (jQ (by simp [h4, s1, s2]; rfl)) ?_)
        refine W_ret (W_retR2 (by simp [h4, s1, s2]; rfl) (by rfl) (.of_eq ?_) ?_)
        all_goals clear hX
        · skip
          simp_all [tyP1, seg]
        · skip
          simp_all [tyP1]
  · try simp at h4
    skip
    refine W_rseqK [0, 3, 16] (jt 1 (k:=(Runs.call [0] rfl (by simp) rfl (by simp [h4]; rfl) (by simp; rfl) (by apply ct_impl_reader_take <;> first | assumption | omega | (simp [*] <;> omega) | simp_all) cb_impl_reader_take (by simp) (by simp) (by simp [h4]; rfl) jr))) ?_
    refine jd (fun h5 => ?_) (fun h5 => ?_)
    · try simp at h5
      have h5l := lt_of_isAt h5
      have hnl := nmP_le (t := t) (p := q + 1) (by omega)
      have s1 := hnl.2.1
      have s2 : p ≤ (nmP t (q + 1)).1 := by omega
      refine W_reg (jt 1 (k:=(Runs.call [0] rfl (by simp) rfl (by simp [h4, h5, s1, s2]; rfl) (by simp; rfl) (by apply ct_impl_reader_name <;> first | assumption | omega | (simp [*] <;> omega) | simp_all) cb_impl_reader_name (by simp) (by simp) (by simp [h4, h5, s1, s2]; rfl) jf))) ?_
      refine W_seq (W_rseqK [0, 3, 24] (jh hX (by simp [h4, h5, s1, s2]; rfl)) ?_)
      refine jd (fun h7 => ?_) (fun h7 => ?_)
      · try simp at h7
        all_goals
          refine jq [2] ?_
          refine W_ret (W_retR2 (by simp [h4, h5, s1, s2]; rfl) (by rfl) (.of_eq ?_) ?_)
          all_goals clear hX
          · skip
            simp_all [tyP1, seg]
          · skip
            simp_all [tyP1]
      · try simp at h7
        all_goals
          refine W_skip (jD [2] (jQ (by simp [h4, h5, s1, s2]; rfl)) ?_)
          refine W_ret (W_retR2 (by simp [h4, h5, s1, s2]; rfl) (by rfl) (.of_eq ?_) ?_)
          all_goals clear hX
          · skip
            simp_all [tyP1, seg]
          · skip
            simp_all [tyP1]
    · try simp at h5
      skip
      refine W_reg (jh hX (by simp [h4, h5]; rfl)) ?_
      refine W_seq (W_rseqK [0, 3, 24] (jh hX (by simp [h4, h5]; rfl)) ?_)
      refine jd (fun h7 => ?_) (fun h7 => ?_)
      · try simp at h7
        all_goals
          refine jq [2] ?_
          refine W_ret (W_retR2 (by simp [h4, h5]; rfl) (by rfl) (.of_eq ?_) ?_)
          all_goals clear hX
          · skip
            simp_all [tyP1, seg]
          · skip
            simp_all [tyP1]
      · try simp at h7
        all_goals
          refine W_skip (jD [2] (jQ (by simp [h4, h5]; rfl)) ?_)
          refine W_ret (W_retR2 (by simp [h4, h5]; rfl) (by rfl) (.of_eq ?_) ?_)
          all_goals clear hX
          · skip
            simp_all [tyP1, seg]
          · skip
            simp_all [tyP1]
end Go.Proofs
namespace Go.Proofs
open Go Go.Ev


theorem cb_impl_typeRight : Callable Tryz.prog 58 := ⟨_, Tryz.func58, by kernel_rfl, by kernel_rfl⟩
theorem ct_impl_typeRight {t : Str} (ht : t.length ≤ 1099511627776) : Ct Tryz.prog 58 [.str t] [] (.bool (typeRight t)) [] := by
  refine Ct_bodyS tok Tryz.func58 rfl 23 (by kernel_rfl) (by kernel_rfl) fun X hX => ?_
  refine jq [0] ?_
  refine jq [0, 3] ?_
  refine W_rseqK [0, 3] (jt 1 (k:=(jc [0] (c:=(by apply ct_impl_reader_kind <;> first | assumption | omega | (simp at *; omega) | simp_all)) (a:=cb_impl_reader_kind) (k:=jf)))) ?_
  refine jD [2] (jS 6 (by simp; rfl) (jM 8 14 [22] (p:=fun b3_6 => by (try simp at b3_6); exact (jS 5 (by simp [-atD_lt, -atL_lt]; rfl) (jC (c:=by apply ct_impl_length <;> first | assumption | omega | (simp at *; omega) | simp_all) (a:=cb_impl_length) (k:=(jQ (by simp [-atD_lt, -atL_lt]; rfl)))))) (q:=fun b3_6 => by (try simp at b3_6); exact (jQ (by simp [-atD_lt, -atL_lt]; rfl))) (k:=(jQ (by simp; rfl))))) ?_
  refine W_ret (je0 ?_)
  have := @tyP_le t 0 (by omega)
  simp only [typeRight]
  cases (tyP t 0).2 <;> simp
  omega
end Go.Proofs
namespace Go.Proofs
open Go Go.Ev


theorem cb_impl_within : Callable Tryz.prog 60 := ⟨_, Tryz.func60, by kernel_rfl, by kernel_rfl⟩
theorem ct_impl_within {n a b : Int} : Ct Tryz.prog 60 [.int .i64 n, .int .i64 a, .int .i64 b] [] (.bool (decide (a ≤ n ∧ n ≤ b))) [] := by
  refine Ct_bodyS tok Tryz.func60 rfl 15 (by kernel_rfl) (by kernel_rfl) fun X hX => ?_
  refine jq [0, 1, 2] ?_
  refine W_rseqK [6] (jt 4 (k:=(jm 4 10 [14] (p:=fun b1_4 => by (try simp at b1_4); exact (jh hX (by simp [-atD_lt, -atL_lt]; rfl))) (q:=fun b1_4 => by (try simp at b1_4); exact (jh hX (by simp [-atD_lt, -atL_lt]; rfl))) (k:=jr)))) ?_
  refine W_ret (je0 ?_)
  (try simp_all) <;> grind
end Go.Proofs
namespace Go.Proofs
open Go Go.Ev


theorem cb_impl_NameRight : Callable Tryz.prog 200 := ⟨_, Tryz.func200, by kernel_rfl, by kernel_rfl⟩
theorem ct_impl_NameRight {t : Str} (ht : t.length ≤ 1099511627776) : Ct Tryz.prog 200 [.str t] [] (.bool (nameRight t)) [] := by
  refine Ct_bodyS tok Tryz.func200 rfl 19 (by kernel_rfl) (by kernel_rfl) fun X hX => ?_
  refine jq [0] ?_
  refine W_seq (jq [0, 5, 6] ?_)
  refine W_block (W_loopU (α := Nat) [0, 5, 6] (fun i => [(6, .int .i64 i)]) (fun i => []) (fun i => i ≤ t.length ∧ nameFrom (decide (i = 0)) (t.drop i) = nameFrom true t) (fun i => t.length - i) (0) (fun i => by simp; rfl) (by simp) ?_ ?_)
  · simp
  rintro i ⟨hi, hI⟩
  refine jq [0, 5, 6, 7] ?_
  refine W_seq (jd (fun h2 => ?_) (fun h2 => ?_))
  · try simp at h2
    rw [List.drop_eq_getElem_cons h2] at hI
    simp only [nameFrom] at hI
    refine W_skip (W_seq (W_block (jq [0, 3, 5, 6] ?_)))
    refine W_rseqK [0, 5, 6, 14] (js hX 4 (by simp [h2]; rfl) (jc [] (c:=(by apply ct_impl_isNameByte <;> first | assumption | omega | (simp at *; omega) | simp_all)) (a:=cb_impl_isNameByte) (k:=jr))) ?_
    refine jd (fun h4 => ?_) (fun h4 => ?_)
    · try simp at h4
      refine jq [2] ?_
      refine W_ret (je (by simp [h2]; rfl) ?_)
      rw [nameRight, ← hI, h4]; simp
    · try simp at h4
      rw [h4, Bool.true_and] at hI
      refine W_skip (W_reg (jh hX (by simp; (try (simp (disch := omega) only [wrap_i64]; (try simp))); rfl)) ?_)
      refine round_end (i + 1) [0, 5, 6] (by simp [h2]; try (simp (disch := omega) only [wrap_i64])) ?_ ?_
      · exact ⟨by omega, by simpa using hI⟩
      · omega
  · try simp at h2
    rw [List.drop_eq_nil_of_le h2] at hI
    simp only [nameFrom] at hI
    refine W_exit (W_rseqK [2] (jt 1 (k:=(jc [] (c:=(by apply ct_impl_length <;> first | assumption | omega | (simp at *; omega) | simp_all)) (a:=cb_impl_length) (k:=(jc [] (c:=(by apply ct_impl_within <;> first | assumption | omega | (simp at *; omega) | simp_all)) (a:=cb_impl_within) (k:=jr)))))) ?_)
    refine W_ret (je (by simp [h2]; rfl) ?_)
    rw [nameRight, ← hI]; simp
end Go.Proofs
namespace Go.Proofs
open Go Go.Ev


theorem cb_impl_Class_fieldAt_1 : Callable Tryz.prog 226 := ⟨_, Tryz.func226, by kernel_rfl, by kernel_rfl⟩
theorem ct_impl_Class_fieldAt_1 {x : Fld} {n : Str} : Ct Tryz.prog 226 [eF x, .fp [.str n]] [] (.bool (decide (x.name = n))) [] := by
  refine Ct_bodyS tok Tryz.func226 rfl 8 (by kernel_rfl) (by kernel_rfl) fun X hX => ?_
  refine jq [1, 2] ?_
  refine jq [3] ?_
  refine W_ret (je0 ?_)
  simp_all
end Go.Proofs
namespace Go.Proofs
open Go Go.Ev


theorem cb_slices_IndexFunc_impl_Field_impl_Field : Callable Tryz.prog 225 := ⟨_, Tryz.func225, by kernel_rfl, by kernel_rfl⟩
theorem ct_slices_IndexFunc_impl_Field_impl_Field {n : Str} {l : List Fld} (hl : l.length ≤ 1099511627776) : Ct Tryz.prog 225 [.lst false 3 (l.map eF), .clo (.func 226) [] [.fp [.str n]]] [] (.int .i64 (fix (fun x => decide (x.name = n)) l)) [] := by
  refine Ct_bodyS tok Tryz.func225 rfl 19 (by kernel_rfl) (by kernel_rfl) fun X hX => ?_
  refine jq [0, 1] ?_
  refine W_seq (jq [0, 1, 7, 8] ?_)
  refine W_block (W_loopU (α := Nat) [0, 1, 7, 8] (fun i => [(8, .int .i64 i)]) (fun i => []) (fun i => i ≤ l.length ∧ ∀ x ∈ l.take i, (fun x => decide (x.name = n)) x = false) (fun i => l.length - i) (0) (fun i => by simp; rfl) (by simp) ?_ ?_)
  · simp
  rintro i ⟨hi, hI⟩
  refine jq [0, 1, 7, 8, 9] ?_
  refine W_seq (jd (fun h2 => ?_) (fun h2 => ?_))
  · try simp at h2
    refine W_skip (W_seq (W_block (jq [0, 1, 5, 7, 8] ?_)))
    refine W_rseqK [0, 1, 5, 7, 8, 16] (js hX 5 (by simp [h2]; rfl) (jc [] (c:=(by apply ct_impl_Class_fieldAt_1 <;> first | assumption | exact hs _ (List.getElem_mem h2) | omega)) (a:=cb_impl_Class_fieldAt_1) (k:=jf))) ?_
    refine jd (fun h4 => ?_) (fun h4 => ?_)
    · try simp at h4
      refine jq [4] ?_
      refine W_ret (je (by simp [h2]; rfl) ?_)
      rw [fix_hit h2 hI (by simpa using h4)]
    · try simp at h4
      refine W_skip (W_reg (jh hX (by simp; (try (simp (disch := omega) only [wrap_i64]; (try simp))); rfl)) ?_)
      refine round_end (i + 1) [0, 1, 7, 8] (by simp [h2]; try (simp (disch := omega) only [wrap_i64])) ?_ ?_
      · exact ⟨by omega, take_not h2 hI (by simpa using h4)⟩
      · omega
  · try simp at h2
    refine W_exit (jq [4] ?_)
    refine W_ret (je (by simp [h2]; rfl) ?_)
    rw [fix_none (p := fun x => decide (x.name = n)) (fun x hx => hI x (by rw [List.take_of_length_le h2]; exact hx))]
end Go.Proofs
namespace Go.Proofs
open Go Go.Ev


theorem cb_impl_Class_fieldAt : Callable Tryz.prog 201 := ⟨_, Tryz.func201, by kernel_rfl, by kernel_rfl⟩
theorem ct_impl_Class_fieldAt {x : Cls} {n : Str} (h : x.fields.length ≤ 1099511627776) : Ct Tryz.prog 201 [eC x, .str n] [] (.int .i64 (fix (fun f => decide (f.name = n)) x.fields)) [] := by
  refine Ct_bodyS tok Tryz.func201 rfl 9 (by kernel_rfl) (by kernel_rfl) fun X hX => ?_
  refine jq [2, 3] ?_
  refine W_rseqK [4] (jt 3 (k:=(jB (c:=(by apply ct_slices_IndexFunc_impl_Field_impl_Field <;> first | assumption | omega | (simp at *; omega) | simp_all)) (a:=cb_slices_IndexFunc_impl_Field_impl_Field) (k:=jr)))) ?_
  refine W_ret (je0 ?_)
  simp_all
end Go.Proofs
namespace Go.Proofs
open Go Go.Ev


theorem cb_impl_descRead : Callable Tryz.prog 205 := ⟨_, Tryz.func205, by kernel_rfl, by kernel_rfl⟩
theorem ct_impl_descRead {t : Str} (ht : t.length ≤ 1099511627776) : Ct Tryz.prog 205 [.str t] [] (eDO (dRead t)) [] := by
  refine Ct_bodyS tok Tryz.func205 rfl 66 (by kernel_rfl) (by kernel_rfl) fun X hX => ?_
  refine jq [0, 2] ?_
  refine jq [0, 2, 3, 4] ?_
  refine W_rseqK [0, 2, 3, 4] (jt 1 (k:=(jc [1] (c:=(by apply ct_impl_reader_want <;> first | assumption | omega | (simp [*] <;> omega) | (simp <;> omega))) (a:=cb_impl_reader_want) (k:=jf)))) ?_
  refine W_seq (W_block (W_le (Le.nilC 2 0 0 1 (by simp; rfl)) ?_))
  refine W_loopU (α := List Str × Nat × Bool) [0, 2, 3, 4] (fun a => []) (fun a => [(1, rdr t a.2.1 a.2.2), (2, some (2, [.agg [.arr 3 0 a.1.length, .str []]])), (3, some (1, a.1.map V.str))]) (fun a => a.2.1 ≤ t.length ∧ a.1.length ≤ 8 ∧ (a.2.2 = true → dRead t = dErr a.2.1) ∧ (a.2.2 = false → isAt t 0 40 = true ∧ dParams t (8 - a.1.length) a.2.1 a.1 = dParams t 8 1 [])) (fun a => 8 - a.1.length) (([], adv (isAt t 0 40) 0, !isAt t 0 40)) (fun a => by simp; rfl) (by simp) ?_ ?_
  · have h9 := @adv_le t 0 40
    refine ⟨by simp; omega, by simp, ?_, ?_⟩
    · intro h; simp at h; simp [dRead, h]
    · intro h; simp at h; simp [h]
  rintro ⟨ps, p, b⟩ ⟨hp, hn, hE, hI⟩
  simp only at hp hn hE hI
  cases b
  all_goals
    refine W_seq ?_
    first | (refine W_rseqK [0, 2, 3, 4, 20] (jt 7 (k:=(jc [1] (c:=(by apply ct_impl_reader_take <;> first | assumption | omega | (simp [*] <;> omega) | (simp <;> omega))) (a:=cb_impl_reader_take) (k:=jr)))) ?_) | (refine jq [0, 2, 3, 4, 20] ?_) | (refine W_rseqK [0, 2, 3, 4, 20] (jt 6 (k:=(jm 4 16 [0, 2, 3, 4, 20] (p:=fun b3_6 => by (try simp at b3_6); exact (js hX 1 (by simp [-atD_lt, -atL_lt]; rfl) (Runs.call [1] rfl (by simp) rfl (by simp [-atD_lt, -atL_lt]; rfl) (by simp; rfl) (by apply ct_impl_reader_take <;> first | assumption | omega | (simp [*] <;> omega) | (simp <;> omega)) cb_impl_reader_take (by simp) (by simp) (by simp [-atD_lt, -atL_lt]; rfl) (jh hX (by simp [-atD_lt, -atL_lt]; rfl))))) (q:=fun b3_6 => by (try simp at b3_6); exact (jh hX (by simp [-atD_lt, -atL_lt]; rfl))) (k:=jf)))) ?_)
    refine jd (fun h3 => ?_) (fun h3 => ?_)
    · try simp at h3
      all_goals
        have h3b : isAt t p 41 = false := by simpa using h3
        obtain ⟨hI1, hI⟩ := hI rfl
        have w1 : (ps.length + 1) * 16 ≤ 140737488355328 := by omega
        have w2 : ps.length ≤ 1099511627775 := by omega
        refine W_skip (W_block (W_seq (W_rseqK [0, 2, 3, 4, 24] (jh hX (by simp [h3b, w1, w2]; rfl)) ?_)))
        refine jd (fun h4 => ?_) (fun h4 => ?_)
        · try simp at h4
          have h4b : 8 - ps.length = 0 := by omega
          rw [h4b, dParams, if_neg (by simp [h3b])] at hI
          have hd : dRead t = dErr p := dRead_err hI1 hI.symm
          refine W_rseqK [0, 2, 3, 4] (jh hX (by simp [h3b, w1, w2]; rfl)) ?_
          refine W_exit (W_seq (W_rseqK [0, 2, 3, 4, 36] (jt 1 (k:=(jc [1] (c:=(by apply ct_impl_reader_take <;> first | assumption | omega | (simp [*] <;> omega) | (simp <;> omega))) (a:=cb_impl_reader_take) (k:=jf)))) ?_))
          refine jd (fun h7 => ?_) (fun h7 => ?_)
          · try simp at h7
            all_goals
              have h7b : isAt t (p + 1) 86 = true := by simpa [h3b] using h7
              have w2 := lt_of_isAt h7b
              refine W_reg (jh hX (by simp [h3b, w1, w2, h7b, w2]; rfl)) ?_
              refine W_seq ?_
              first | (refine jD [2, 3, 4, 58] (jQ (by simp [h3b, w1, w2, h7b, w2]; rfl)) ?_) | (refine jD [2, 3, 4, 58] (jS 10 (by simp [h3b, w1, w2, h7b, w2]; rfl) (jC (c:=by apply ct_impl_length <;> first | assumption | omega | (simp [*] <;> omega) | (simp <;> omega)) (a:=cb_impl_length) (k:=(jQ (by simp; rfl))))) ?_) | (refine jD [2, 3, 4, 58] (jS 5 (by simp [h3b, w1, w2, h7b, w2]; rfl) (jM 8 50 [2, 3, 4, 58] (p:=fun b11_5 => by (try simp at b11_5); exact (jQ (by simp [-atD_lt, -atL_lt]; rfl))) (q:=fun b11_5 => by (try simp at b11_5); exact (jS 5 (by simp [-atD_lt, -atL_lt, h3b, w1, w2, h7b, w2]; rfl) (jC (c:=by apply ct_impl_length <;> first | assumption | omega | (simp [*] <;> omega) | (simp <;> omega)) (a:=cb_impl_length) (k:=(jQ (by simp [-atD_lt, -atL_lt]; rfl)))))) (k:=(RunsQ.fin (by (try simp); rfl))))) ?_)
              refine jd (fun h11 => ?_) (fun h11 => ?_)
              · try simp at h11
                all_goals
                  refine W_rseqK [2] (jh hX (by simp [h3b, w1, w2, h7b, w2, h11]; rfl)) ?_
                  refine W_ret (W_retR (by simp [h3b, w1, w2, h7b, w2, h11]; rfl) ?_ rfl)
                  first
                    | (rw [hd]; exact wk_err _ _ _)
                    | (rw [hE rfl]; exact wk_err _ _ _)
                    | (rw [hd, show dTail t ps p = dErr (p + 2) from by simp only [dTail, h7b, if_true]; rw [if_pos (by omega)]]; exact wk_err _ _ _)
                    | (rw [hd, show dTail t ps p = dErr (tyP t (p + 1)).1 from by simp only [dTail, h7b, Bool.false_eq_true, if_false]; grind]; exact wk_err _ _ _)
              · try simp at h11
                all_goals
                  refine W_skip (W_rseqK [2] (jh hX (by simp [h3b, w1, w2, h7b, w2, h11]; rfl)) ?_)
                  refine W_ret (W_retR (by simp [h3b, w1, w2, h7b, w2, h11]; rfl) ?_ rfl)
                  first
                    | (rw [hd, show dTail t ps p = ⟨ps, [86], 0, 0⟩ from by simp only [dTail, h7b, if_true]; rw [if_neg (by omega)]]; exact Wk.refl _)
                    | (rw [hd, show dTail t ps p = ⟨ps, seg t (p + 1) (tyP t (p + 1)).1, 0, 0⟩ from by simp only [dTail, h7b, Bool.false_eq_true, if_false]; grind]; exact Wk.refl _)
          · try simp at h7
            all_goals
              first
                | (have h7b : isAt t (p + 1) 86 = false := by simpa [h3b] using h7)
                | have h7b := trivial
              refine W_rseqK [0, 2, 3, 4, 42] (jh hX (by simp [h3b, w1, w2, h7b]; rfl)) ?_
              refine jd (fun h9 => ?_) (fun h9 => ?_)
              · try simp at h9
                all_goals
                  refine W_reg (jt 1 (k:=(jc [1] (c:=(by apply ct_impl_reader_kind <;> first | assumption | omega | (simp [*] <;> omega) | (simp <;> omega))) (a:=cb_impl_reader_kind) (k:=(jh hX (by simp [h3b, w1, w2, h7b]; rfl)))))) ?_
                  refine W_seq ?_
                  first | (refine jD [2, 3, 4, 58] (jQ (by simp [h3b, w1, w2, h7b]; rfl)) ?_) | (refine jD [2, 3, 4, 58] (jS 10 (by simp [h3b, w1, w2, h7b]; rfl) (jC (c:=by apply ct_impl_length <;> first | assumption | omega | (simp [*] <;> omega) | (simp <;> omega)) (a:=cb_impl_length) (k:=(jQ (by simp; rfl))))) ?_) | (refine jD [2, 3, 4, 58] (jS 5 (by simp [h3b, w1, w2, h7b]; rfl) (jM 8 50 [2, 3, 4, 58] (p:=fun b11_5 => by (try simp at b11_5); exact (jQ (by simp [-atD_lt, -atL_lt]; rfl))) (q:=fun b11_5 => by (try simp at b11_5); exact (jS 5 (by simp [-atD_lt, -atL_lt, h3b, w1, w2, h7b]; rfl) (jC (c:=by apply ct_impl_length <;> first | assumption | omega | (simp [*] <;> omega) | (simp <;> omega)) (a:=cb_impl_length) (k:=(jQ (by simp [-atD_lt, -atL_lt]; rfl)))))) (k:=(RunsQ.fin (by (try simp); rfl))))) ?_)
                  refine jd (fun h11 => ?_) (fun h11 => ?_)
                  · try simp at h11
                    all_goals
                      refine W_rseqK [2] (jh hX (by simp [h3b, w1, w2, h7b, h11]; rfl)) ?_
                      refine W_ret (W_retR (by simp [h3b, w1, w2, h7b, h11]; rfl) ?_ rfl)
                      first
                        | (rw [hd]; exact wk_err _ _ _)
                        | (rw [hE rfl]; exact wk_err _ _ _)
                        | (rw [hd, show dTail t ps p = dErr (p + 2) from by simp only [dTail, h7b, if_true]; rw [if_pos (by omega)]]; exact wk_err _ _ _)
                        | (rw [hd, show dTail t ps p = dErr (tyP t (p + 1)).1 from by simp only [dTail, h7b, Bool.false_eq_true, if_false]; grind]; exact wk_err _ _ _)
                  · try simp at h11
                    all_goals
                      refine W_skip (W_rseqK [2] (jh hX (by simp [h3b, w1, w2, h7b, h11]; rfl)) ?_)
                      refine W_ret (W_retR (by simp [h3b, w1, w2, h7b, h11]; rfl) ?_ rfl)
                      first
                        | (rw [hd, show dTail t ps p = ⟨ps, [86], 0, 0⟩ from by simp only [dTail, h7b, if_true]; rw [if_neg (by omega)]]; exact Wk.refl _)
                        | (rw [hd, show dTail t ps p = ⟨ps, seg t (p + 1) (tyP t (p + 1)).1, 0, 0⟩ from by simp only [dTail, h7b, Bool.false_eq_true, if_false]; grind]; exact Wk.refl _)
              · try simp at h9
                all_goals
                  refine W_skip (W_seq ?_)
                  first | (refine jD [2, 3, 4, 58] (jQ (by simp [h3b, w1, w2, h7b]; rfl)) ?_) | (refine jD [2, 3, 4, 58] (jS 10 (by simp [h3b, w1, w2, h7b]; rfl) (jC (c:=by apply ct_impl_length <;> first | assumption | omega | (simp [*] <;> omega) | (simp <;> omega)) (a:=cb_impl_length) (k:=(jQ (by simp; rfl))))) ?_) | (refine jD [2, 3, 4, 58] (jS 5 (by simp [h3b, w1, w2, h7b]; rfl) (jM 8 50 [2, 3, 4, 58] (p:=fun b11_5 => by (try simp at b11_5); exact (jQ (by simp [-atD_lt, -atL_lt]; rfl))) (q:=fun b11_5 => by (try simp at b11_5); exact (jS 5 (by simp [-atD_lt, -atL_lt, h3b, w1, w2, h7b]; rfl) (jC (c:=by apply ct_impl_length <;> first | assumption | omega | (simp [*] <;> omega) | (simp <;> omega)) (a:=cb_impl_length) (k:=(jQ (by simp [-atD_lt, -atL_lt]; rfl)))))) (k:=(RunsQ.fin (by (try simp); rfl))))) ?_)
                  refine jd (fun h11 => ?_) (fun h11 => ?_)
                  · try simp at h11
                    all_goals
                      refine W_rseqK [2] (jh hX (by simp [h3b, w1, w2, h7b, h11]; rfl)) ?_
                      refine W_ret (W_retR (by simp [h3b, w1, w2, h7b, h11]; rfl) ?_ rfl)
                      first
                        | (rw [hd]; exact wk_err _ _ _)
                        | (rw [hE rfl]; exact wk_err _ _ _)
                        | (rw [hd, show dTail t ps p = dErr (p + 2) from by simp only [dTail, h7b, if_true]; rw [if_pos (by omega)]]; exact wk_err _ _ _)
                        | (rw [hd, show dTail t ps p = dErr (tyP t (p + 1)).1 from by simp only [dTail, h7b, Bool.false_eq_true, if_false]; grind]; exact wk_err _ _ _)
                  · try simp at h11
                    all_goals
                      refine W_skip (W_rseqK [2] (jh hX (by simp [h3b, w1, w2, h7b, h11]; rfl)) ?_)
                      refine W_ret (W_retR (by simp [h3b, w1, w2, h7b, h11]; rfl) ?_ rfl)
                      first
                        | (rw [hd, show dTail t ps p = ⟨ps, [86], 0, 0⟩ from by simp only [dTail, h7b, if_true]; rw [if_neg (by omega)]]; exact Wk.refl _)
                        | (rw [hd, show dTail t ps p = ⟨ps, seg t (p + 1) (tyP t (p + 1)).1, 0, 0⟩ from by simp only [dTail, h7b, Bool.false_eq_true, if_false]; grind]; exact Wk.refl _)
        · try simp at h4
          have h4b : 8 - ps.length = (8 - (ps.length + 1)) + 1 := by omega
          rw [h4b, dParams, if_neg (by simp [h3b])] at hI
          obtain ⟨hge, hle, hgt, _⟩ := tyP_le hp
          have hE3 : (!(tyP t p).2) = true → dRead t = dErr (tyP t p).1 := by
            intro h; rw [if_neg (by simpa using h)] at hI; exact dRead_err hI1 hI.symm
          have hI3 : (!(tyP t p).2) = false → isAt t 0 40 = true ∧ dParams t (8 - (ps ++ [if (tyP t p).2 = true then seg t p (tyP t p).1 else []]).length) (tyP t p).1 (ps ++ [if (tyP t p).2 = true then seg t p (tyP t p).1 else []]) = dParams t 8 1 [] := by
            intro h; have h : (tyP t p).2 = true := by simpa using h
            rw [if_pos h] at hI ⊢; refine ⟨hI1, ?_⟩; rw [← hI]; simp
          refine W_skip (W_held (n := 5) (A := [0, 1, 2]) (B := [3, 4]) (L := [2]) hmo (by kernel_rfl) tok hX (by simp [h3b, w1, w2]; rfl) (jH (p:=fun X hX => (jc [1] (c:=(by apply ct_impl_reader_kind <;> first | assumption | omega | (simp [*] <;> omega) | (simp <;> omega))) (a:=cb_impl_reader_kind) (k:=jf))) (k:=(jH (p:=fun X hX => jr) (k:=.nil)))) (jh hX (by simp [h3b, w1, w2]; rfl)) ?_)
          refine round_endT ((ps ++ [if (tyP t p).2 = true then seg t p (tyP t p).1 else []], (tyP t p).1, !(tyP t p).2)) [0, 2, 3, 4] 4 (by simp [hX]) (by simp) (by simp [h3b, w1, w2]; try (simp (disch := omega) only [wrap_i64])) ?_ ?_
          · exact ⟨hle, by simp; omega, hE3, hI3⟩
          · simp; omega
    · try simp at h3
      all_goals
        first
          | (have h3b : isAt t p 41 = true := by simpa using h3
             have hI1 := (hI rfl).1
             have hI := (hI rfl).2
             have hd : dRead t = dTail t ps p := dRead_ok hI1 (by rw [← hI]; cases 8 - ps.length <;> simp [dParams, h3b])
             have w0 : p + 1 ≤ t.length := lt_of_isAt h3b
             have w1 := tyP_le w0)
          | (have h3b := trivial
             have w0 := trivial
             have w1 := trivial)
        refine W_exit (W_seq (W_rseqK [0, 2, 3, 4, 36] (jt 1 (k:=(jc [1] (c:=(by apply ct_impl_reader_take <;> first | assumption | omega | (simp [*] <;> omega) | (simp <;> omega))) (a:=cb_impl_reader_take) (k:=jf)))) ?_))
        refine jd (fun h7 => ?_) (fun h7 => ?_)
        · try simp at h7
          all_goals
            have h7b : isAt t (p + 1) 86 = true := by simpa [h3b] using h7
            have w2 := lt_of_isAt h7b
            refine W_reg (jh hX (by simp [h3b, w0, w1, h7b, w2]; rfl)) ?_
            refine W_seq ?_
            first | (refine jD [2, 3, 4, 58] (jQ (by simp [h3b, w0, w1, h7b, w2]; rfl)) ?_) | (refine jD [2, 3, 4, 58] (jS 10 (by simp [h3b, w0, w1, h7b, w2]; rfl) (jC (c:=by apply ct_impl_length <;> first | assumption | omega | (simp [*] <;> omega) | (simp <;> omega)) (a:=cb_impl_length) (k:=(jQ (by simp; rfl))))) ?_) | (refine jD [2, 3, 4, 58] (jS 5 (by simp [h3b, w0, w1, h7b, w2]; rfl) (jM 8 50 [2, 3, 4, 58] (p:=fun b11_5 => by (try simp at b11_5); exact (jQ (by simp [-atD_lt, -atL_lt]; rfl))) (q:=fun b11_5 => by (try simp at b11_5); exact (jS 5 (by simp [-atD_lt, -atL_lt, h3b, w0, w1, h7b, w2]; rfl) (jC (c:=by apply ct_impl_length <;> first | assumption | omega | (simp [*] <;> omega) | (simp <;> omega)) (a:=cb_impl_length) (k:=(jQ (by simp [-atD_lt, -atL_lt]; rfl)))))) (k:=(RunsQ.fin (by (try simp); rfl))))) ?_)
            refine jd (fun h11 => ?_) (fun h11 => ?_)
            · try simp at h11
              all_goals
                refine W_rseqK [2] (jh hX (by simp [h3b, w0, w1, h7b, w2, h11]; rfl)) ?_
                refine W_ret (W_retR (by simp [h3b, w0, w1, h7b, w2, h11]; rfl) ?_ rfl)
                first
                  | (rw [hd]; exact wk_err _ _ _)
                  | (rw [hE rfl]; exact wk_err _ _ _)
                  | (rw [hd, show dTail t ps p = dErr (p + 2) from by simp only [dTail, h7b, if_true]; rw [if_pos (by omega)]]; exact wk_err _ _ _)
                  | (rw [hd, show dTail t ps p = dErr (tyP t (p + 1)).1 from by simp only [dTail, h7b, Bool.false_eq_true, if_false]; grind]; exact wk_err _ _ _)
            · try simp at h11
              all_goals
                refine W_skip (W_rseqK [2] (jh hX (by simp [h3b, w0, w1, h7b, w2, h11]; rfl)) ?_)
                refine W_ret (W_retR (by simp [h3b, w0, w1, h7b, w2, h11]; rfl) ?_ rfl)
                first
                  | (rw [hd, show dTail t ps p = ⟨ps, [86], 0, 0⟩ from by simp only [dTail, h7b, if_true]; rw [if_neg (by omega)]]; exact Wk.refl _)
                  | (rw [hd, show dTail t ps p = ⟨ps, seg t (p + 1) (tyP t (p + 1)).1, 0, 0⟩ from by simp only [dTail, h7b, Bool.false_eq_true, if_false]; grind]; exact Wk.refl _)
        · try simp at h7
          all_goals
            first
              | (have h7b : isAt t (p + 1) 86 = false := by simpa [h3b] using h7)
              | have h7b := trivial
            refine W_rseqK [0, 2, 3, 4, 42] (jh hX (by simp [h3b, w0, w1, h7b]; rfl)) ?_
            refine jd (fun h9 => ?_) (fun h9 => ?_)
            · try simp at h9
              all_goals
                refine W_reg (jt 1 (k:=(jc [1] (c:=(by apply ct_impl_reader_kind <;> first | assumption | omega | (simp [*] <;> omega) | (simp <;> omega))) (a:=cb_impl_reader_kind) (k:=(jh hX (by simp [h3b, w0, w1, h7b]; rfl)))))) ?_
                refine W_seq ?_
                first | (refine jD [2, 3, 4, 58] (jQ (by simp [h3b, w0, w1, h7b]; rfl)) ?_) | (refine jD [2, 3, 4, 58] (jS 10 (by simp [h3b, w0, w1, h7b]; rfl) (jC (c:=by apply ct_impl_length <;> first | assumption | omega | (simp [*] <;> omega) | (simp <;> omega)) (a:=cb_impl_length) (k:=(jQ (by simp; rfl))))) ?_) | (refine jD [2, 3, 4, 58] (jS 5 (by simp [h3b, w0, w1, h7b]; rfl) (jM 8 50 [2, 3, 4, 58] (p:=fun b11_5 => by (try simp at b11_5); exact (jQ (by simp [-atD_lt, -atL_lt]; rfl))) (q:=fun b11_5 => by (try simp at b11_5); exact (jS 5 (by simp [-atD_lt, -atL_lt, h3b, w0, w1, h7b]; rfl) (jC (c:=by apply ct_impl_length <;> first | assumption | omega | (simp [*] <;> omega) | (simp <;> omega)) (a:=cb_impl_length) (k:=(jQ (by simp [-atD_lt, -atL_lt]; rfl)))))) (k:=(RunsQ.fin (by (try simp); rfl))))) ?_)
                refine jd (fun h11 => ?_) (fun h11 => ?_)
                · try simp at h11
                  all_goals
                    refine W_rseqK [2] (jh hX (by simp [h3b, w0, w1, h7b, h11]; rfl)) ?_
                    refine W_ret (W_retR (by simp [h3b, w0, w1, h7b, h11]; rfl) ?_ rfl)
                    first
                      | (rw [hd]; exact wk_err _ _ _)
                      | (rw [hE rfl]; exact wk_err _ _ _)
                      | (rw [hd, show dTail t ps p = dErr (p + 2) from by simp only [dTail, h7b, if_true]; rw [if_pos (by omega)]]; exact wk_err _ _ _)
                      | (rw [hd, show dTail t ps p = dErr (tyP t (p + 1)).1 from by simp only [dTail, h7b, Bool.false_eq_true, if_false]; grind]; exact wk_err _ _ _)
                · try simp at h11
                  all_goals
                    refine W_skip (W_rseqK [2] (jh hX (by simp [h3b, w0, w1, h7b, h11]; rfl)) ?_)
                    refine W_ret (W_retR (by simp [h3b, w0, w1, h7b, h11]; rfl) ?_ rfl)
                    first
                      | (rw [hd, show dTail t ps p = ⟨ps, [86], 0, 0⟩ from by simp only [dTail, h7b, if_true]; rw [if_neg (by omega)]]; exact Wk.refl _)
                      | (rw [hd, show dTail t ps p = ⟨ps, seg t (p + 1) (tyP t (p + 1)).1, 0, 0⟩ from by simp only [dTail, h7b, Bool.false_eq_true, if_false]; grind]; exact Wk.refl _)
            · try simp at h9
              all_goals
                refine W_skip (W_seq ?_)
                first | (refine jD [2, 3, 4, 58] (jQ (by simp [h3b, w0, w1, h7b]; rfl)) ?_) | (refine jD [2, 3, 4, 58] (jS 10 (by simp [h3b, w0, w1, h7b]; rfl) (jC (c:=by apply ct_impl_length <;> first | assumption | omega | (simp [*] <;> omega) | (simp <;> omega)) (a:=cb_impl_length) (k:=(jQ (by simp; rfl))))) ?_) | (refine jD [2, 3, 4, 58] (jS 5 (by simp [h3b, w0, w1, h7b]; rfl) (jM 8 50 [2, 3, 4, 58] (p:=fun b11_5 => by (try simp at b11_5); exact (jQ (by simp [-atD_lt, -atL_lt]; rfl))) (q:=fun b11_5 => by (try simp at b11_5); exact (jS 5 (by simp [-atD_lt, -atL_lt, h3b, w0, w1, h7b]; rfl) (jC (c:=by apply ct_impl_length <;> first | assumption | omega | (simp [*] <;> omega) | (simp <;> omega)) (a:=cb_impl_length) (k:=(jQ (by simp [-atD_lt, -atL_lt]; rfl)))))) (k:=(RunsQ.fin (by (try simp); rfl))))) ?_)
                refine jd (fun h11 => ?_) (fun h11 => ?_)
                · try simp at h11
                  all_goals
                    refine W_rseqK [2] (jh hX (by simp [h3b, w0, w1, h7b, h11]; rfl)) ?_
                    refine W_ret (W_retR (by simp [h3b, w0, w1, h7b, h11]; rfl) ?_ rfl)
                    first
                      | (rw [hd]; exact wk_err _ _ _)
                      | (rw [hE rfl]; exact wk_err _ _ _)
                      | (rw [hd, show dTail t ps p = dErr (p + 2) from by simp only [dTail, h7b, if_true]; rw [if_pos (by omega)]]; exact wk_err _ _ _)
                      | (rw [hd, show dTail t ps p = dErr (tyP t (p + 1)).1 from by simp only [dTail, h7b, Bool.false_eq_true, if_false]; grind]; exact wk_err _ _ _)
                · try simp at h11
                  all_goals
                    refine W_skip (W_rseqK [2] (jh hX (by simp [h3b, w0, w1, h7b, h11]; rfl)) ?_)
                    refine W_ret (W_retR (by simp [h3b, w0, w1, h7b, h11]; rfl) ?_ rfl)
                    first
                      | (rw [hd, show dTail t ps p = ⟨ps, [86], 0, 0⟩ from by simp only [dTail, h7b, if_true]; rw [if_neg (by omega)]]; exact Wk.refl _)
                      | (rw [hd, show dTail t ps p = ⟨ps, seg t (p + 1) (tyP t (p + 1)).1, 0, 0⟩ from by simp only [dTail, h7b, Bool.false_eq_true, if_false]; grind]; exact Wk.refl _)
end Go.Proofs
namespace Go.Proofs
open Go Go.Ev


theorem cb_impl_isMethodName : Callable Tryz.prog 227 := ⟨_, Tryz.func227, by kernel_rfl, by kernel_rfl⟩
theorem ct_impl_isMethodName {t : Str} (ht : t.length ≤ 1099511627776) : Ct Tryz.prog 227 [.str t] [] (.bool (nameRight t || decide (t = init))) [] := by
  refine Ct_bodyS tok Tryz.func227 rfl 9 (by kernel_rfl) (by kernel_rfl) fun X hX => ?_
  refine jq [0] ?_
  refine W_rseqK [2] (jt 1 (k:=(jc [] (c:=(by apply ct_impl_NameRight <;> first | assumption | omega | (simp at *; omega) | simp_all)) (a:=cb_impl_NameRight) (k:=(jt 1 (k:=(jm 3 5 [8] (p:=fun b1_3 => by (try simp at b1_3); exact (jh hX (by simp [-atD_lt, -atL_lt]; rfl))) (q:=fun b1_3 => by (try simp at b1_3); exact (jh hX (by simp [-atD_lt, -atL_lt]; rfl))) (k:=jr)))))))) ?_
  refine W_ret (je0 ?_)
  (try simp_all [init]) <;> grind
end Go.Proofs
namespace Go.Proofs
open Go Go.Ev


theorem cb_impl_isText : Callable Tryz.prog 79 := ⟨_, Tryz.func79, by kernel_rfl, by kernel_rfl⟩
theorem ct_impl_isText {l : List Str} (hl : l.length ≤ 1099511627776) : Ct Tryz.prog 79 [.lst false 1 (l.map V.str)] [] (.bool (l.all fun t => decide (t.length ≤ 20000))) [] := by
  refine Ct_bodyS tok Tryz.func79 rfl 15 (by kernel_rfl) (by kernel_rfl) fun X hX => ?_
  refine jq [0] ?_
  refine W_seq (jq [5, 6, 7] ?_)
  refine W_block (W_loopU (α := Nat) [5, 6, 7] (fun i => [(7, .int .i64 i)]) (fun i => []) (fun i => i ≤ l.length ∧ (l.drop i).all (fun t => decide (t.length ≤ 20000)) = l.all fun t => decide (t.length ≤ 20000)) (fun i => l.length - i) (0) (fun i => by simp; rfl) (by simp) ?_ ?_)
  · simp
  rintro i ⟨hi, hI⟩
  refine jq [5, 6, 7, 8] ?_
  refine W_seq (jd (fun h2 => ?_) (fun h2 => ?_))
  · try simp at h2
    rw [List.drop_eq_getElem_cons h2] at hI
    simp only [List.all_cons] at hI
    refine W_skip (W_seq (W_block (W_rseqK [4, 5, 6, 7] (jh hX (by simp [h2]; rfl)) ?_)))
    refine W_rseqK [5, 6, 7, 13] (jh hX (by simp [h2]; rfl)) ?_
    refine jd (fun h4 => ?_) (fun h4 => ?_)
    · try simp at h4
      refine jq [2] ?_
      refine W_ret (je (by simp [h2, h4]; rfl) ?_)
      rw [← hI, decide_eq_false (by omega)]; rfl
    · try simp at h4
      rw [decide_eq_true (by omega), Bool.true_and] at hI
      refine W_skip (W_reg (jh hX (by simp; (try (simp (disch := omega) only [wrap_i64]; (try simp))); rfl)) ?_)
      refine round_end (i + 1) [5, 6, 7] (by simp [h2, h4]; try (simp (disch := omega) only [wrap_i64])) ?_ ?_
      · exact ⟨by omega, hI⟩
      · omega
  · try simp at h2
    refine W_exit (jq [2] ?_)
    refine W_ret (je (by simp [h2]; rfl) ?_)
    rw [← hI, List.drop_eq_nil_of_le h2]; rfl
end Go.Proofs
namespace Go.Proofs
open Go Go.Ev


theorem cb_impl_isDesc : Callable Tryz.prog 228 := ⟨_, Tryz.func228, by kernel_rfl, by kernel_rfl⟩
theorem ct_impl_isDesc {t : Str} (ht : t.length ≤ 1099511627776) : Ct Tryz.prog 228 [.str t] [] (.bool (decide ((descRead t).code = 0))) [] := by
  refine Ct_bodyS tok Tryz.func228 rfl 12 (by kernel_rfl) (by kernel_rfl) fun X hX => ?_
  refine jq [0] ?_
  refine W_rseqK [2] (jt 2 (k:=(jB (c:=(by apply (ct_impl_isText (l := [t])) <;> simp)) (a:=cb_impl_isText) (k:=(jt 1 (k:=(jm 5 6 [11] (p:=fun b1_4 => by (try simp at b1_4); exact (js hX 1 (by simp [-atD_lt, -atL_lt]; rfl) (Runs.callF rfl (by simp) rfl (by simp [-atD_lt, -atL_lt]; rfl) (by apply ct_impl_descRead <;> first | assumption | omega | (simp at *; omega) | simp_all) cb_impl_descRead (by simp [-atD_lt, -atL_lt]; rfl) (jh hX (by simp [-atD_lt, -atL_lt]; rfl))))) (q:=fun b1_4 => by (try simp at b1_4); exact (jh hX (by simp [-atD_lt, -atL_lt]; rfl))) (k:=jr)))))))) ?_
  refine W_ret (je0 ?_)
  unfold descRead
  (try simp_all) <;> grind
end Go.Proofs
namespace Go.Proofs
open Go Go.Ev


theorem cb_impl_size_impl_Ins : Callable Tryz.prog 209 := ⟨_, Tryz.func209, by kernel_rfl, by kernel_rfl⟩
theorem ct_impl_size_impl_Ins {l : List Ins} : Ct Tryz.prog 209 [.lst false 5 (l.map eI)] [] (.int .i64 l.length) [] := by
  refine Ct_bodyS tok Tryz.func209 rfl 5 (by kernel_rfl) (by kernel_rfl) fun X hX => ?_
  refine jq [0] ?_
  refine jq [2] ?_
  refine W_ret (je0 ?_)
  simp
end Go.Proofs
namespace Go.Proofs
open Go Go.Ev


theorem cb_impl_isOp : Callable Tryz.prog 240 := ⟨_, Tryz.func240, by kernel_rfl, by kernel_rfl⟩
theorem ct_impl_isOp {n : Int} : Ct Tryz.prog 240 [.int .i64 n] [] (.bool (decide (1 ≤ n ∧ n ≤ 44))) [] := by
  refine Ct_bodyS tok Tryz.func240 rfl 5 (by kernel_rfl) (by kernel_rfl) fun X hX => ?_
  refine jq [0] ?_
  refine W_rseqK [2] (jt 1 (k:=(jc [] (c:=(by apply ct_impl_within <;> first | assumption | omega | (simp at *; omega) | simp_all)) (a:=cb_impl_within) (k:=jr)))) ?_
  refine W_ret (je0 ?_)
  simp
end Go.Proofs
namespace Go.Proofs
open Go Go.Ev


theorem cb_impl_opForms : Callable Tryz.prog 241 := ⟨_, Tryz.func241, by kernel_rfl, by kernel_rfl⟩
theorem ct_impl_opForms  : Ct Tryz.prog 241 [] [] (.lst true 1 (formL.map V.str)) [] := by
  refine Ct_bodyS tok Tryz.func241 rfl 2 (by kernel_rfl) (by kernel_rfl) fun X hX => ?_
  refine jq [] ?_
  refine jq [0] ?_
  refine W_ret (je0 ?_)
  rfl
end Go.Proofs
namespace Go.Proofs
open Go Go.Ev


theorem cb_impl_OpForm : Callable Tryz.prog 234 := ⟨_, Tryz.func234, by kernel_rfl, by kernel_rfl⟩
theorem ct_impl_OpForm {op : Int} : Ct Tryz.prog 234 [.int .i64 op] [] (.str (opForm op)) [] := by
  have hol : formL.length = 44 := rfl
  refine Ct_bodyS tok Tryz.func234 rfl 11 (by kernel_rfl) (by kernel_rfl) fun X hX => ?_
  refine jq [0] ?_
  refine W_seq (W_rseqK [0, 5] (jt 1 (k:=(jc [] (c:=(by apply ct_impl_isOp <;> first | assumption | omega | (simp at *; omega) | simp_all)) (a:=cb_impl_isOp) (k:=jr)))) ?_)
  refine jd (fun h1 => ?_) (fun h1 => ?_)
  · try simp at h1
    refine jq [2] ?_
    refine W_ret (je0 ?_)
    simp only [opForm]; rw [if_pos (by omega)]
  · try simp at h1
    obtain ⟨k, rfl⟩ : ∃ k : Nat, op = (k : Int) + 1 := ⟨(op - 1).toNat, by omega⟩
    have hk : k < formL.length := by rw [hol]; omega
    have hk1 : IntKind.i64.wrap ((k : Int) + 1 - 1) = k := by rw [wrap_i64 (by omega) (by omega)]; omega
    refine W_skip (W_rseqK [2] (jF (c:=(by apply ct_impl_opForms <;> first | assumption | omega | (simp at *; omega) | simp_all)) (a:=cb_impl_opForms) (k:=(jh hX (by simp [hk, hk1]; (try (simp (disch := omega) only [wrap_i64]; (try simp [hk, hk1]))); rfl)))) ?_)
    refine W_ret (je (by simp [hk, hk1]; rfl) ?_)
    simp only [opForm]; rw [if_neg (by omega), show ((k : Int) + 1 - 1).toNat = k from by omega]; simp [hk]
end Go.Proofs
namespace Go.Proofs
open Go Go.Ev


theorem cb_impl_isInt : Callable Tryz.prog 107 := ⟨_, Tryz.func107, by kernel_rfl, by kernel_rfl⟩
theorem ct_impl_isInt {n : Int} : Ct Tryz.prog 107 [.int .i64 n] [] (.bool (isInt n)) [] := by
  refine Ct_bodyS tok Tryz.func107 rfl 5 (by kernel_rfl) (by kernel_rfl) fun X hX => ?_
  refine jq [0] ?_
  refine W_rseqK [2] (jt 1 (k:=(jc [] (c:=(by apply ct_impl_within <;> first | assumption | omega | (simp at *; omega) | simp_all)) (a:=cb_impl_within) (k:=jr)))) ?_
  refine W_ret (je0 ?_)
  simp [isInt]
end Go.Proofs
namespace Go.Proofs
open Go Go.Ev


theorem cb_impl_InsRight : Callable Tryz.prog 236 := ⟨_, Tryz.func236, by kernel_rfl, by kernel_rfl⟩
theorem ct_impl_InsRight {x : Ins} (h : sizeI x ≤ 1099511627776) : Ct Tryz.prog 236 [eI x] [] (.bool (insRight x)) [] := by
  simp only [sizeI] at h
  refine Ct_bodyS tok Tryz.func236 rfl 143 (by kernel_rfl) (by kernel_rfl) fun X hX => ?_
  refine jq [1] ?_
  refine W_rseqK [1, 3] (jt 4 (k:=(jm 4 7 [1, 11] (p:=fun b1_4 => by (try simp at b1_4); exact (jh hX (by simp [-atD_lt, -atL_lt]; rfl))) (q:=fun b1_4 => by (try simp at b1_4); exact (jh hX (by simp [-atD_lt, -atL_lt]; rfl))) (k:=(jt 1 (k:=(jm 4 12 [1, 16] (p:=fun b1_9 => by (try simp at b1_9); exact (jh hX (by simp [-atD_lt, -atL_lt]; rfl))) (q:=fun b1_9 => by (try simp at b1_9); exact (jh hX (by simp [-atD_lt, -atL_lt]; rfl))) (k:=jr)))))))) ?_
  refine W_seq (W_rseqK [1, 3, 19] (jt 2 (k:=(jc [] (c:=(by apply ct_impl_OpForm <;> first | assumption | omega | (simp at *; omega) | simp_all)) (a:=cb_impl_OpForm) (k:=jf)))) ?_)
  refine W_block (jq [1, 3, 19, 20] ?_)
  refine jd (fun h3 => ?_) (fun h3 => ?_)
  · try simp at h3
    refine W_rseqK [2] (jt 2 (k:=(jm 4 23 [27] (p:=fun b4_2 => by (try simp at b4_2); exact (jh hX (by simp [-atD_lt, -atL_lt]; rfl))) (q:=fun b4_2 => by (try simp at b4_2); exact (jh hX (by simp [-atD_lt, -atL_lt]; rfl))) (k:=jr)))) ?_
    refine W_ret (je0 ?_)
    (try simp_all [insRight, insEmpty, isInt, init]) <;> grind
  · try simp at h3
    refine jq [1, 3, 19, 28] ?_
    refine jd (fun h5 => ?_) (fun h5 => ?_)
    · try simp at h5
      refine W_rseqK [2] (jt 2 (k:=(jm 4 31 [35] (p:=fun b6_2 => by (try simp at b6_2); exact (js hX 2 (by simp [-atD_lt, -atL_lt]; rfl) (Runs.call [] rfl (by simp) rfl (by simp [-atD_lt, -atL_lt]; rfl) (by simp; rfl) (by apply ct_impl_isInt <;> first | assumption | omega | (simp at *; omega) | simp_all) cb_impl_isInt (by simp) (by simp) (by simp [-atD_lt, -atL_lt]; rfl) (jh hX (by simp [-atD_lt, -atL_lt]; rfl))))) (q:=fun b6_2 => by (try simp at b6_2); exact (jh hX (by simp [-atD_lt, -atL_lt]; rfl))) (k:=jr)))) ?_
      refine W_ret (je0 ?_)
      (try simp_all [insRight, insEmpty, isInt, init]) <;> grind
    · try simp at h5
      refine jq [1, 3, 19, 36] ?_
      refine jd (fun h7 => ?_) (fun h7 => ?_)
      · try simp at h7
        refine W_rseqK [2] (jt 2 (k:=(jm 4 39 [43] (p:=fun b8_2 => by (try simp at b8_2); exact (js hX 2 (by simp [-atD_lt, -atL_lt]; rfl) (Runs.call [] rfl (by simp) rfl (by simp [-atD_lt, -atL_lt]; rfl) (by simp; rfl) (by apply ct_impl_within <;> first | assumption | omega | (simp at *; omega) | simp_all) cb_impl_within (by simp) (by simp) (by simp [-atD_lt, -atL_lt]; rfl) (jh hX (by simp [-atD_lt, -atL_lt]; rfl))))) (q:=fun b8_2 => by (try simp at b8_2); exact (jh hX (by simp [-atD_lt, -atL_lt]; rfl))) (k:=jr)))) ?_
        refine W_ret (je0 ?_)
        (try simp_all [insRight, insEmpty, isInt, init]) <;> grind
      · try simp at h7
        refine jq [1, 3, 19, 44] ?_
        refine jd (fun h9 => ?_) (fun h9 => ?_)
        · try simp at h9
          refine W_rseqK [2] (jt 2 (k:=(jm 4 47 [51] (p:=fun b10_2 => by (try simp at b10_2); exact (js hX 2 (by simp [-atD_lt, -atL_lt]; rfl) (Runs.call [] rfl (by simp) rfl (by simp [-atD_lt, -atL_lt]; rfl) (by simp; rfl) (by apply ct_impl_within <;> first | assumption | omega | (simp at *; omega) | simp_all) cb_impl_within (by simp) (by simp) (by simp [-atD_lt, -atL_lt]; rfl) (jh hX (by simp [-atD_lt, -atL_lt]; rfl))))) (q:=fun b10_2 => by (try simp at b10_2); exact (jh hX (by simp [-atD_lt, -atL_lt]; rfl))) (k:=jr)))) ?_
          refine W_ret (je0 ?_)
          (try simp_all [insRight, insEmpty, isInt, init]) <;> grind
        · try simp at h9
          refine jq [1, 19, 52] ?_
          refine jd (fun h11 => ?_) (fun h11 => ?_)
          · try simp at h11
            refine W_rseqK [2] (jt 4 (k:=(jm 4 57 [1, 61] (p:=fun b12_4 => by (try simp at b12_4); exact (js hX 2 (by simp [-atD_lt, -atL_lt]; rfl) (Runs.call [] rfl (by simp) rfl (by simp [-atD_lt, -atL_lt]; rfl) (by simp; rfl) (by apply ct_impl_NameRight <;> first | assumption | omega | (simp at *; omega) | simp_all) cb_impl_NameRight (by simp) (by simp) (by simp [-atD_lt, -atL_lt]; rfl) (jh hX (by simp [-atD_lt, -atL_lt]; rfl))))) (q:=fun b12_4 => by (try simp at b12_4); exact (jh hX (by simp [-atD_lt, -atL_lt]; rfl))) (k:=(jt 1 (k:=(jm 4 62 [1, 66] (p:=fun b12_9 => by (try simp at b12_9); exact (jh hX (by simp [-atD_lt, -atL_lt]; rfl))) (q:=fun b12_9 => by (try simp at b12_9); exact (jh hX (by simp [-atD_lt, -atL_lt]; rfl))) (k:=(jt 1 (k:=(jm 4 67 [71] (p:=fun b12_14 => by (try simp at b12_14); exact (jh hX (by simp [-atD_lt, -atL_lt]; rfl))) (q:=fun b12_14 => by (try simp at b12_14); exact (jh hX (by simp [-atD_lt, -atL_lt]; rfl))) (k:=jr)))))))))))) ?_
            refine W_ret (je0 ?_)
            (try simp_all [insRight, insEmpty, isInt, init]) <;> grind
          · try simp at h11
            refine jq [1, 19, 72] ?_
            refine jd (fun h13 => ?_) (fun h13 => ?_)
            · try simp at h13
              refine W_rseqK [2] (jt 4 (k:=(jm 4 77 [1, 81] (p:=fun b14_4 => by (try simp at b14_4); exact (jh hX (by simp [-atD_lt, -atL_lt]; rfl))) (q:=fun b14_4 => by (try simp at b14_4); exact (jh hX (by simp [-atD_lt, -atL_lt]; rfl))) (k:=(jt 1 (k:=(jm 4 82 [1, 86] (p:=fun b14_9 => by (try simp at b14_9); exact (jh hX (by simp [-atD_lt, -atL_lt]; rfl))) (q:=fun b14_9 => by (try simp at b14_9); exact (jh hX (by simp [-atD_lt, -atL_lt]; rfl))) (k:=(jt 1 (k:=(jm 15 87 [102] (p:=fun b14_14 => by (try simp at b14_14); exact (js hX 4 (by simp [-atD_lt, -atL_lt]; rfl) (jm 10 91 [87, 101] (p:=fun b14_18 => by (try simp at b14_18); exact (jh hX (by simp [-atD_lt, -atL_lt]; rfl))) (q:=fun b14_18 => by (try simp at b14_18); exact (js hX 2 (by simp [-atD_lt, -atL_lt]; rfl) (Runs.call [] rfl (by simp) rfl (by simp [-atD_lt, -atL_lt]; rfl) (by simp; rfl) (by apply ct_impl_typeRight <;> first | assumption | omega | (simp at *; omega) | simp_all) cb_impl_typeRight (by simp) (by simp) (by simp [-atD_lt, -atL_lt]; rfl) (js hX 1 (by simp [-atD_lt, -atL_lt]; rfl) (jm 5 95 [87, 91, 100] (p:=fun b14_22 => by (try simp at b14_22); (have hlt := (len_of_typeRight b14_22).1; have hat := isAt_lt (n := 76) hlt); exact (jh hX (by simp [-atD_lt, -atL_lt, hlt]; rfl))) (q:=fun b14_22 => by (try simp at b14_22); exact (jh hX (by simp [-atD_lt, -atL_lt]; rfl))) (k:=(jh hX (by simp [-atD_lt, -atL_lt]; rfl)))))))) (k:=(jh hX (by simp [-atD_lt, -atL_lt]; rfl)))))) (q:=fun b14_14 => by (try simp at b14_14); exact (jh hX (by simp [-atD_lt, -atL_lt]; rfl))) (k:=jr)))))))))))) ?_
              refine W_ret (je0 ?_)
              have hp := plainType x.desc
              have hq : typeRight x.desc = true → isAt x.desc 0 76 = decide ((atD x.desc 0).toNat = 76) := fun h => by have hlt := (len_of_typeRight h).1; rw [isAt_lt hlt, atD_lt hlt]; simp
              (try simp_all [insRight, insEmpty]) <;> grind
            · try simp at h13
              refine jq [1, 19, 103] ?_
              refine jd (fun h15 => ?_) (fun h15 => ?_)
              · try simp at h15
                refine W_rseqK [2] (jt 4 (k:=(jm 4 108 [1, 112] (p:=fun b16_4 => by (try simp at b16_4); exact (js hX 2 (by simp [-atD_lt, -atL_lt]; rfl) (Runs.call [] rfl (by simp) rfl (by simp [-atD_lt, -atL_lt]; rfl) (by simp; rfl) (by apply ct_impl_NameRight <;> first | assumption | omega | (simp at *; omega) | simp_all) cb_impl_NameRight (by simp) (by simp) (by simp [-atD_lt, -atL_lt]; rfl) (jh hX (by simp [-atD_lt, -atL_lt]; rfl))))) (q:=fun b16_4 => by (try simp at b16_4); exact (jh hX (by simp [-atD_lt, -atL_lt]; rfl))) (k:=(jt 1 (k:=(jm 4 113 [1, 117] (p:=fun b16_9 => by (try simp at b16_9); exact (js hX 2 (by simp [-atD_lt, -atL_lt]; rfl) (Runs.call [] rfl (by simp) rfl (by simp [-atD_lt, -atL_lt]; rfl) (by simp; rfl) (by apply ct_impl_NameRight <;> first | assumption | omega | (simp at *; omega) | simp_all) cb_impl_NameRight (by simp) (by simp) (by simp [-atD_lt, -atL_lt]; rfl) (jh hX (by simp [-atD_lt, -atL_lt]; rfl))))) (q:=fun b16_9 => by (try simp at b16_9); exact (jh hX (by simp [-atD_lt, -atL_lt]; rfl))) (k:=(jt 1 (k:=(jm 4 118 [122] (p:=fun b16_14 => by (try simp at b16_14); exact (js hX 2 (by simp [-atD_lt, -atL_lt]; rfl) (Runs.call [] rfl (by simp) rfl (by simp [-atD_lt, -atL_lt]; rfl) (by simp; rfl) (by apply ct_impl_typeRight <;> first | assumption | omega | (simp at *; omega) | simp_all) cb_impl_typeRight (by simp) (by simp) (by simp [-atD_lt, -atL_lt]; rfl) (jh hX (by simp [-atD_lt, -atL_lt]; rfl))))) (q:=fun b16_14 => by (try simp at b16_14); exact (jh hX (by simp [-atD_lt, -atL_lt]; rfl))) (k:=jr)))))))))))) ?_
                refine W_ret (je0 ?_)
                (try simp_all [insRight, insEmpty, isInt, init]) <;> grind
              · try simp at h15
                refine jq [1, 123] ?_
                refine jd (fun h17 => ?_) (fun h17 => ?_)
                · try simp at h17
                  refine W_rseqK [2] (jt 4 (k:=(jm 4 128 [1, 132] (p:=fun b18_4 => by (try simp at b18_4); exact (js hX 2 (by simp [-atD_lt, -atL_lt]; rfl) (Runs.call [] rfl (by simp) rfl (by simp [-atD_lt, -atL_lt]; rfl) (by simp; rfl) (by apply ct_impl_NameRight <;> first | assumption | omega | (simp at *; omega) | simp_all) cb_impl_NameRight (by simp) (by simp) (by simp [-atD_lt, -atL_lt]; rfl) (jh hX (by simp [-atD_lt, -atL_lt]; rfl))))) (q:=fun b18_4 => by (try simp at b18_4); exact (jh hX (by simp [-atD_lt, -atL_lt]; rfl))) (k:=(jt 1 (k:=(jm 4 133 [1, 137] (p:=fun b18_9 => by (try simp at b18_9); exact (js hX 2 (by simp [-atD_lt, -atL_lt]; rfl) (Runs.call [] rfl (by simp) rfl (by simp [-atD_lt, -atL_lt]; rfl) (by simp; rfl) (by apply ct_impl_isMethodName <;> first | assumption | omega | (simp at *; omega) | simp_all) cb_impl_isMethodName (by simp) (by simp) (by simp [-atD_lt, -atL_lt]; rfl) (jh hX (by simp [-atD_lt, -atL_lt]; rfl))))) (q:=fun b18_9 => by (try simp at b18_9); exact (jh hX (by simp [-atD_lt, -atL_lt]; rfl))) (k:=(jt 1 (k:=(jm 4 138 [142] (p:=fun b18_14 => by (try simp at b18_14); exact (js hX 2 (by simp [-atD_lt, -atL_lt]; rfl) (Runs.call [] rfl (by simp) rfl (by simp [-atD_lt, -atL_lt]; rfl) (by simp; rfl) (by apply ct_impl_isDesc <;> first | assumption | omega | (simp at *; omega) | simp_all) cb_impl_isDesc (by simp) (by simp) (by simp [-atD_lt, -atL_lt]; rfl) (jh hX (by simp [-atD_lt, -atL_lt]; rfl))))) (q:=fun b18_14 => by (try simp at b18_14); exact (jh hX (by simp [-atD_lt, -atL_lt]; rfl))) (k:=jr)))))))))))) ?_
                  refine W_ret (je0 ?_)
                  (try simp_all [insRight, insEmpty, isInt, init]) <;> grind
                · try simp at h17
                  refine W_skip (jq [2] ?_)
                  refine W_ret (je0 ?_)
                  (try simp_all [insRight, insEmpty, isInt, init]) <;> grind
end Go.Proofs
namespace Go.Proofs
open Go Go.Ev


theorem cb_impl_codeRight_1 : Callable Tryz.prog 238 := ⟨_, Tryz.func238, by kernel_rfl, by kernel_rfl⟩
theorem ct_impl_codeRight_1 {x : Hdl} {n : Int} (h : x.cls.length ≤ 1099511627776) (hn0 : 0 ≤ n) (hn : n ≤ 1099511627776) : Ct Tryz.prog 238 [eH x, .fp [.int .i64 n]] [] (.bool (!hdlRight n x)) [] := by
  refine Ct_bodyS tok Tryz.func238 rfl 34 (by kernel_rfl) (by kernel_rfl) fun X hX => ?_
  refine jq [1, 2] ?_
  refine W_rseqK [3] (jt 4 (k:=(jm 6 7 [1, 2, 13] (p:=fun b1_4 => by (try simp at b1_4); exact (jh hX (by simp [-atD_lt, -atL_lt]; rfl))) (q:=fun b1_4 => by (try simp at b1_4); exact (jh hX (by simp [-atD_lt, -atL_lt, b1_4]; rfl))) (k:=(jt 1 (k:=(jm 5 14 [1, 2, 19] (p:=fun b1_11 => by (try simp at b1_11); exact (jh hX (by simp [-atD_lt, -atL_lt]; rfl))) (q:=fun b1_11 => by (try simp at b1_11); exact (jh hX (by simp [-atD_lt, -atL_lt, b1_11]; rfl))) (k:=(jt 1 (k:=(jm 7 20 [2, 27] (p:=fun b1_17 => by (try simp at b1_17); exact (jh hX (by simp [-atD_lt, -atL_lt]; rfl))) (q:=fun b1_17 => by (try simp at b1_17); exact (js hX 4 (by simp [-atD_lt, -atL_lt, b1_17]; (try (simp (disch := omega) only [wrap_i64]; (try simp [-atD_lt, -atL_lt, b1_17]))); rfl) (Runs.call [] rfl (by simp) rfl (by simp [-atD_lt, -atL_lt]; rfl) (by simp; rfl) (by apply ct_impl_within <;> first | assumption | omega | (simp at *; omega) | simp_all) cb_impl_within (by simp) (by simp) (by simp [-atD_lt, -atL_lt]; rfl) (jh hX (by simp [-atD_lt, -atL_lt]; rfl))))) (k:=(jt 1 (k:=(jm 5 28 [33] (p:=fun b1_25 => by (try simp at b1_25); exact (jh hX (by simp [-atD_lt, -atL_lt]; rfl))) (q:=fun b1_25 => by (try simp at b1_25); exact (js hX 2 (by simp [-atD_lt, -atL_lt, b1_25]; rfl) (Runs.call [] rfl (by simp) rfl (by simp [-atD_lt, -atL_lt]; rfl) (by simp; rfl) (by apply ct_impl_NameRight <;> first | assumption | omega | (simp at *; omega) | simp_all) cb_impl_NameRight (by simp) (by simp) (by simp [-atD_lt, -atL_lt]; rfl) (jh hX (by simp [-atD_lt, -atL_lt]; rfl))))) (k:=jr)))))))))))))))) ?_
  refine W_ret (je0 ?_)
  (try simp_all [hdlRight]) <;> grind
end Go.Proofs
namespace Go.Proofs
open Go Go.Ev


theorem cb_slices_IndexFunc_impl_Handler_impl_Handler : Callable Tryz.prog 243 := ⟨_, Tryz.func243, by kernel_rfl, by kernel_rfl⟩
theorem ct_slices_IndexFunc_impl_Handler_impl_Handler {n : Int} (hn0 : 0 ≤ n) (hn : n ≤ 1099511627776) {l : List Hdl} (hl : l.length ≤ 1099511627776) (hs : ∀ x ∈ l, x.cls.length ≤ 1099511627776) : Ct Tryz.prog 243 [.lst false 4 (l.map eH), .clo (.func 238) [] [.fp [.int .i64 n]]] [] (.int .i64 (fix (fun x => !hdlRight n x) l)) [] := by
  refine Ct_bodyS tok Tryz.func243 rfl 19 (by kernel_rfl) (by kernel_rfl) fun X hX => ?_
  refine jq [0, 1] ?_
  refine W_seq (jq [0, 1, 7, 8] ?_)
  refine W_block (W_loopU (α := Nat) [0, 1, 7, 8] (fun i => [(8, .int .i64 i)]) (fun i => []) (fun i => i ≤ l.length ∧ ∀ x ∈ l.take i, (fun x => !hdlRight n x) x = false) (fun i => l.length - i) (0) (fun i => by simp; rfl) (by simp) ?_ ?_)
  · simp
  rintro i ⟨hi, hI⟩
  refine jq [0, 1, 7, 8, 9] ?_
  refine W_seq (jd (fun h2 => ?_) (fun h2 => ?_))
  · try simp at h2
    refine W_skip (W_seq (W_block (jq [0, 1, 5, 7, 8] ?_)))
    refine W_rseqK [0, 1, 5, 7, 8, 16] (js hX 5 (by simp [h2]; rfl) (jc [] (c:=(by apply ct_impl_codeRight_1 <;> first | assumption | exact hs _ (List.getElem_mem h2) | omega)) (a:=cb_impl_codeRight_1) (k:=jf))) ?_
    refine jd (fun h4 => ?_) (fun h4 => ?_)
    · try simp at h4
      refine jq [4] ?_
      refine W_ret (je (by simp [h2]; rfl) ?_)
      rw [fix_hit h2 hI (by simpa using h4)]
    · try simp at h4
      refine W_skip (W_reg (jh hX (by simp; (try (simp (disch := omega) only [wrap_i64]; (try simp))); rfl)) ?_)
      refine round_end (i + 1) [0, 1, 7, 8] (by simp [h2]; try (simp (disch := omega) only [wrap_i64])) ?_ ?_
      · exact ⟨by omega, take_not h2 hI (by simpa using h4)⟩
      · omega
  · try simp at h2
    refine W_exit (jq [4] ?_)
    refine W_ret (je (by simp [h2]; rfl) ?_)
    rw [fix_none (p := fun x => !hdlRight n x) (fun x hx => hI x (by rw [List.take_of_length_le h2]; exact hx))]
end Go.Proofs
namespace Go.Proofs
open Go Go.Ev


theorem cb_slices_ContainsFunc_impl_Handler_impl_Handler : Callable Tryz.prog 237 := ⟨_, Tryz.func237, by kernel_rfl, by kernel_rfl⟩
theorem ct_slices_ContainsFunc_impl_Handler_impl_Handler {n : Int} (hn0 : 0 ≤ n) (hn : n ≤ 1099511627776) {l : List Hdl} (hl : l.length ≤ 1099511627776) (hs : ∀ x ∈ l, x.cls.length ≤ 1099511627776) : Ct Tryz.prog 237 [.lst false 4 (l.map eH), .clo (.func 238) [] [.fp [.int .i64 n]]] [] (.bool (l.any (fun x => !hdlRight n x))) [] := by
  refine Ct_bodyS tok Tryz.func237 rfl 9 (by kernel_rfl) (by kernel_rfl) fun X hX => ?_
  refine jq [0, 1] ?_
  refine W_rseqK [4] (jt 2 (k:=(jc [] (c:=(by apply ct_slices_IndexFunc_impl_Handler_impl_Handler <;> first | assumption | omega | (simp at *; omega) | simp_all)) (a:=cb_slices_IndexFunc_impl_Handler_impl_Handler) (k:=jr)))) ?_
  refine W_ret (je0 ?_)
  rw [← fix_ge]
end Go.Proofs
namespace Go.Proofs
open Go Go.Ev


theorem cb_impl_codeRight : Callable Tryz.prog 229 := ⟨_, Tryz.func229, by kernel_rfl, by kernel_rfl⟩
theorem ct_impl_codeRight {x : Mth} (h : sizeM x ≤ 1099511627776) : Ct Tryz.prog 229 [eM x] [] (.bool (codeR x)) [] := by
  unfold codeR
  simp only [sizeM] at h
  refine Ct_bodyS tok Tryz.func229 rfl 46 (by kernel_rfl) (by kernel_rfl) fun X hX => ?_
  refine jq [1] ?_
  refine W_rseqK [1, 3] (jt 2 (k:=(jc [] (c:=(by apply ct_impl_size_impl_Ins <;> first | assumption | omega | (have := mem_sum (f := sizeI) (List.getElem_mem (l := x.code) (n := i) (by omega)); simp only [sizeI] at *; omega))) (a:=cb_impl_size_impl_Ins) (k:=jr)))) ?_
  refine W_seq (W_rseqK [1, 3, 17] (jt 1 (k:=(jc [] (c:=(by apply ct_impl_within <;> first | assumption | omega | (have := mem_sum (f := sizeI) (List.getElem_mem (l := x.code) (n := i) (by omega)); simp only [sizeI] at *; omega))) (a:=cb_impl_within) (k:=(jt 2 (k:=(jm 5 12 [1, 3, 17] (p:=fun b2_4 => by (try simp at b2_4); exact (jh hX (by simp [-atD_lt, -atL_lt]; rfl))) (q:=fun b2_4 => by (try simp at b2_4); exact (jh hX (by simp [-atD_lt, -atL_lt]; rfl))) (k:=jf)))))))) ?_)
  refine jd (fun h2 => ?_) (fun h2 => ?_)
  · try simp at h2
    refine jq [2] ?_
    refine W_ret (je (by simp [h2]; rfl) ?_)
    have h2b : x.code.length < 1 ∨ 60 < x.code.length ∨ 6 < x.hdls.length := by
      rcases h2 with (h | h) | h
      · simp [h]
      · omega
      · omega
    rw [decide_eq_true h2b]; rfl
  · try simp at h2
    refine W_skip (W_seq (W_rseqK [1, 3, 19, 20, 21] (jh hX (by simp [h2]; rfl)) ?_))
    refine W_block (W_loopU (α := Nat) [1, 3, 19, 20, 21] (fun i => [(21, .int .i64 i)]) (fun i => []) (fun i => i ≤ x.code.length ∧ (x.code.drop i).all (codeOK x.code.length) = x.code.all (codeOK x.code.length)) (fun i => x.code.length - i) (0) (fun i => by simp; rfl) (by simp) ?_ ?_)
    · simp
    rintro i ⟨hi, hI⟩
    refine jq [1, 3, 19, 20, 21, 22] ?_
    refine W_seq (jd (fun h5 => ?_) (fun h5 => ?_))
    · try simp at h5
      rw [all_drop h5] at hI
      refine W_skip (W_seq (W_block (W_rseqK [1, 3, 5, 19, 20, 21] (jh hX (by simp [h2, h5]; rfl)) ?_)))
      refine W_rseqK [1, 3, 19, 20, 21, 39] (js hX 1 (by simp [h2, h5]; rfl) (jc [] (c:=(by apply ct_impl_InsRight <;> first | assumption | omega | (have := mem_sum (f := sizeI) (List.getElem_mem (l := x.code) (n := i) (by omega)); simp only [sizeI] at *; omega))) (a:=cb_impl_InsRight) (k:=(jt 2 (k:=(jm 11 28 [1, 3, 19, 20, 21, 39] (p:=fun b7_4 => by (try simp at b7_4); exact (jh hX (by simp [-atD_lt, -atL_lt]; rfl))) (q:=fun b7_4 => by (try simp at b7_4); exact (js hX 2 (by simp [-atD_lt, -atL_lt, h2, h5]; rfl) (Runs.call [] rfl (by simp) rfl (by simp [-atD_lt, -atL_lt]; rfl) (by simp; rfl) (by apply ct_impl_OpForm <;> first | assumption | omega | (have := mem_sum (f := sizeI) (List.getElem_mem (l := x.code) (n := i) (by omega)); simp only [sizeI] at *; omega)) cb_impl_OpForm (by simp) (by simp) (by simp [-atD_lt, -atL_lt]; rfl) (js hX 2 (by simp [-atD_lt, -atL_lt]; rfl) (jm 5 33 [1, 3, 19, 20, 21, 28, 38] (p:=fun b7_9 => by (try simp at b7_9); exact (jh hX (by simp [-atD_lt, -atL_lt, h2, h5]; rfl))) (q:=fun b7_9 => by (try simp at b7_9); exact (jh hX (by simp [-atD_lt, -atL_lt]; rfl))) (k:=(jh hX (by simp [-atD_lt, -atL_lt]; rfl)))))))) (k:=jf))))))) ?_
      refine jd (fun h7 => ?_) (fun h7 => ?_)
      · try simp at h7
        refine jq [2] ?_
        refine W_ret (je (by simp [h2, h5, h7]; rfl) ?_)
        have : codeOK x.code.length x.code[i] = false := by unfold codeOK; grind
        simp [← hI, this]
      · try simp at h7
        have h7b : codeOK x.code.length x.code[i] = true := by unfold codeOK; grind
        rw [h7b, Bool.true_and] at hI
        refine W_skip (W_reg (jh hX (by simp; (try (simp (disch := omega) only [wrap_i64]; (try simp))); rfl)) ?_)
        refine round_endT (i + 1) [1, 3, 19, 20, 21] 2 (by simp [hX]) (by simp) (by simp [h2, h5, h7]; try (simp (disch := omega) only [wrap_i64])) ?_ ?_
        · exact ⟨by omega, hI⟩
        · omega
    · try simp at h5
      rw [List.drop_eq_nil_of_le h5] at hI
      refine W_exit (W_rseqK [2] (js hX 3 (by simp [h2, h5]; rfl) (jB (c:=(by apply ct_slices_ContainsFunc_impl_Handler_impl_Handler <;> first | assumption | omega | (intro y hy; have := mem_sum (f := sizeH) hy; simp only [sizeH] at *; omega))) (a:=cb_slices_ContainsFunc_impl_Handler_impl_Handler) (k:=jr))) ?_)
      refine W_ret (je (by simp [h2, h5]; rfl) ?_)
      have h2b : ¬ (x.code.length < 1 ∨ 60 < x.code.length ∨ 6 < x.hdls.length) := by omega
      rw [decide_eq_false h2b, ← hI]
      simp only [List.all_nil, Bool.true_and, Bool.not_false]
      congr 1
      rw [Bool.eq_iff_iff]
      simp
end Go.Proofs
namespace Go.Proofs
open Go Go.Ev


theorem cb_impl_size_string : Callable Tryz.prog 117 := ⟨_, Tryz.func117, by kernel_rfl, by kernel_rfl⟩
theorem ct_impl_size_string {l : List Str} : Ct Tryz.prog 117 [.lst false 1 (l.map V.str)] [] (.int .i64 l.length) [] := by
  refine Ct_bodyS tok Tryz.func117 rfl 5 (by kernel_rfl) (by kernel_rfl) fun X hX => ?_
  refine jq [0] ?_
  refine jq [2] ?_
  refine W_ret (je0 ?_)
  simp
end Go.Proofs
namespace Go.Proofs
open Go Go.Ev


theorem cb_impl_DescRead : Callable Tryz.prog 244 := ⟨_, Tryz.func244, by kernel_rfl, by kernel_rfl⟩
theorem ct_impl_DescRead {t : Str} (ht : t.length ≤ 1099511627776) : Ct Tryz.prog 244 [.str t] [] (eDO (descRead t)) [] := by
  refine Ct_bodyS tok Tryz.func244 rfl 10 (by kernel_rfl) (by kernel_rfl) fun X hX => ?_
  refine jq [0, 2] ?_
  refine W_seq (W_rseqK [0, 2, 6] (jt 2 (k:=(jB (c:=(by apply (ct_impl_isText (l := [t])) <;> simp)) (a:=cb_impl_isText) (k:=jr)))) ?_)
  refine jd (fun h1 => ?_) (fun h1 => ?_)
  · try simp at h1
    refine jq [2] ?_
    refine W_ret (W_retR (by simp; rfl) ?_ rfl)
    rw [show descRead t = ⟨[], [], 0, 2⟩ from by unfold descRead; rw [if_pos (by simpa using h1)]]
    exact wk_err _ _ _
  · try simp at h1
    refine W_skip (W_rseqK [2] (jt 1 (k:=(jc [] (c:=(by apply ct_impl_descRead <;> first | assumption | omega | (simp at *; omega) | simp_all)) (a:=cb_impl_descRead) (k:=jr)))) ?_)
    refine W_ret (W_retR (by simp; rfl) ?_ rfl)
    rw [show descRead t = dRead t from by unfold descRead; rw [if_neg (by simpa using h1)]]
    exact Wk.refl _
end Go.Proofs
namespace Go.Proofs
open Go Go.Ev


theorem cb_impl_DescSlots : Callable Tryz.prog 239 := ⟨_, Tryz.func239, by kernel_rfl, by kernel_rfl⟩
theorem ct_impl_DescSlots {t : Str} (ht : t.length ≤ 1099511627776) : Ct Tryz.prog 239 [.str t] [] (.int .i64 (dSlots t)) [] := by
  have hd8 := descRead_le t
  refine Ct_bodyS tok Tryz.func239 rfl 13 (by kernel_rfl) (by kernel_rfl) fun X hX => ?_
  refine jq [0] ?_
  refine W_rseqK [3] (jt 1 (k:=(jF (c:=(by apply ct_impl_DescRead <;> first | assumption | omega)) (a:=cb_impl_DescRead) (k:=jr)))) ?_
  refine W_seq (jq [3, 8] ?_)
  refine jd (fun h2 => ?_) (fun h2 => ?_)
  · try simp at h2
    refine jq [2] ?_
    refine W_ret (je0 ?_)
    simp_all [dSlots]
  · try simp at h2
    refine W_skip (W_rseqK [2] (jt 3 (k:=(jc [] (c:=(by apply ct_impl_size_string <;> first | assumption | omega)) (a:=cb_impl_size_string) (k:=jr)))) ?_)
    refine W_ret (je0 ?_)
    simp_all [dSlots]
end Go.Proofs
namespace Go.Proofs
open Go Go.Ev


theorem cb_impl_Method_slots : Callable Tryz.prog 230 := ⟨_, Tryz.func230, by kernel_rfl, by kernel_rfl⟩
theorem ct_impl_Method_slots {x : Mth} (h : x.desc.length ≤ 1099511627776) : Ct Tryz.prog 230 [eM x] [] (.int .i64 (dSlots x.desc + if x.static = true then 0 else 1)) [] := by
  refine Ct_bodyS tok Tryz.func230 rfl 13 (by kernel_rfl) (by kernel_rfl) fun X hX => ?_
  refine jq [1] ?_
  refine W_rseqK [1, 3] (jt 2 (k:=(jc [] (c:=(by apply ct_impl_DescSlots <;> first | assumption | omega | (simp at *; omega) | simp_all)) (a:=cb_impl_DescSlots) (k:=jr)))) ?_
  have hd8 := dSlots_le x.desc
  have hw : IntKind.i64.wrap (dSlots x.desc + 1) = dSlots x.desc + 1 := wrap_i64 (by omega) (by omega)
  refine W_seq (jq [3, 9] ?_)
  refine' W_condS3 [3] (by simp; rfl) (by rfl) (fun h2 => ?a1_1) (fun h2 => ?a0_1) ?ak_1
  case a1_1 =>
    try simp at h2
    refine W_reg (jh hX (by simp; (try (simp (disch := omega) only [wrap_i64]; (try simp))); rfl)) ?_
    exact ⟨rfl, Eq.trans (by (try simp); rfl) (by rfl)⟩
  case a0_1 =>
    try simp at h2
    refine W_skip ?_
    exact ⟨rfl, Eq.trans (by (try simp); rfl) (by rfl)⟩
  case ak_1 =>
    refine W_le (Le.of_eq (by simp; rfl)) ?_
    refine jq [2] ?_
    refine W_ret (je0 ?_)
    cases hst : x.static <;> simp_all
end Go.Proofs
namespace Go.Proofs
open Go Go.Ev


theorem cb_impl_MethodRight : Callable Tryz.prog 202 := ⟨_, Tryz.func202, by kernel_rfl, by kernel_rfl⟩
theorem ct_impl_MethodRight {x : Mth} (h : sizeM x ≤ 1099511627776) : Ct Tryz.prog 202 [eM x] [] (.bool (mthRight x)) [] := by
  have hM := h
  simp only [sizeM] at h
  refine Ct_bodyS tok Tryz.func202 rfl 93 (by kernel_rfl) (by kernel_rfl) fun X hX => ?_
  refine jq [1] ?_
  refine W_seq (W_rseqK [1, 24] (jt 2 (k:=(jc [] (c:=(by apply ct_impl_isMethodName <;> first | assumption | omega | (simp at *; omega) | simp_all)) (a:=cb_impl_isMethodName) (k:=(jt 2 (k:=(jm 5 7 [1, 12] (p:=fun b1_5 => by (try simp at b1_5); exact (jh hX (by simp [-atD_lt, -atL_lt]; rfl))) (q:=fun b1_5 => by (try simp at b1_5); exact (js hX 2 (by simp [-atD_lt, -atL_lt]; rfl) (Runs.call [] rfl (by simp) rfl (by simp [-atD_lt, -atL_lt]; rfl) (by simp; rfl) (by apply ct_impl_isDesc <;> first | assumption | omega | (simp at *; omega) | simp_all) cb_impl_isDesc (by simp) (by simp) (by simp [-atD_lt, -atL_lt]; rfl) (jh hX (by simp [-atD_lt, -atL_lt]; rfl))))) (k:=(jt 1 (k:=(jm 5 13 [1, 18] (p:=fun b1_11 => by (try simp at b1_11); exact (jh hX (by simp [-atD_lt, -atL_lt]; rfl))) (q:=fun b1_11 => by (try simp at b1_11); exact (js hX 2 (by simp [-atD_lt, -atL_lt]; rfl) (Runs.call [] rfl (by simp) rfl (by simp [-atD_lt, -atL_lt]; rfl) (by simp; rfl) (by apply ct_impl_within <;> first | assumption | omega | (simp at *; omega) | simp_all) cb_impl_within (by simp) (by simp) (by simp [-atD_lt, -atL_lt]; rfl) (jh hX (by simp [-atD_lt, -atL_lt]; rfl))))) (k:=(jt 1 (k:=(jm 5 19 [1, 24] (p:=fun b1_17 => by (try simp at b1_17); exact (jh hX (by simp [-atD_lt, -atL_lt]; rfl))) (q:=fun b1_17 => by (try simp at b1_17); exact (js hX 2 (by simp [-atD_lt, -atL_lt]; rfl) (Runs.call [] rfl (by simp) rfl (by simp [-atD_lt, -atL_lt]; rfl) (by simp; rfl) (by apply ct_impl_within <;> first | assumption | omega | (simp at *; omega) | simp_all) cb_impl_within (by simp) (by simp) (by simp [-atD_lt, -atL_lt]; rfl) (jh hX (by simp [-atD_lt, -atL_lt]; rfl))))) (k:=jf)))))))))))))))) ?_)
  refine jd (fun h1 => ?_) (fun h1 => ?_)
  · try simp at h1
    have hh : mthHead x = false := by unfold mthHead; grind
    refine jq [2] ?_
    refine W_ret (je0 ?_)
    rw [mthRight_no hh]
  · try simp at h1
    have hh : mthHead x = true := by unfold mthHead; grind
    refine W_skip (W_seq (jq [1, 26] ?_))
    refine jd (fun h3 => ?_) (fun h3 => ?_)
    · try simp at h3
      refine W_rseqK [2] (jt 4 (k:=(jm 4 30 [1, 34] (p:=fun b4_4 => by (try simp at b4_4); exact (jh hX (by simp [-atD_lt, -atL_lt]; rfl))) (q:=fun b4_4 => by (try simp at b4_4); exact (jh hX (by simp [-atD_lt, -atL_lt]; rfl))) (k:=(jt 1 (k:=(jm 5 35 [1, 40] (p:=fun b4_9 => by (try simp at b4_9); exact (jh hX (by simp [-atD_lt, -atL_lt]; rfl))) (q:=fun b4_9 => by (try simp at b4_9); exact (jh hX (by simp [-atD_lt, -atL_lt]; rfl))) (k:=(jt 1 (k:=(jm 5 41 [1, 46] (p:=fun b4_15 => by (try simp at b4_15); exact (jh hX (by simp [-atD_lt, -atL_lt]; rfl))) (q:=fun b4_15 => by (try simp at b4_15); exact (jh hX (by simp [-atD_lt, -atL_lt]; rfl))) (k:=(jt 1 (k:=(jm 4 47 [1, 51] (p:=fun b4_21 => by (try simp at b4_21); exact (jh hX (by simp [-atD_lt, -atL_lt]; rfl))) (q:=fun b4_21 => by (try simp at b4_21); exact (jh hX (by simp [-atD_lt, -atL_lt]; rfl))) (k:=(jt 1 (k:=(jm 4 52 [1, 56] (p:=fun b4_26 => by (try simp at b4_26); exact (jh hX (by simp [-atD_lt, -atL_lt]; rfl))) (q:=fun b4_26 => by (try simp at b4_26); exact (jh hX (by simp [-atD_lt, -atL_lt]; rfl))) (k:=(jt 1 (k:=(jm 4 57 [61] (p:=fun b4_31 => by (try simp at b4_31); exact (jh hX (by simp [-atD_lt, -atL_lt]; rfl))) (q:=fun b4_31 => by (try simp at b4_31); exact (jh hX (by simp [-atD_lt, -atL_lt]; rfl))) (k:=jr)))))))))))))))))))))))) ?_
      refine W_ret (je0 ?_)
      rw [mthRight_abs hh h3]
      simp [init]; grind
    · try simp at h3
      rw [mthRight_eq hh h3]
      refine W_skip (W_seq (jD [1, 71] (jS 1 (by simp; rfl) (jC (c:=by apply ct_impl_codeRight <;> first | assumption | omega | (simp at *; omega) | simp_all) (a:=cb_impl_codeRight) (k:=(jS 2 (by simp; rfl) (jM 6 65 [1, 71] (p:=fun b5_4 => by (try simp at b5_4); exact (jQ (by simp [-atD_lt, -atL_lt]; rfl))) (q:=fun b5_4 => by (try simp at b5_4); exact (jS 3 (by simp [-atD_lt, -atL_lt]; rfl) (jC (c:=by apply ct_impl_Method_slots <;> first | assumption | omega | (simp at *; omega) | simp_all) (a:=cb_impl_Method_slots) (k:=(jQ (by simp [-atD_lt, -atL_lt]; rfl)))))) (k:=(RunsQ.fin (by (try simp); rfl)))))))) ?_))
      refine jd (fun h5 => ?_) (fun h5 => ?_)
      · try simp at h5
        refine jq [2] ?_
        refine W_ret (je (by simp [h5]; rfl) ?_)
        rcases h5 with h5 | h5
        · simp [h5]
        · rw [decide_eq_false (p := _ ≤ _) (by omega)]; simp
      · try simp at h5
        refine W_skip (W_rseqK [2] (js hX 4 (by simp [h5]; rfl) (jm 17 75 [92] (p:=fun b7_4 => by (try simp at b7_4); exact (jh hX (by simp [-atD_lt, -atL_lt]; rfl))) (q:=fun b7_4 => by (try simp at b7_4); exact (js hX 4 (by simp [-atD_lt, -atL_lt, h5]; rfl) (jm 4 79 [1, 75, 83] (p:=fun b7_8 => by (try simp at b7_8); exact (jh hX (by simp [-atD_lt, -atL_lt, h5]; rfl))) (q:=fun b7_8 => by (try simp at b7_8); exact (jh hX (by simp [-atD_lt, -atL_lt]; rfl))) (k:=(js hX 1 (by simp [-atD_lt, -atL_lt]; rfl) (jm 7 84 [75, 91] (p:=fun b7_13 => by (try simp at b7_13); exact (js hX 2 (by simp [-atD_lt, -atL_lt, h5]; rfl) (Runs.callF rfl (by simp) rfl (by simp [-atD_lt, -atL_lt]; rfl) (by apply ct_impl_descRead <;> first | assumption | omega | (simp at *; omega) | simp_all) cb_impl_descRead (by simp [-atD_lt, -atL_lt]; rfl) (jh hX (by simp [-atD_lt, -atL_lt]; rfl))))) (q:=fun b7_13 => by (try simp at b7_13); exact (jh hX (by simp [-atD_lt, -atL_lt]; rfl))) (k:=(jh hX (by simp [-atD_lt, -atL_lt]; rfl))))))))) (k:=jr))) ?_)
        refine W_ret (je (by simp [h5]; rfl) ?_)
        rw [h5.1, decide_eq_true h5.2]
        simp only [Bool.true_and, init]
        congr 1
end Go.Proofs
namespace Go.Proofs
open Go Go.Ev


theorem cb_impl_Class_methodAt_1 : Callable Tryz.prog 232 := ⟨_, Tryz.func232, by kernel_rfl, by kernel_rfl⟩
theorem ct_impl_Class_methodAt_1 {x : Mth} {n d : Str} : Ct Tryz.prog 232 [eM x, .fp [.str n], .fp [.str d]] [] (.bool (decide (x.name = n) && decide (x.desc = d))) [] := by
  refine Ct_bodyS tok Tryz.func232 rfl 15 (by kernel_rfl) (by kernel_rfl) fun X hX => ?_
  refine jq [1, 2, 3] ?_
  refine W_rseqK [4] (jt 5 (k:=(jm 5 9 [14] (p:=fun b1_5 => by (try simp at b1_5); exact (jh hX (by simp [-atD_lt, -atL_lt]; rfl))) (q:=fun b1_5 => by (try simp at b1_5); exact (jh hX (by simp [-atD_lt, -atL_lt]; rfl))) (k:=jr)))) ?_
  refine W_ret (je0 ?_)
  simp_all
end Go.Proofs
namespace Go.Proofs
open Go Go.Ev


theorem cb_slices_IndexFunc_impl_Method_impl_Method : Callable Tryz.prog 231 := ⟨_, Tryz.func231, by kernel_rfl, by kernel_rfl⟩
theorem ct_slices_IndexFunc_impl_Method_impl_Method {n d : Str} {l : List Mth} (hl : l.length ≤ 1099511627776) : Ct Tryz.prog 231 [.lst false 9 (l.map eM), .clo (.func 232) [] [.fp [.str n], .fp [.str d]]] [] (.int .i64 (fix (fun x => decide (x.name = n) && decide (x.desc = d)) l)) [] := by
  refine Ct_bodyS tok Tryz.func231 rfl 19 (by kernel_rfl) (by kernel_rfl) fun X hX => ?_
  refine jq [0, 1] ?_
  refine W_seq (jq [0, 1, 7, 8] ?_)
  refine W_block (W_loopU (α := Nat) [0, 1, 7, 8] (fun i => [(8, .int .i64 i)]) (fun i => []) (fun i => i ≤ l.length ∧ ∀ x ∈ l.take i, (fun x => decide (x.name = n) && decide (x.desc = d)) x = false) (fun i => l.length - i) (0) (fun i => by simp; rfl) (by simp) ?_ ?_)
  · simp
  rintro i ⟨hi, hI⟩
  refine jq [0, 1, 7, 8, 9] ?_
  refine W_seq (jd (fun h2 => ?_) (fun h2 => ?_))
  · try simp at h2
    refine W_skip (W_seq (W_block (jq [0, 1, 5, 7, 8] ?_)))
    refine W_rseqK [0, 1, 5, 7, 8, 16] (js hX 5 (by simp [h2]; rfl) (jc [] (c:=(by apply ct_impl_Class_methodAt_1 <;> first | assumption | exact hs _ (List.getElem_mem h2) | omega)) (a:=cb_impl_Class_methodAt_1) (k:=jf))) ?_
    refine jd (fun h4 => ?_) (fun h4 => ?_)
    · try simp at h4
      refine jq [4] ?_
      refine W_ret (je (by simp [h2]; rfl) ?_)
      rw [fix_hit h2 hI (by simpa using h4)]
    · try simp at h4
      refine W_skip (W_reg (jh hX (by simp; (try (simp (disch := omega) only [wrap_i64]; (try simp))); rfl)) ?_)
      refine round_end (i + 1) [0, 1, 7, 8] (by simp [h2]; try (simp (disch := omega) only [wrap_i64])) ?_ ?_
      · exact ⟨by omega, take_not h2 hI (by simpa using h4)⟩
      · omega
  · try simp at h2
    refine W_exit (jq [4] ?_)
    refine W_ret (je (by simp [h2]; rfl) ?_)
    rw [fix_none (p := fun x => decide (x.name = n) && decide (x.desc = d)) (fun x hx => hI x (by rw [List.take_of_length_le h2]; exact hx))]
end Go.Proofs
namespace Go.Proofs
open Go Go.Ev


theorem cb_impl_Class_methodAt : Callable Tryz.prog 203 := ⟨_, Tryz.func203, by kernel_rfl, by kernel_rfl⟩
theorem ct_impl_Class_methodAt {x : Cls} {n d : Str} (h : x.methods.length ≤ 1099511627776) : Ct Tryz.prog 203 [eC x, .str n, .str d] [] (.int .i64 (fix (fun f => decide (f.name = n) && decide (f.desc = d)) x.methods)) [] := by
  refine Ct_bodyS tok Tryz.func203 rfl 11 (by kernel_rfl) (by kernel_rfl) fun X hX => ?_
  refine jq [3, 4, 5] ?_
  refine W_rseqK [6] (jt 3 (k:=(jB (c:=(by apply ct_slices_IndexFunc_impl_Method_impl_Method <;> first | assumption | omega | (simp at *; omega) | simp_all)) (a:=cb_slices_IndexFunc_impl_Method_impl_Method) (k:=jr)))) ?_
  refine W_ret (je0 ?_)
  simp_all
end Go.Proofs
namespace Go.Proofs
open Go Go.Ev


theorem cb_impl_ClassRight : Callable Tryz.prog 156 := ⟨_, Tryz.func156, by kernel_rfl, by kernel_rfl⟩
theorem ct_impl_ClassRight {x : Cls} (h : sizeC x ≤ 1099511627776) : Ct Tryz.prog 156 [eC x] [] (.bool (clsRight x)) [] := by
  simp only [sizeC] at h
  refine Ct_bodyS tok Tryz.func156 rfl 102 (by kernel_rfl) (by kernel_rfl) fun X hX => ?_
  refine jq [1] ?_
  refine W_seq (W_rseqK [1, 43] (jt 2 (k:=(jc [] (c:=(by apply ct_impl_NameRight <;> first | assumption | omega | (have := mem_sum (f := sizeF) (List.getElem_mem h4); simp only [sizeF] at *; (try simp only [atL_lt h4]); omega) | (have := mem_sum (f := sizeM) (List.getElem_mem h10); (try simp only [atL_lt h10]); omega))) (a:=cb_impl_NameRight) (k:=(jt 2 (k:=(jm 5 11 [1, 16] (p:=fun b1_5 => by (try simp at b1_5); exact (jh hX (by simp [-atD_lt, -atL_lt]; rfl))) (q:=fun b1_5 => by (try simp at b1_5); exact (js hX 2 (by simp [-atD_lt, -atL_lt]; rfl) (Runs.call [] rfl (by simp) rfl (by simp [-atD_lt, -atL_lt]; rfl) (by simp; rfl) (by apply ct_impl_NameRight <;> first | assumption | omega | (have := mem_sum (f := sizeF) (List.getElem_mem h4); simp only [sizeF] at *; (try simp only [atL_lt h4]); omega) | (have := mem_sum (f := sizeM) (List.getElem_mem h10); (try simp only [atL_lt h10]); omega)) cb_impl_NameRight (by simp) (by simp) (by simp [-atD_lt, -atL_lt]; rfl) (jh hX (by simp [-atD_lt, -atL_lt]; rfl))))) (k:=(jt 1 (k:=(jm 6 17 [1, 23] (p:=fun b1_11 => by (try simp at b1_11); exact (jh hX (by simp [-atD_lt, -atL_lt]; rfl))) (q:=fun b1_11 => by (try simp at b1_11); exact (jh hX (by simp [-atD_lt, -atL_lt]; rfl))) (k:=(jt 1 (k:=(jm 7 24 [1, 31] (p:=fun b1_18 => by (try simp at b1_18); exact (jh hX (by simp [-atD_lt, -atL_lt]; rfl))) (q:=fun b1_18 => by (try simp at b1_18); exact (js hX 3 (by simp [-atD_lt, -atL_lt]; rfl) (jm 3 27 [1, 24, 30] (p:=fun b1_21 => by (try simp at b1_21); exact (jh hX (by simp [-atD_lt, -atL_lt]; rfl))) (q:=fun b1_21 => by (try simp at b1_21); exact (jh hX (by simp [-atD_lt, -atL_lt]; rfl))) (k:=(jh hX (by simp [-atD_lt, -atL_lt]; rfl)))))) (k:=(jt 1 (k:=(jm 5 32 [1, 37] (p:=fun b1_26 => by (try simp at b1_26); exact (jh hX (by simp [-atD_lt, -atL_lt]; rfl))) (q:=fun b1_26 => by (try simp at b1_26); exact (jh hX (by simp [-atD_lt, -atL_lt]; rfl))) (k:=(jt 1 (k:=(jm 5 38 [1, 43] (p:=fun b1_32 => by (try simp at b1_32); exact (jh hX (by simp [-atD_lt, -atL_lt]; rfl))) (q:=fun b1_32 => by (try simp at b1_32); exact (jh hX (by simp [-atD_lt, -atL_lt, b1_32]; rfl))) (k:=jf)))))))))))))))))))))))) ?_)
  refine jd (fun h1 => ?_) (fun h1 => ?_)
  · try simp at h1
    have hh : clsHead x = false := by unfold clsHead; grind
    refine jq [2] ?_
    refine W_ret (je (by simp [h1]; rfl) ?_)
    simp [clsRight, hh]
  · try simp at h1
    have hh : clsHead x = true := by unfold clsHead; grind
    rw [show clsRight x = (fldsR [] x.fields && mthsR x.abstr [] x.methods) from by simp [clsRight, hh]]
    refine W_skip (W_seq (W_rseqK [1, 45, 46, 47] (jh hX (by simp [h1]; rfl)) ?_))
    refine W_block (W_loopU (α := Nat) [1, 45, 46, 47] (fun i => [(47, .int .i64 i)]) (fun i => []) (fun i => i ≤ x.fields.length ∧ fldsR (x.fields.take i) (x.fields.drop i) = fldsR [] x.fields) (fun i => x.fields.length - i) (0) (fun i => by simp; rfl) (by simp) ?_ ?_)
    · simp
    rintro i ⟨hi, hI⟩
    refine jq [1, 45, 46, 47, 48] ?_
    refine W_seq (jd (fun h4 => ?_) (fun h4 => ?_))
    · try simp at h4
      rw [List.drop_eq_getElem_cons h4] at hI
      simp only [fldsR] at hI
      have hfx := fix_first (p := fun f : Fld => decide (f.name = x.fields[i].name)) h4 (by simp)
      refine W_skip (W_seq (W_block (W_rseqK [1, 3, 4, 45, 46, 47] (jh hX (by simp [h1, h4]; rfl)) ?_)))
      refine W_rseqK [1, 45, 46, 47, 69] (js hX 2 (by simp [h1, h4]; rfl) (jc [] (c:=(by apply ct_impl_NameRight <;> first | assumption | omega | (have := mem_sum (f := sizeF) (List.getElem_mem h4); simp only [sizeF] at *; (try simp only [atL_lt h4]); omega) | (have := mem_sum (f := sizeM) (List.getElem_mem h10); (try simp only [atL_lt h10]); omega))) (a:=cb_impl_NameRight) (k:=(jt 2 (k:=(jm 5 56 [1, 3, 4, 45, 46, 47, 61] (p:=fun b6_5 => by (try simp at b6_5); exact (jh hX (by simp [-atD_lt, -atL_lt]; rfl))) (q:=fun b6_5 => by (try simp at b6_5); exact (js hX 2 (by simp [-atD_lt, -atL_lt, h1, h4]; rfl) (Runs.call [] rfl (by simp) rfl (by simp [-atD_lt, -atL_lt]; rfl) (by simp; rfl) (by apply ct_impl_typeRight <;> first | assumption | omega | (have := mem_sum (f := sizeF) (List.getElem_mem h4); simp only [sizeF] at *; (try simp only [atL_lt h4]); omega) | (have := mem_sum (f := sizeM) (List.getElem_mem h10); (try simp only [atL_lt h10]); omega)) cb_impl_typeRight (by simp) (by simp) (by simp [-atD_lt, -atL_lt]; rfl) (jh hX (by simp [-atD_lt, -atL_lt]; rfl))))) (k:=(jt 1 (k:=(jm 7 62 [1, 45, 46, 47, 69] (p:=fun b6_11 => by (try simp at b6_11); exact (jh hX (by simp [-atD_lt, -atL_lt]; rfl))) (q:=fun b6_11 => by (try simp at b6_11); exact (js hX 3 (by simp [-atD_lt, -atL_lt, h1, h4]; rfl) (Runs.call [] rfl (by simp) rfl (by simp [-atD_lt, -atL_lt]; rfl) (by simp; rfl) (by apply ct_impl_Class_fieldAt <;> first | assumption | omega | (have := mem_sum (f := sizeF) (List.getElem_mem h4); simp only [sizeF] at *; (try simp only [atL_lt h4]); omega) | (have := mem_sum (f := sizeM) (List.getElem_mem h10); (try simp only [atL_lt h10]); omega)) cb_impl_Class_fieldAt (by simp) (by simp) (by simp [-atD_lt, -atL_lt]; rfl) (jh hX (by simp [-atD_lt, -atL_lt]; rfl))))) (k:=jf))))))))))) ?_
      refine jd (fun h6 => ?_) (fun h6 => ?_)
      · try simp at h6
        refine jq [2] ?_
        refine W_ret (je (by simp [h1, h4]; rfl) ?_)
        have h6b : (nameRight x.fields[i].name && typeRight x.fields[i].type && (x.fields.take i).all (fun g => !decide (g.name = x.fields[i].name))) = false := by rw [← hfx]; grind
        rw [← hI, h6b]; rfl
      · try simp at h6
        have h6b : (nameRight x.fields[i].name && typeRight x.fields[i].type && (x.fields.take i).all (fun g => !decide (g.name = x.fields[i].name))) = true := by rw [← hfx]; grind
        refine W_skip (W_reg (jh hX (by simp; (try (simp (disch := omega) only [wrap_i64]; (try simp))); rfl)) ?_)
        refine round_endT (i + 1) [1, 45, 46, 47] 1 (by simp [hX]) (by simp) (by simp [h1, h4]; try (simp (disch := omega) only [wrap_i64])) ?_ ?_
        · exact ⟨by omega, by rw [List.take_succ_eq_append_getElem h4, ← hI, h6b]; simp⟩
        · omega
    · try simp at h4
      rw [List.drop_eq_nil_of_le h4] at hI
      simp only [fldsR] at hI
      rw [← hI, Bool.true_and]
      refine W_exit (W_seq (W_rseqK [1, 72, 73, 74] (jh hX (by simp [h1, h4]; rfl)) ?_))
      refine W_block (W_loopU (α := Nat) [1, 72, 73, 74] (fun i => [(74, .int .i64 i)]) (fun i => []) (fun i => i ≤ x.methods.length ∧ mthsR x.abstr (x.methods.take i) (x.methods.drop i) = mthsR x.abstr [] x.methods) (fun i => x.methods.length - i) (0) (fun i => by simp; rfl) (by simp) ?_ ?_)
      · simp
      rintro i ⟨hi2, hI2⟩
      refine jq [1, 72, 73, 74, 75] ?_
      refine W_seq (jd (fun h10 => ?_) (fun h10 => ?_))
      · try simp at h10
        rw [List.drop_eq_getElem_cons h10] at hI2
        simp only [mthsR] at hI2
        have hfx := fix_first (p := fun m : Mth => decide (m.name = x.methods[i].name) && decide (m.desc = x.methods[i].desc)) h10 (by simp)
        refine W_skip (W_seq (W_block (W_rseqK [1, 5, 6, 72, 73, 74] (jh hX (by simp [h1, h4, h10]; rfl)) ?_)))
        refine W_rseqK [1, 72, 73, 74, 100] (js hX 1 (by simp [h1, h4, h10]; rfl) (jc [] (c:=(by apply ct_impl_MethodRight <;> first | assumption | omega | (have := mem_sum (f := sizeF) (List.getElem_mem h4); simp only [sizeF] at *; (try simp only [atL_lt h4]); omega) | (have := mem_sum (f := sizeM) (List.getElem_mem h10); (try simp only [atL_lt h10]); omega))) (a:=cb_impl_MethodRight) (k:=(jt 2 (k:=(jm 8 82 [1, 5, 6, 72, 73, 74, 90] (p:=fun b12_4 => by (try simp at b12_4); exact (jh hX (by simp [-atD_lt, -atL_lt]; rfl))) (q:=fun b12_4 => by (try simp at b12_4); exact (js hX 3 (by simp [-atD_lt, -atL_lt, h1, h4, h10]; rfl) (jm 4 85 [1, 5, 6, 72, 73, 74, 82, 89] (p:=fun b12_7 => by (try simp at b12_7); exact (jh hX (by simp [-atD_lt, -atL_lt, h1, h4, h10]; rfl))) (q:=fun b12_7 => by (try simp at b12_7); exact (jh hX (by simp [-atD_lt, -atL_lt]; rfl))) (k:=(jh hX (by simp [-atD_lt, -atL_lt]; rfl)))))) (k:=(jt 1 (k:=(jm 9 91 [1, 72, 73, 74, 100] (p:=fun b12_13 => by (try simp at b12_13); exact (jh hX (by simp [-atD_lt, -atL_lt]; rfl))) (q:=fun b12_13 => by (try simp at b12_13); exact (js hX 5 (by simp [-atD_lt, -atL_lt, h1, h4, h10]; rfl) (Runs.call [] rfl (by simp) rfl (by simp [-atD_lt, -atL_lt]; rfl) (by simp; rfl) (by apply ct_impl_Class_methodAt <;> first | assumption | omega | (have := mem_sum (f := sizeF) (List.getElem_mem h4); simp only [sizeF] at *; (try simp only [atL_lt h4]); omega) | (have := mem_sum (f := sizeM) (List.getElem_mem h10); (try simp only [atL_lt h10]); omega)) cb_impl_Class_methodAt (by simp) (by simp) (by simp [-atD_lt, -atL_lt]; rfl) (jh hX (by simp [-atD_lt, -atL_lt]; rfl))))) (k:=jf))))))))))) ?_
        refine jd (fun h12 => ?_) (fun h12 => ?_)
        · try simp at h12
          refine jq [2] ?_
          refine W_ret (je (by simp [h1, h4, h10]; rfl) ?_)
          have h12b : (mthRight x.methods[i] && !(x.methods[i].abstr && !x.abstr) && (x.methods.take i).all (fun g => !(decide (g.name = x.methods[i].name) && decide (g.desc = x.methods[i].desc)))) = false := by rw [← hfx]; grind
          rw [← hI2, h12b]; rfl
        · try simp at h12
          have h12b : (mthRight x.methods[i] && !(x.methods[i].abstr && !x.abstr) && (x.methods.take i).all (fun g => !(decide (g.name = x.methods[i].name) && decide (g.desc = x.methods[i].desc)))) = true := by rw [← hfx]; grind
          refine W_skip (W_reg (jh hX (by simp; (try (simp (disch := omega) only [wrap_i64]; (try simp))); rfl)) ?_)
          refine round_endT (i + 1) [1, 72, 73, 74] 1 (by simp [hX]) (by simp) (by simp [h1, h4, h10]; try (simp (disch := omega) only [wrap_i64])) ?_ ?_
          · exact ⟨by omega, by rw [List.take_succ_eq_append_getElem h10, ← hI2, h12b]; simp⟩
          · omega
      · try simp at h10
        rw [List.drop_eq_nil_of_le h10] at hI2
        simp only [mthsR] at hI2
        rw [← hI2]
        refine W_exit (jq [2] ?_)
        refine W_ret (je (by simp [h1, h4, h10]; rfl) ?_)
        simp
end Go.Proofs
namespace Go.Proofs
open Go Go.Ev


theorem cb_impl_world_check_1 : Callable Tryz.prog 155 := ⟨_, Tryz.func155, by kernel_rfl, by kernel_rfl⟩
theorem ct_impl_world_check_1 {l : List Cls} (hl : l.length ≤ 1099511627776) {c : Cls} {k : Int} (h : sizeC c ≤ 1099511627776) : Ct Tryz.prog 155 [.int .i64 k, eC c, .fp [wv l]] [] (.int .i64 (pI1 l c k)) [] := by
  refine Ct_bodyS tok Tryz.func155 rfl 25 (by kernel_rfl) (by kernel_rfl) fun X hX => ?_
  refine jq [0, 2, 4] ?_
  refine W_seq (W_block (W_rseqK [0, 2, 4, 6] (jt 1 (k:=(jc [] (c:=(by apply ct_impl_ClassRight <;> first | assumption | omega | (simp at *; omega) | simp_all)) (a:=cb_impl_ClassRight) (k:=jr)))) ?_))
  refine jd (fun h1 => ?_) (fun h1 => ?_)
  · try simp at h1
    refine jq [5] ?_
    refine W_ret (je0 ?_)
    simp only [pI1]
    simp_all
  · try simp at h1
    refine jD [10] (jS 2 (by simp; rfl) (jC (c:=by apply ct_impl_isBuiltIn <;> first | assumption | omega | (simp at *; omega) | simp_all) (a:=cb_impl_isBuiltIn) (k:=(jS 1 (by simp; rfl) (jM 10 14 [24] (p:=fun b3_4 => by (try simp at b3_4); exact (jQ (by simp [-atD_lt, -atL_lt]; rfl))) (q:=fun b3_4 => by (try simp at b3_4); exact (jQ (by simp [-atD_lt, -atL_lt]; rfl))) (k:=(jQ (by simp; rfl)))))))) ?_
    refine jd (fun h3 => ?_) (fun h3 => ?_)
    · try simp at h3
      refine jq [5] ?_
      refine W_ret (je0 ?_)
      simp only [pI1]
      simp_all
    · try simp at h3
      refine W_skip (jq [5] ?_)
      refine W_ret (je0 ?_)
      simp only [pI1]
      simp_all
end Go.Proofs
namespace Go.Proofs
open Go Go.Ev


theorem cb_impl_world_known : Callable Tryz.prog 52 := ⟨_, Tryz.func52, by kernel_rfl, by kernel_rfl⟩
theorem ct_impl_world_known {l : List Cls} {n : Str} (hl : l.length ≤ 1099511627776) : Ct Tryz.prog 52 [wv l, .str n] [] (.bool (isKnown l n)) [] := by
  refine Ct_bodyS tok Tryz.func52 rfl 21 (by kernel_rfl) (by kernel_rfl) fun X hX => ?_
  refine jq [0, 1] ?_
  refine jq [1, 6] ?_
  refine W_rseqK [4] (jt 2 (k:=(jm 3 17 [20] (p:=fun b2_2 => by (try simp at b2_2); exact (jh hX (by simp [-atD_lt, -atL_lt]; rfl))) (q:=fun b2_2 => by (try simp at b2_2); exact (js hX 1 (by simp [-atD_lt, -atL_lt]; rfl) (Runs.call [] rfl (by simp) rfl (by simp [-atD_lt, -atL_lt]; rfl) (by simp; rfl) (by apply ct_impl_isBuiltIn <;> first | assumption | omega | (simp at *; omega) | simp_all) cb_impl_isBuiltIn (by simp) (by simp) (by simp [-atD_lt, -atL_lt]; rfl) (jh hX (by simp [-atD_lt, -atL_lt]; rfl))))) (k:=jr)))) ?_
  refine W_ret (je0 ?_)
  unfold isKnown
  simp_all [bIn, Bool.or_comm]
end Go.Proofs
namespace Go.Proofs
open Go Go.Ev


theorem cb_impl_world_class : Callable Tryz.prog 140 := ⟨_, Tryz.func140, by kernel_rfl, by kernel_rfl⟩
theorem ct_impl_world_class {l : List Cls} {n : Str} (hl : l.length ≤ 1099511627776) : Ct Tryz.prog 140 [wv l, .str n] [] (.tup [eC (clsOf l n), .bool (decide (0 ≤ findFrom n l 0))]) [] := by
  refine Ct_bodyS tok Tryz.func140 rfl 27 (by kernel_rfl) (by kernel_rfl) fun X hX => ?_
  refine jq [0, 1, 4] ?_
  refine jq [0, 4, 6, 7] ?_
  refine W_seq (jq [0, 4, 6, 18] ?_)
  refine jd (fun h2 => ?_) (fun h2 => ?_)
  · try simp at h2
    refine jq [4, 5] ?_
    refine W_ret (W_retR (by simp; rfl) ?_ rfl)
    rw [clsOf_none (by omega), decide_eq_false (p := 0 ≤ findFrom n l 0) (by omega)]
    exact Wk.tup (.cons wk_zC (.cons (Wk.refl _) .nil))
  · try simp at h2
    obtain ⟨i, hi, hf, hp, hcl, _⟩ := clsOf_found h2
    refine W_skip (W_rseqK [4, 5] (jh hX (by simp [hi, hp]; rfl)) ?_)
    refine W_ret (W_retR (by simp [hi, hp]; rfl) ?_ rfl)
    rw [hcl, decide_eq_true h2]
    exact Wk.refl _
end Go.Proofs
namespace Go.Proofs
open Go Go.Ev


theorem cb_impl_world_superCode : Callable Tryz.prog 158 := ⟨_, Tryz.func158, by kernel_rfl, by kernel_rfl⟩
theorem ct_impl_world_superCode {l : List Cls} (hl : l.length ≤ 1099511627776) {c : Cls} : Ct Tryz.prog 158 [wv l, eC c] [] (.int .i64 (superCode l c)) [] := by
  have hcase : ((decide (0 ≤ findFrom c.super l 0)) = true ∧ (clsOf l c.super).final = true) ∨ ((decide (0 ≤ findFrom c.super l 0)) = true ∧ (clsOf l c.super).final = false) ∨ ((decide (0 ≤ findFrom c.super l 0)) = false ∧ True) := by
    cases decide (0 ≤ findFrom c.super l 0) <;> cases (clsOf l c.super).final <;> simp
  rcases hcase with ⟨hc1, hc2⟩ | ⟨hc1, hc2⟩ | ⟨hc1, hc2⟩
  all_goals
    refine Ct_bodyS tok Tryz.func158 rfl 33 (by kernel_rfl) (by kernel_rfl) fun X hX => ?_
    refine jq [0, 3] ?_
    refine W_rseqK [0, 3, 5, 6] (js hX 3 (by simp [hc1, hc2]; rfl) (jF (c:=(by apply ct_impl_world_class <;> first | assumption | omega | (simp at *; omega) | simp_all)) (a:=cb_impl_world_class) (k:=(jh hX (by simp [hc1, hc2]; rfl))))) ?_
    refine W_seq (W_block (W_rseqK [3, 5, 6, 14] (js hX 3 (by simp [hc1, hc2]; rfl) (jc [] (c:=(by apply ct_impl_world_known <;> first | assumption | omega | (simp at *; omega) | simp_all)) (a:=cb_impl_world_known) (k:=jr))) ?_))
    refine jd (fun h2 => ?_) (fun h2 => ?_)
    · try simp at h2
      refine jq [4] ?_
      refine W_ret (je (by simp [hc1, hc2]; rfl) ?_)
      simp only [superCode]
      (try simp_all) <;> grind
    · try simp at h2
      first | (refine jL 10 [0, 1, 2, 3, 4, 5, 8, 9] [6, 7] [20] ([0, 1]) hX (by simp [hc1, hc2]; rfl) (jH (p:=fun X hX => jr) (k:=(jH (p:=fun X hX => jr) (k:=.nil)))) jr ?_) | (refine jL 10 [0, 1, 2, 3, 4, 5, 8, 9] [6, 7] [20] ([0, 1]) hX (by simp [hc1, hc2]; rfl) (jH (p:=fun X hX => (jc [] (c:=(by apply ct_impl_builtIn <;> first | assumption | omega | (simp at *; omega) | simp_all)) (a:=cb_impl_builtIn) (k:=jf))) (k:=(jH (p:=fun X hX => (jh hX (by simp [hc1, hc2]; rfl))) (k:=.nil)))) (jB (c:=(by apply (ct_slices_Contains_string_string (l := builtIn.drop 2)) <;> first | decide | simp)) (a:=cb_slices_Contains_string_string) (k:=jr)) ?_) | (refine jL 10 [0, 1, 2, 3, 4, 5, 8, 9] [6, 7] [20] ([0, 1]) hX (by simp [hc1, hc2]; rfl) (jH (p:=fun X hX => (jc [] (c:=(by apply ct_impl_builtIn <;> first | assumption | omega | (simp at *; omega) | simp_all)) (a:=cb_impl_builtIn) (k:=jf))) (k:=(jH (p:=fun X hX => (jh hX (by simp [hc1, hc2]; rfl))) (k:=.nil)))) (jB (c:=(by apply (ct_slices_Contains_string_string (l := builtIn.drop 2)) <;> first | decide | simp)) (a:=cb_slices_Contains_string_string) (k:=jr)) ?_)
      refine jd (fun h4 => ?_) (fun h4 => ?_)
      · try simp at h4
        all_goals
          refine jq [4] ?_
          refine W_ret (je (by simp [hc1, hc2]; rfl) ?_)
          simp only [superCode]
          (try simp_all) <;> grind
      · try simp at h4
        all_goals
          refine W_skip (jq [4] ?_)
          refine W_ret (je (by simp [hc1, hc2]; rfl) ?_)
          simp only [superCode]
          (try simp_all) <;> grind
end Go.Proofs
namespace Go.Proofs
open Go Go.Ev


theorem cb_impl_world_check_2 : Callable Tryz.prog 157 := ⟨_, Tryz.func157, by kernel_rfl, by kernel_rfl⟩
theorem ct_impl_world_check_2 {l : List Cls} (hl : l.length ≤ 1099511627776) {c : Cls} {k : Int} : Ct Tryz.prog 157 [.int .i64 k, eC c, .fp [wv l]] [] (.int .i64 (superCode l c)) [] := by
  refine Ct_bodyS tok Tryz.func157 rfl 9 (by kernel_rfl) (by kernel_rfl) fun X hX => ?_
  refine jq [2, 4] ?_
  refine W_rseqK [5] (jt 2 (k:=(jc [] (c:=(by apply ct_impl_world_superCode <;> first | assumption | omega | (simp at *; omega) | simp_all)) (a:=cb_impl_world_superCode) (k:=jr)))) ?_
  refine W_ret (je0 ?_)
  simp_all
end Go.Proofs
namespace Go.Proofs
open Go Go.Ev


theorem cb_impl_codeUnless : Callable Tryz.prog 160 := ⟨_, Tryz.func160, by kernel_rfl, by kernel_rfl⟩
theorem ct_impl_codeUnless {b : Bool} {n : Int} : Ct Tryz.prog 160 [.bool b, .int .i64 n] [] (.int .i64 (if b = true then 0 else n)) [] := by
  refine Ct_bodyS tok Tryz.func160 rfl 7 (by kernel_rfl) (by kernel_rfl) fun X hX => ?_
  refine jq [0, 1] ?_
  refine W_seq (jq [1, 5] ?_)
  refine jd (fun h1 => ?_) (fun h1 => ?_)
  · try simp at h1
    refine jq [4] ?_
    refine W_ret (je0 ?_)
    simp_all
  · try simp at h1
    refine W_skip (jq [4] ?_)
    refine W_ret (je0 ?_)
    simp_all
end Go.Proofs
namespace Go.Proofs
open Go Go.Ev


theorem cb_impl_typeClass : Callable Tryz.prog 59 := ⟨_, Tryz.func59, by kernel_rfl, by kernel_rfl⟩
theorem ct_impl_typeClass {t : Str} (ht : t.length ≤ 1099511627776) : Ct Tryz.prog 59 [.str t] [] (.str (typeClass t)) [] := by
  refine Ct_bodyS tok Tryz.func59 rfl 29 (by kernel_rfl) (by kernel_rfl) fun X hX => ?_
  refine jq [0] ?_
  refine W_seq (W_block (W_rseqK [0, 3] (jt 3 (k:=(jm 3 6 [0, 9] (p:=fun b1_3 => by (try simp at b1_3); exact (jh hX (by simp [-atD_lt, -atL_lt]; rfl))) (q:=fun b1_3 => by (try simp at b1_3); exact (jh hX (by simp [-atD_lt, -atL_lt]; rfl))) (k:=(jt 1 (k:=(jm 4 10 [0, 14] (p:=fun b1_7 => by (try simp at b1_7); exact (jh hX (by simp [-atD_lt, -atL_lt]; rfl))) (q:=fun b1_7 => by (try simp at b1_7); exact (js hX 1 (by simp [-atD_lt, -atL_lt]; rfl) (Runs.call [] rfl (by simp) rfl (by simp [-atD_lt, -atL_lt]; rfl) (by simp; rfl) (by apply ct_impl_typeRight <;> first | assumption | omega | (simp at *; omega) | simp_all) cb_impl_typeRight (by simp) (by simp) (by simp [-atD_lt, -atL_lt]; rfl) (jh hX (by simp [-atD_lt, -atL_lt]; rfl))))) (k:=jr)))))))) ?_))
  refine jd (fun h1 => ?_) (fun h1 => ?_)
  · try simp at h1
    have hx : typeClass t = [] := typeClass_no (fun e => by
      rcases h1 with (h1 | h1) | h1
      · exact .inl h1
      · exact .inr h1
      · rw [h1] at e; cases e)
    refine jq [2] ?_
    refine W_ret (je0 ?_)
    rw [hx]
  · try simp at h1
    obtain ⟨hl1, hl2, hx⟩ := typeClass_eq h1.2 h1.1.1 h1.1.2
    rw [hx]
    have hl0 : 0 < t.length := by omega
    have hat := isAt_lt (n := 91) hl0
    have hs1 : 0 ≤ (t.length : Int) - 1 := by omega
    have hs2 : ((t.length : Int) - 1).toNat = t.length - 1 := by omega
    have hs3 : t.length - 1 ≤ t.length := by omega
    have hs4 : 1 ≤ t.length - 1 := by omega
    have hs6 : 1 ≤ t.length := by omega
    refine W_rseqK [0, 15] (jh hX (by simp [hl0, hs1, hs2, hs3, hs4, hs6]; rfl)) ?_
    refine jd (fun h3 => ?_) (fun h3 => ?_)
    · try simp at h3
      have h3b : isAt t 0 91 = true := by rw [hat]; simpa using h3
      have hs5 : 2 ≤ t.length - 1 := by have := hl2 h3b; omega
      rw [if_pos h3b]
      refine W_rseqK [2] (jh hX (by simp [hl0, hs1, hs2, hs3, hs4, hs6, hs5]; (try (simp (disch := omega) only [wrap_i64]; (try simp [hl0, hs1, hs2, hs3, hs4, hs6, hs5]))); rfl)) ?_
      refine W_ret (je (by simp [hl0, hs1, hs2, hs3, hs4, hs6, hs5]; rfl) ?_)
      simp [seg]
    · try simp at h3
      have h3b : isAt t 0 91 = false := by rw [hat]; simpa using h3
      rw [if_neg (by simp [h3b])]
      refine W_skip (W_rseqK [2] (jh hX (by simp [hl0, hs1, hs2, hs3, hs4, hs6]; (try (simp (disch := omega) only [wrap_i64]; (try simp [hl0, hs1, hs2, hs3, hs4, hs6]))); rfl)) ?_)
      refine W_ret (je (by simp [hl0, hs1, hs2, hs3, hs4, hs6]; rfl) ?_)
      simp [seg]
end Go.Proofs
namespace Go.Proofs
open Go Go.Ev


theorem cb_impl_world_namesOK_1 : Callable Tryz.prog 204 := ⟨_, Tryz.func204, by kernel_rfl, by kernel_rfl⟩
theorem ct_impl_world_namesOK_1 {l : List Cls} (hl : l.length ≤ 1099511627776) {t : Str} (ht : t.length ≤ 1099511627776) : Ct Tryz.prog 204 [.str t, .fp [wv l]] [] (.bool (typeK l t)) [] := by
  refine Ct_bodyS tok Tryz.func204 rfl 14 (by kernel_rfl) (by kernel_rfl) fun X hX => ?_
  refine jq [0, 1] ?_
  refine W_rseqK [1, 4] (jt 1 (k:=(jc [] (c:=(by apply ct_impl_typeClass <;> first | assumption | omega | (simp at *; omega) | simp_all)) (a:=cb_impl_typeClass) (k:=jr)))) ?_
  refine W_rseqK [3] (jt 3 (k:=(jm 4 9 [13] (p:=fun b2_3 => by (try simp at b2_3); exact (jh hX (by simp [-atD_lt, -atL_lt]; rfl))) (q:=fun b2_3 => by (try simp at b2_3); exact (js hX 2 (by simp [-atD_lt, -atL_lt]; rfl) (Runs.call [] rfl (by simp) rfl (by simp [-atD_lt, -atL_lt]; rfl) (by simp; rfl) (by apply ct_impl_world_known <;> first | assumption | omega | (simp at *; omega) | simp_all) cb_impl_world_known (by simp) (by simp) (by simp [-atD_lt, -atL_lt]; rfl) (jh hX (by simp [-atD_lt, -atL_lt]; rfl))))) (k:=jr)))) ?_
  refine W_ret (je0 ?_)
  rw [← typeK_of]
end Go.Proofs
namespace Go.Proofs
open Go Go.Ev


theorem cb_impl_world_namesOK_2 : Callable Tryz.prog 207 := ⟨_, Tryz.func207, by kernel_rfl, by kernel_rfl⟩
theorem ct_impl_world_namesOK_2 {l : List Cls} (hl : l.length ≤ 1099511627776) {t : Str} (ht : t.length ≤ 1099511627776) : Ct Tryz.prog 207 [.str t, .fp [.clo (.func 204) [] [.fp [wv l]]]] [] (.bool (!typeK l t)) [] := by
  refine Ct_bodyS tok Tryz.func207 rfl 8 (by kernel_rfl) (by kernel_rfl) fun X hX => ?_
  refine jq [0, 1] ?_
  refine W_rseqK [3] (jt 2 (k:=(jc [] (c:=(by apply ct_impl_world_namesOK_1 <;> first | assumption | omega | (simp at *; omega) | simp_all)) (a:=cb_impl_world_namesOK_1) (k:=jr)))) ?_
  refine W_ret (je0 ?_)
  simp_all
end Go.Proofs
namespace Go.Proofs
open Go Go.Ev


theorem cb_slices_IndexFunc_string_string : Callable Tryz.prog 233 := ⟨_, Tryz.func233, by kernel_rfl, by kernel_rfl⟩
theorem ct_slices_IndexFunc_string_string {cs : List Cls} (hc : cs.length ≤ 1099511627776) {l : List Str} (hl : l.length ≤ 1099511627776) (hs : ∀ x ∈ l, x.length ≤ 1099511627776) : Ct Tryz.prog 233 [.lst false 1 (l.map V.str), .clo (.func 207) [] [.fp [.clo (.func 204) [] [.fp [wv cs]]]]] [] (.int .i64 (fix (fun t => !typeK cs t) l)) [] := by
  refine Ct_bodyS tok Tryz.func233 rfl 19 (by kernel_rfl) (by kernel_rfl) fun X hX => ?_
  refine jq [0, 1] ?_
  refine W_seq (jq [0, 1, 7, 8] ?_)
  refine W_block (W_loopU (α := Nat) [0, 1, 7, 8] (fun i => [(8, .int .i64 i)]) (fun i => []) (fun i => i ≤ l.length ∧ ∀ x ∈ l.take i, (fun t => !typeK cs t) x = false) (fun i => l.length - i) (0) (fun i => by simp; rfl) (by simp) ?_ ?_)
  · simp
  rintro i ⟨hi, hI⟩
  refine jq [0, 1, 7, 8, 9] ?_
  refine W_seq (jd (fun h2 => ?_) (fun h2 => ?_))
  · try simp at h2
    refine W_skip (W_seq (W_block (jq [0, 1, 5, 7, 8] ?_)))
    refine W_rseqK [0, 1, 5, 7, 8, 16] (js hX 5 (by simp [h2]; rfl) (jc [] (c:=(by apply ct_impl_world_namesOK_2 <;> first | assumption | exact hs _ (List.getElem_mem h2) | omega)) (a:=cb_impl_world_namesOK_2) (k:=jf))) ?_
    refine jd (fun h4 => ?_) (fun h4 => ?_)
    · try simp at h4
      refine jq [4] ?_
      refine W_ret (je (by simp [h2]; rfl) ?_)
      rw [fix_hit h2 hI (by simpa using h4)]
    · try simp at h4
      refine W_skip (W_reg (jh hX (by simp; (try (simp (disch := omega) only [wrap_i64]; (try simp))); rfl)) ?_)
      refine round_end (i + 1) [0, 1, 7, 8] (by simp [h2]; try (simp (disch := omega) only [wrap_i64])) ?_ ?_
      · exact ⟨by omega, take_not h2 hI (by simpa using h4)⟩
      · omega
  · try simp at h2
    refine W_exit (jq [4] ?_)
    refine W_ret (je (by simp [h2]; rfl) ?_)
    rw [fix_none (p := fun t => !typeK cs t) (fun x hx => hI x (by rw [List.take_of_length_le h2]; exact hx))]
end Go.Proofs
namespace Go.Proofs
open Go Go.Ev


theorem cb_slices_ContainsFunc_string_string : Callable Tryz.prog 206 := ⟨_, Tryz.func206, by kernel_rfl, by kernel_rfl⟩
theorem ct_slices_ContainsFunc_string_string {cs : List Cls} (hc : cs.length ≤ 1099511627776) {l : List Str} (hl : l.length ≤ 1099511627776) (hs : ∀ x ∈ l, x.length ≤ 1099511627776) : Ct Tryz.prog 206 [.lst false 1 (l.map V.str), .clo (.func 207) [] [.fp [.clo (.func 204) [] [.fp [wv cs]]]]] [] (.bool (l.any (fun t => !typeK cs t))) [] := by
  refine Ct_bodyS tok Tryz.func206 rfl 9 (by kernel_rfl) (by kernel_rfl) fun X hX => ?_
  refine jq [0, 1] ?_
  refine W_rseqK [4] (jt 2 (k:=(jc [] (c:=(by apply ct_slices_IndexFunc_string_string <;> first | assumption | omega | (simp at *; omega) | simp_all)) (a:=cb_slices_IndexFunc_string_string) (k:=jr)))) ?_
  refine W_ret (je0 ?_)
  rw [← fix_ge]
end Go.Proofs
